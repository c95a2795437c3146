import PyProof.Rows.All
import Wide.All
import OpenK.AllK
import Wide.FinOn
import HandS.ForDict
import HandS.ForMost
import HandS.Deep
import HandS.IsInst
import HandS.Flow
import HandS.NoneIn
import HandS.Zip
import HandS.Rev
import HandS.Ends
import HandS.Strs
import HandS.Flt
import HandS.Style
import HandS.TupAny
import HandS.TupMul
import HandS.RevTup
import KE.DatumOrd
import PyProof.ReprRoads
import PyProof.ReprLen
import HandS.More
import KE.SortData
import KE.GoesZip
import KE.GoesMore
import KE.GoesEnum
import HandS.Conv
import HandS.TupLen
import HandS.WordsDict
import HandS.Iter
import KE.KDictPairs
import HandS.SetFor
import HandS.Call
import HandS.DictTup
import HandS.RevRange
import HandS.SetKeys
import KE.KEqDict
import KE.DataMinMax
import HandS.TupSets
import HandS.ExcCtx
import HandS.ExcIs
import HandS.HotCalls
import KE.RegKIsAll
import PySem.Challenge.RW_millpath_k60_needs_in_a_ring
set_option Elab.async false
set_option linter.all false
set_option maxRecDepth 100000
set_option maxHeartbeats 4000000
/-! DL0: data as plain trees beside the abstract heap: what a value stands for, the local state of a def, its relation to the heap. -/
namespace DL
open PySem PySem.Spec PyProof.Rows L2
abbrev P := PyData

/-! ### what a value stands for -/
def keyP : Key → P
  | .inl i => .int i
  | .inr x => .str x
def qK (kvs : List (Key × V)) : List (P × V) := kvs.map fun p => (keyP p.1, p.2)
def qT (kvs : List (List Key × V)) : List (P × V) := kvs.map fun p => (.tuple (p.1.map keyP), p.2)
def FzL (H : Hp) (a : Addr) (vs : List V) : Prop := ∃ o, H a = some (.frz o (.lst vs))
def FzD (H : Hp) (a : Addr) (qs : List (P × V)) : Prop := (∃ o kvs, H a = some (.frz o (.dK kvs)) ∧ qs = qK kvs) ∨ (∃ o kvs, H a = some (.frz o (.dT kvs)) ∧ qs = qT kvs)
def RawD (H : Hp) (a : Addr) (qs : List (P × V)) : Prop := (∃ kvs, H a = some (.dK kvs) ∧ qs = qK kvs) ∨ (∃ kvs, H a = some (.dT kvs) ∧ qs = qT kvs)

mutual
/-- data that no one changes: frozen lists and dicts, tuples -/
inductive Rep (H : Hp) : V → P → Prop
  | non : Rep H .non .none
  | bl (b : Bool) : Rep H (.bl b) (.bool b)
  | int (i : Int) : Rep H (.int i) (.int i)
  | str (x : Str) : Rep H (.str x) (.str x)
  | lst {a : Addr} {vs : List V} {xs : List P} : FzL H a vs → RepL H vs xs → Rep H (.ref a) (.list xs)
  | tup {a : Addr} {vs : List V} {xs : List P} : H a = some (.tup vs) → RepL H vs xs → Rep H (.ref a) (.tuple xs)
  | dct {a : Addr} {qs : List (P × V)} {vs : List V} {xs : List P} {ps : List (P × P)} : FzD H a qs → qs.map (·.2) = vs → ps.map (·.2) = xs → RepL H vs xs → qs.map (·.1) = ps.map (·.1) → Rep H (.ref a) (.dict ps)
inductive RepL (H : Hp) : List V → List P → Prop
  | nil : RepL H [] []
  | cons {v : V} {vs : List V} {p : P} {ps : List P} : Rep H v p → RepL H vs ps → RepL H (v :: vs) (p :: ps)
end
mutual
/-- data that the text's top has written -/
inductive RepW (K : PySem.W.Frag) : V → P → Prop
  | non : RepW K .non .none
  | bl (b : Bool) : RepW K (.bl b) (.bool b)
  | int (i : Int) : RepW K (.int i) (.int i)
  | str (x : Str) : RepW K (.str x) (.str x)
  | lst {a : Addr} {vs : List V} {xs : List P} {o : Obj} {its : Array Value} {n : Nat} : K.lookup a = some o → o.cls = .type "list" → o.dict = none → o.data = .seq its n → its.size ≤ sizeLine → Vals vs its.toList → RepWL K vs xs → RepW K (.ref a) (.list xs)
  | tup {a : Addr} {vs : List V} {xs : List P} {o : Obj} {its : Array Value} {n : Nat} : K.lookup a = some o → o.cls = .type "tuple" → o.dict = none → o.data = .seq its n → its.size ≤ sizeLine → Vals vs its.toList → RepWL K vs xs → RepW K (.ref a) (.tuple xs)
inductive RepWL (K : PySem.W.Frag) : List V → List P → Prop
  | nil : RepWL K [] []
  | cons {v : V} {vs : List V} {p : P} {ps : List P} : RepW K v p → RepWL K vs ps → RepWL K (v :: vs) (p :: ps)
end

/-- tuples and frozen things stay -/
structure Ext0 (H H' : Hp) : Prop where
  tups : ∀ b xs, H b = some (.tup xs) → H' b = some (.tup xs)
  frzs : ∀ b o u, H b = some (.frz o u) → H' b = some (.frz o u)
theorem Ext0.refl (H : Hp) : Ext0 H H := ⟨fun _ _ h => h, fun _ _ _ h => h⟩
theorem Ext0.trans {H H1 H2 : Hp} (a : Ext0 H H1) (b : Ext0 H1 H2) : Ext0 H H2 := ⟨fun c xs h => b.tups c xs (a.tups c xs h), fun c o u h => b.frzs c o u (a.frzs c o u h)⟩
theorem Ext0.of {H H' : Hp} (a : Same H H') : Ext0 H H' := ⟨fun b _ h => a b _ h, fun b _ _ h => a b _ h⟩
theorem Ext0.upd {H : Hp} {a : Addr} {o : HO} (h1 : ∀ xs, H a ≠ some (.tup xs)) (h2 : ∀ o u, H a ≠ some (.frz o u)) : Ext0 H (L2.upd H a o) :=
  ⟨fun b xs h => by rw [upd_ne (fun e => h1 xs (by rw [← e]; exact h))]; exact h, fun b o' u h => by rw [upd_ne (fun e => h2 o' u (by rw [← e]; exact h))]; exact h⟩
theorem FzL.ext {H H' : Hp} (x : Ext0 H H') {a : Addr} {vs : List V} (h : FzL H a vs) : FzL H' a vs := let ⟨o, h⟩ := h; ⟨o, x.frzs _ _ _ h⟩
theorem FzL.sq {K : PySem.W.Frag} {H : Hp} {a : Addr} {vs : List V} (h : FzL H a vs) : SqL K H a vs := let ⟨o, h⟩ := h; .inl (.inr ⟨o, h⟩)
theorem FzD.ext {H H' : Hp} (x : Ext0 H H') {a : Addr} {qs : List (P × V)} (h : FzD H a qs) : FzD H' a qs := by
  rcases h with ⟨o, kvs, h, e⟩ | ⟨o, kvs, h, e⟩
  · exact .inl ⟨o, kvs, x.frzs _ _ _ h, e⟩
  · exact .inr ⟨o, kvs, x.frzs _ _ _ h, e⟩
mutual
theorem Rep.ext {H H' : Hp} (x : Ext0 H H') : ∀ {v : V} {p : P}, Rep H v p → Rep H' v p
  | _, _, .non => .non
  | _, _, .bl b => .bl b
  | _, _, .int i => .int i
  | _, _, .str z => .str z
  | _, _, .lst h hs => .lst (h.ext x) (RepL.ext x hs)
  | _, _, .tup h hs => .tup (x.tups _ _ h) (RepL.ext x hs)
  | _, _, .dct h e1 e2 hs e => .dct (h.ext x) e1 e2 (RepL.ext x hs) e
theorem RepL.ext {H H' : Hp} (x : Ext0 H H') : ∀ {vs : List V} {ps : List P}, RepL H vs ps → RepL H' vs ps
  | _, _, .nil => .nil
  | _, _, .cons h t => .cons (Rep.ext x h) (RepL.ext x t)
end
section
variable {H : Hp}
theorem RepL.length : ∀ {vs : List V} {ps : List P}, RepL H vs ps → vs.length = ps.length
  | _, _, .nil => rfl
  | _, _, .cons _ t => congrArg (· + 1) (RepL.length t)
theorem RepL.append : ∀ {vs ws : List V} {ps qs : List P}, RepL H vs ps → RepL H ws qs → RepL H (vs ++ ws) (ps ++ qs)
  | _, _, _, _, .nil, s => s
  | _, _, _, _, .cons h t, s => .cons h (RepL.append t s)
theorem RepL.set {v : V} {p : P} (r : Rep H v p) : ∀ {vs : List V} {ps : List P} (i : Nat), RepL H vs ps → RepL H (vs.set i v) (ps.set i p)
  | _, _, _, .nil => .nil
  | _, _, 0, .cons _ t => .cons r t
  | _, _, i + 1, .cons h t => .cons h (RepL.set r i t)
theorem RepL.ints : ∀ {vs : List V} {is : List Int}, RepL H vs (is.map .int) → vs = is.map V.int
  | _, [], .nil => rfl
  | _, i :: is, .cons h t => by cases h; rw [RepL.ints t]; rfl
theorem RepL.of_ints : ∀ is : List Int, RepL H (is.map V.int) (is.map .int)
  | [] => .nil
  | i :: is => .cons (.int i) (RepL.of_ints is)
end
theorem Paired.get2 {α β : Type} {F : α → β → Prop} : ∀ {l : List α} {m : List β} {i : Nat} {b : β}, Paired F l m → m[i]? = some b → ∃ a, l[i]? = some a ∧ F a b
  | _, _, _, _, .nil, e => by simp at e
  | _, _, 0, _, .cons h t, e => by simp at e; subst e; exact ⟨_, rfl, h⟩
  | _, _, i + 1, _, .cons h t, e => by
    obtain ⟨a, e1, r⟩ := Paired.get2 (i := i) t (by simpa using e)
    exact ⟨a, by simpa using e1, r⟩
theorem Paired.get1 {α β : Type} {F : α → β → Prop} : ∀ {l : List α} {m : List β} {i : Nat} {a : α}, Paired F l m → l[i]? = some a → ∃ b, m[i]? = some b ∧ F a b
  | _, _, _, _, .nil, e => by simp at e
  | _, _, 0, _, .cons h t, e => by simp at e; subst e; exact ⟨_, rfl, h⟩
  | _, _, i + 1, _, .cons h t, e => by
    obtain ⟨a, e1, r⟩ := Paired.get1 (i := i) t (by simpa using e)
    exact ⟨a, by simpa using e1, r⟩
theorem Paired.app {α β : Type} {F : α → β → Prop} : ∀ {l l' : List α} {m m' : List β}, Paired F l m → Paired F l' m' → Paired F (l ++ l') (m ++ m')
  | _, _, _, _, .nil, s => s
  | _, _, _, _, .cons h t, s => .cons h (Paired.app t s)
theorem Paired.setp {α β : Type} {F : α → β → Prop} {a : α} {b : β} (r : F a b) : ∀ {l : List α} {m : List β} (i : Nat), Paired F l m → Paired F (l.set i a) (m.set i b)
  | _, _, _, .nil => .nil
  | _, _, 0, .cons _ t => .cons r t
  | _, _, i + 1, .cons h t => .cons h (Paired.setp r i t)

/-! ### the state of a def -/
/-- a list or dict of one name alone, changed by this def -/
inductive OC where
  | lst (xs : List P) | dct (ps : List (P × P))
/-- what an expression gives: data; written data; the cell n; the own thing in the i-th slot, as it stands; a new list or dict that no one has -/
inductive D where
  | pu (p : P) | wr (p : P) | rf (n : Nat) | bo (i : Nat) (c : OC) | nw (c : OC)
/-- a cell: a list, dict, object that several may hold -/
inductive MC where
  | lst (xs : List D) | dct (ps : List (P × D)) | obj (c : Str) (fs : List (Str × D)) | fz (p : P) | tup (ds : List D) | dead
/-- not frozen -/
def MC.live : MC → Bool
  | .fz _ => false
  | .tup _ => false
  | .dead => false
  | _ => true
inductive Sl where
  | val (d : D) | ow (c : OC)
abbrev Envi := List (Option Sl)
abbrev Sto := List MC

/-- what stays through a def: the written part, the classes, the heap and the cells at the entry -/
structure Gx where
  K : PySem.W.Frag
  cl : Str → Option Addr
  H0 : Hp
  n0 : Nat
  f0 : Nat → Addr

def RD (K : PySem.W.Frag) (H : Hp) (f : Nat → Addr) (L : Nat) (v : V) : D → Prop
  | .pu p => Rep H v p
  | .wr p => RepW K v p
  | .rf n => v = .ref (f n) ∧ n < L
  | .bo _ _ => False
  | .nw _ => False
def OCok (H : Hp) (a : Addr) : OC → Prop
  | .lst xs => ∃ vs, H a = some (.lst vs) ∧ RepL H vs xs
  | .dct ps => ∃ qs, RawD H a qs ∧ RepL H (qs.map (·.2)) (ps.map (·.2)) ∧ qs.map (·.1) = ps.map (·.1)
def MCok (G : Gx) (H : Hp) (f : Nat → Addr) (L : Nat) (a : Addr) : MC → Prop
  | .lst ds => ∃ vs, H a = some (.lst vs) ∧ Paired (RD G.K H f L) vs ds
  | .dct ps => ∃ qs, RawD H a qs ∧ Paired (RD G.K H f L) (qs.map (·.2)) (ps.map (·.2)) ∧ qs.map (·.1) = ps.map (·.1)
  | .obj c fs => ∃ C dx us, G.cl c = some C ∧ H a = some (.ins C dx us) ∧ Paired (RD G.K H f L) (us.map (·.2)) (fs.map (·.2)) ∧ us.map (·.1) = fs.map (·.1)
  | .fz p => (∃ od u, H a = some (.frz od u)) ∧ Rep H (.ref a) p
  | .tup ds => ∃ vs, H a = some (.tup vs) ∧ Paired (RD G.K H f L) vs ds
  | .dead => ∃ o, H a = some o

/-- the state stands for the slots and the heap -/
structure R (G : Gx) (σ : L2.St) (H : Hp) (e : Envi) (S : Sto) (f : Nat → Addr) : Prop where
  ln : e.length = σ.length
  val : ∀ (i : Nat) (d : D), e[i]? = some (some (.val d)) → ∃ v, σ[i]? = some (some v) ∧ RD G.K H f S.length v d
  own : ∀ (i : Nat) (c : OC), e[i]? = some (some (.ow c)) → ∃ a, σ[i]? = some (some (.ref a)) ∧ OCok H a c ∧ G.H0 a = none ∧ ∀ n, n < S.length → f n ≠ a
  sep : ∀ (i j : Nat) (c c' : OC) (a : Addr), i ≠ j → e[i]? = some (some (.ow c)) → e[j]? = some (some (.ow c')) → σ[i]? = some (some (.ref a)) → σ[j]? ≠ some (some (.ref a))
  cel : ∀ (n : Nat) (c : MC), S[n]? = some c → MCok G H f S.length (f n) c
  inj : ∀ (n m : Nat), n < S.length → m < S.length → f n = f m → n = m
  frm : ∀ b o, G.H0 b = some o → (∀ n, n < G.n0 → f n ≠ b) → H b = some o
  new : ∀ n, G.n0 ≤ n → n < S.length → G.H0 (f n) = none
  old : ∀ n, n < G.n0 → f n = G.f0 n
  le : G.n0 ≤ S.length
  ext : Ext0 G.H0 H
/-- what an expression gives stands for a value -/
def RE (G : Gx) (σ : L2.St) (H : Hp) (e : Envi) (f : Nat → Addr) (L : Nat) (v : V) (d : D) : Prop :=
  match d with
  | .bo i c => σ[i]? = some (some v) ∧ e[i]? = some (some (.ow c))
  | .nw c => ∃ a, v = .ref a ∧ OCok H a c ∧ G.H0 a = none ∧ (∀ n, n < L → f n ≠ a) ∧ ∀ (j : Nat) (c' : OC), e[j]? = some (some (.ow c')) → σ[j]? ≠ some (some (.ref a))
  | .pu p => Rep H v p
  | .wr p => RepW G.K v p
  | .rf n => v = .ref (f n) ∧ n < L
/-- from one point of an expression to a later one: cells alone are changed, nothing is lost, new cells are new things -/
structure Nx (H H' : Hp) (f f' : Nat → Addr) (L L' : Nat) : Prop where
  ext : Ext0 H H'
  ag : ∀ n, n < L → f' n = f n
  le : L ≤ L'
  oth : ∀ b o, H b = some o → (∀ n, n < L → f n ≠ b) → H' b = some o
  fr : ∀ n, L ≤ n → n < L' → H (f' n) = none
  th : ∀ b o, H b = some o → ∃ o', H' b = some o'
theorem Nx.refl (H : Hp) (f : Nat → Addr) (L : Nat) : Nx H H f f L L := ⟨.refl H, fun _ _ => rfl, Nat.le_refl _, fun _ _ h _ => h, fun n h1 h2 => absurd h2 (Nat.not_lt.mpr h1), fun _ o h => ⟨o, h⟩⟩
theorem Nx.trans {H H1 H2 : Hp} {f f1 f2 : Nat → Addr} {L L1 L2 : Nat} (a : Nx H H1 f f1 L L1) (b : Nx H1 H2 f1 f2 L1 L2) : Nx H H2 f f2 L L2 where
  ext := a.ext.trans b.ext
  ag := fun n h => (b.ag n (Nat.lt_of_lt_of_le h a.le)).trans (a.ag n h)
  le := Nat.le_trans a.le b.le
  oth := fun c o h hn => b.oth c o (a.oth c o h hn) fun n hl e => by
    by_cases hL : n < L
    · exact hn n hL ((a.ag n hL).symm.trans e)
    · have q := a.fr n (Nat.le_of_not_lt hL) hl
      rw [e, h] at q
      cases q
  fr := fun n h1 h2 => by
    by_cases hL : n < L1
    · rw [b.ag n hL]
      exact a.fr n h1 hL
    · have q := b.fr n (Nat.le_of_not_lt hL) h2
      cases z : H (f2 n) with
      | none => rfl
      | some o =>
        obtain ⟨o', e⟩ := a.th _ o z
        rw [e] at q
        cases q
  th := fun c o h => let ⟨o', h'⟩ := a.th c o h; b.th c o' h'
theorem Nx.of {H H' : Hp} (s : Same H H') (f : Nat → Addr) (L : Nat) : Nx H H' f f L L := ⟨.of s, fun _ _ => rfl, Nat.le_refl _, fun b o h _ => s b o h, fun n h1 h2 => absurd h2 (Nat.not_lt.mpr h1), fun b o h => ⟨o, s b o h⟩⟩

theorem RD.nx {K : PySem.W.Frag} {H H' : Hp} {f f' : Nat → Addr} {L L' : Nat} (x : Nx H H' f f' L L') {v : V} : ∀ {d : D}, RD K H f L v d → RD K H' f' L' v d
  | .pu _, h => Rep.ext x.ext h
  | .wr _, h => h
  | .rf n, ⟨h, l⟩ => ⟨by rw [x.ag n l]; exact h, Nat.lt_of_lt_of_le l x.le⟩
  | .bo _ _, h => h
  | .nw _, h => h
theorem OCok.nx {H H' : Hp} (x : Ext0 H H') {a : Addr} (ha : ∀ o, H a = some o → H' a = some o) : ∀ {c : OC}, OCok H a c → OCok H' a c
  | .lst _, ⟨vs, h, r⟩ => ⟨vs, ha _ h, RepL.ext x r⟩
  | .dct _, ⟨qs, h, r, e⟩ => ⟨qs, by
      rcases h with ⟨kvs, h, z⟩ | ⟨kvs, h, z⟩
      · exact .inl ⟨kvs, ha _ h, z⟩
      · exact .inr ⟨kvs, ha _ h, z⟩, RepL.ext x r, e⟩
theorem RE.nx {G : Gx} {σ : L2.St} {H H' : Hp} {e : Envi} {f f' : Nat → Addr} {L L' : Nat} (x : Nx H H' f f' L L') {v : V} : ∀ {d : D}, RE G σ H e f L v d → RE G σ H' e f' L' v d
  | .pu _, h => Rep.ext x.ext h
  | .wr _, h => h
  | .rf n, ⟨h, l⟩ => ⟨by rw [x.ag n l]; exact h, Nat.lt_of_lt_of_le l x.le⟩
  | .bo _ _, h => h
  | .nw c, ⟨a, e1, h1, h2, h3, h4⟩ => by
    obtain ⟨o, ho⟩ : ∃ o, H a = some o := by
      cases c with
      | lst _ => obtain ⟨_, h, _⟩ := h1; exact ⟨_, h⟩
      | dct _ => obtain ⟨_, h, _⟩ := h1; rcases h with ⟨_, h, _⟩ | ⟨_, h, _⟩ <;> exact ⟨_, h⟩
    refine ⟨a, e1, OCok.nx x.ext (fun o z => x.oth a o z h3) h1, h2, fun n hn z => ?_, h4⟩
    by_cases hL : n < L
    · exact h3 n hL ((x.ag n hL).symm.trans z)
    · have q := x.fr n (Nat.le_of_not_lt hL) hn
      rw [z, ho] at q
      cases q
theorem RD.re {G : Gx} {σ : L2.St} {H : Hp} {e : Envi} {f : Nat → Addr} {L : Nat} {v : V} : ∀ {d : D}, RD G.K H f L v d → RE G σ H e f L v d
  | .pu _, h => h
  | .wr _, h => h
  | .rf _, h => h
  | .bo _ _, h => h.elim
  | .nw _, h => h.elim
theorem MCok.nx {G : Gx} {H H' : Hp} {f f' : Nat → Addr} {L L' : Nat} (x : Nx H H' f f' L L') {a : Addr} (ha : ∀ o, H a = some o → H' a = some o) : ∀ {c : MC}, MCok G H f L a c → MCok G H' f' L' a c
  | .lst _, ⟨vs, h, r⟩ => ⟨vs, ha _ h, Paired.mapP r fun _ _ => RD.nx x⟩
  | .dct _, ⟨qs, h, r, e⟩ => ⟨qs, by
      rcases h with ⟨kvs, h, z⟩ | ⟨kvs, h, z⟩
      · exact .inl ⟨kvs, ha _ h, z⟩
      · exact .inr ⟨kvs, ha _ h, z⟩, Paired.mapP r fun _ _ => RD.nx x, e⟩
  | .obj _ _, ⟨C, dx, us, c, h, r, e⟩ => ⟨C, dx, us, c, ha _ h, Paired.mapP r fun _ _ => RD.nx x, e⟩
  | .fz _, ⟨⟨od, u, h⟩, r⟩ => ⟨⟨od, u, x.ext.frzs _ _ _ h⟩, Rep.ext x.ext r⟩
  | .tup _, ⟨vs, h, r⟩ => ⟨vs, ha _ h, Paired.mapP r fun _ _ => RD.nx x⟩
  | .dead, ⟨o, h⟩ => ⟨o, ha _ h⟩
/-- the cells as they lie -/
structure Cells (G : Gx) (H : Hp) (f : Nat → Addr) (S : Sto) : Prop where
  cel : ∀ (n : Nat) (c : MC), S[n]? = some c → MCok G H f S.length (f n) c
  inj : ∀ (n m : Nat), n < S.length → m < S.length → f n = f m → n = m
theorem MCok.raw {G : Gx} {H : Hp} {f : Nat → Addr} {L : Nat} {a : Addr} : ∀ {c : MC}, MCok G H f L a c → ∃ o, H a = some o ∧ (c.live = true → Mut (some o))
  | .lst _, ⟨_, h, _⟩ => ⟨_, h, fun _ => trivial⟩
  | .dct _, ⟨_, h, _⟩ => by
    rcases h with ⟨_, h, _⟩ | ⟨_, h, _⟩
    · exact ⟨_, h, fun _ => trivial⟩
    · exact ⟨_, h, fun _ => trivial⟩
  | .obj _ _, ⟨_, _, _, _, h, _⟩ => ⟨_, h, fun _ => trivial⟩
  | .fz _, ⟨⟨_, _, h⟩, _⟩ => ⟨_, h, fun z => by cases z⟩
  | .tup _, ⟨_, h, _⟩ => ⟨_, h, fun z => by cases z⟩
  | .dead, ⟨_, h⟩ => ⟨_, h, fun z => by cases z⟩
theorem OCok.raw {H : Hp} {a : Addr} : ∀ {c : OC}, OCok H a c → ∃ o, H a = some o ∧ Mut (some o)
  | .lst _, ⟨_, h, _⟩ => ⟨_, h, trivial⟩
  | .dct _, ⟨_, h, _⟩ => by
    rcases h with ⟨_, h, _⟩ | ⟨_, h, _⟩
    · exact ⟨_, h, trivial⟩
    · exact ⟨_, h, trivial⟩
section
variable {G : Gx} {σ : L2.St} {H H' : Hp} {e : Envi} {S S' : Sto} {f f' : Nat → Addr}
theorem R.cells (r : R G σ H e S f) : Cells G H f S := ⟨r.cel, r.inj⟩
theorem R.cell_at (r : R G σ H e S f) {n : Nat} (h : n < S.length) : ∃ o, H (f n) = some o ∧ ((S[n]).live = true → Mut (some o)) := (r.cel n _ (List.getElem?_eq_getElem h)).raw
theorem R.cell_mut (r : R G σ H e S f) {n : Nat} {c : MC} (h : S[n]? = some c) (hc : c.live = true) : ∃ o, H (f n) = some o ∧ Mut (some o) := let ⟨o, h1, h2⟩ := (r.cel n c h).raw; ⟨o, h1, h2 hc⟩
/-- what is free was free at the entry -/
theorem R.free0 (r : R G σ H e S f) {a : Addr} (h : H a = none) : G.H0 a = none := by
  cases q : G.H0 a with
  | none => rfl
  | some o =>
    have := r.frm a o q fun n hn z => by
      obtain ⟨u, hu, _⟩ := r.cell_at (Nat.lt_of_lt_of_le hn r.le)
      rw [z, h] at hu
      cases hu
    rw [h] at this
    cases this
theorem R.nx (r : R G σ H e S f) (x : Nx H H' f f' S.length S'.length) (c : Cells G H' f' S') : R G σ H' e S' f' where
  ln := r.ln
  val := fun i d h => let ⟨v, h1, h2⟩ := r.val i d h; ⟨v, h1, RD.nx x h2⟩
  own := fun i oc h => by
    obtain ⟨a, h1, h2, h3, h4⟩ := r.own i oc h
    refine ⟨a, h1, OCok.nx x.ext (fun o z => x.oth a o z h4) h2, h3, fun n hn z => ?_⟩
    by_cases hL : n < S.length
    · exact h4 n hL ((x.ag n hL).symm.trans z)
    · have q := x.fr n (Nat.le_of_not_lt hL) hn
      obtain ⟨o, ho, _⟩ := h2.raw
      rw [z, ho] at q
      cases q
  sep := r.sep
  cel := c.cel
  inj := c.inj
  frm := fun b o h hn => by
    have hn' : ∀ n, n < G.n0 → f n ≠ b := fun n hl => by rw [← x.ag n (Nat.lt_of_lt_of_le hl r.le)]; exact hn n hl
    refine x.oth b o (r.frm b o h hn') fun n hl z => ?_
    by_cases h0 : n < G.n0
    · exact hn' n h0 z
    · have q := r.new n (Nat.le_of_not_lt h0) hl
      rw [z, h] at q
      cases q
  new := fun n h1 h2 => by
    by_cases hL : n < S.length
    · rw [x.ag n hL]
      exact r.new n h1 hL
    · exact r.free0 (x.fr n (Nat.le_of_not_lt hL) h2)
  old := fun n h => by rw [x.ag n (Nat.lt_of_lt_of_le h r.le)]; exact r.old n h
  le := Nat.le_trans r.le x.le
  ext := r.ext.trans x.ext
theorem Cells.nx (c : Cells G H f S) (s : Same H H') : Cells G H' f S := ⟨fun n k h => MCok.nx (.of s _ _) (fun o => s _ o) (c.cel n k h), c.inj⟩
theorem R.same (r : R G σ H e S f) (s : Same H H') : R G σ H' e S f := r.nx (.of s _ _) (r.cells.nx s)
/-- a new cell -/
def put1 (f : Nat → Addr) (L : Nat) (a : Addr) : Nat → Addr := fun n => if n = L then a else f n
theorem put1_at (f : Nat → Addr) (L : Nat) (a : Addr) : put1 f L a L = a := by unfold put1; rw [if_pos rfl]
theorem put1_lt {f : Nat → Addr} {L : Nat} {a : Addr} {n : Nat} (h : n < L) : put1 f L a n = f n := by unfold put1; rw [if_neg (Nat.ne_of_lt h)]
theorem nx_alloc {a : Addr} {o : HO} (L : Nat) (h : H a = none) : Nx H (L2.upd H a o) f (put1 f L a) L (L + 1) where
  ext := .upd (fun xs z => by rw [h] at z; cases z) (fun o u z => by rw [h] at z; cases z)
  ag := fun n hn => put1_lt hn
  le := Nat.le_succ _
  oth := fun b u hb _ => by rw [upd_ne (ne_of_none hb h)]; exact hb
  fr := fun n h1 h2 => by
    have e : n = L := by omega
    rw [e, put1_at]
    exact h
  th := fun b u hb => ⟨u, by rw [upd_ne (ne_of_none hb h)]; exact hb⟩
theorem Cells.alloc {a : Addr} {o : HO} {c : MC} (k : Cells G H f S) (h : H a = none) (hc : MCok G (L2.upd H a o) (put1 f S.length a) (S.length + 1) a c) : Cells G (L2.upd H a o) (put1 f S.length a) (S ++ [c]) := by
  have len : (S ++ [c]).length = S.length + 1 := by simp
  have raw : ∀ n, n < S.length → f n ≠ a := fun n hn z => by
    obtain ⟨u, hu, _⟩ := (k.cel n _ (List.getElem?_eq_getElem hn)).raw
    rw [z, h] at hu
    cases hu
  refine ⟨fun n d hd => ?_, fun n m hn hm e => ?_⟩
  · rw [len]
    by_cases hn : n < S.length
    · rw [List.getElem?_append_left hn] at hd
      rw [put1_lt hn]
      exact MCok.nx (nx_alloc S.length h) (fun o' z => by rw [upd_ne (ne_of_none z h)]; exact z) (k.cel n d hd)
    · have e : n = S.length := by
        have := (List.getElem?_eq_some_iff.mp hd).1
        rw [len] at this
        omega
      subst e
      rw [List.getElem?_append_right (Nat.le_refl _), Nat.sub_self] at hd
      cases hd
      rw [put1_at]
      exact hc
  · rw [len] at hn hm
    by_cases h1 : n < S.length
    · by_cases h2 : m < S.length
      · rw [put1_lt h1, put1_lt h2] at e
        exact k.inj n m h1 h2 e
      · have e2 : m = S.length := by omega
        subst e2
        rw [put1_lt h1, put1_at] at e
        exact absurd e (raw n h1)
    · have e1 : n = S.length := by omega
      subst e1
      by_cases h2 : m < S.length
      · rw [put1_lt h2, put1_at] at e
        exact absurd e.symm (raw m h2)
      · omega
theorem len1 (S : Sto) (c : MC) : (S ++ [c]).length = S.length + 1 := by simp
theorem R.alloc {a : Addr} {o : HO} {c : MC} (r : R G σ H e S f) (h : H a = none) (hc : MCok G (L2.upd H a o) (put1 f S.length a) (S.length + 1) a c) : R G σ (L2.upd H a o) e (S ++ [c]) (put1 f S.length a) :=
  r.nx (by rw [len1]; exact nx_alloc S.length h) (r.cells.alloc h hc)
/-- behind a def: what its callers see -/
theorem R.back (r : R G σ H e S f) : Nx G.H0 H G.f0 f G.n0 S.length where
  ext := r.ext
  ag := r.old
  le := r.le
  oth := fun b o h hn => r.frm b o h fun n hl => by rw [r.old n hl]; exact hn n hl
  fr := r.new
  th := fun b o h => by
    by_cases c : ∃ n, n < G.n0 ∧ f n = b
    · obtain ⟨n, hn, rfl⟩ := c
      obtain ⟨o', ho, _⟩ := r.cell_at (Nat.lt_of_lt_of_le hn r.le)
      exact ⟨o', ho⟩
    · exact ⟨o, r.frm b o h fun n hn z => c ⟨n, hn, z⟩⟩
end
theorem upd_new {H : Hp} {a : Addr} {o : HO} (h : H a = none) : Same H (upd H a o) := fun b x e => by
  rw [upd_ne (ne_of_none e h)]
  exact e

/-! ### freezing what a rule has made -/
/-- the end with what has come frozen, or as it is -/
def GQ (Q : VK) : VK := fun v H => Q v H ∨ ∃ a u, v = .ref a ∧ H a = some u ∧ Mut (some u) ∧ ∀ od, Q v (upd H a (.frz od u))
theorem pe_gh {X : Cx} {e : Expr} {t : TE} (h : PE X e t) : PE X e (fun σ H Q => t σ H (GQ Q)) := by
  refine ⟨fun pins s σ H Q I hw => thn (h.run pins s σ H _ I hw) fun u s1 ⟨v, H1, I1, r1, q⟩ => ?_⟩
  rcases q with q | ⟨a, w, rfl, ha, mu, q⟩
  · exact ⟨v, H1, I1, r1, q⟩
  · obtain ⟨od, I2⟩ := I1.lock ha mu
    exact ⟨_, _, I2, r1, q od⟩
theorem pe_mono {X : Cx} {e : Expr} {t t' : TE} (h : PE X e t) (m : ∀ σ H Q, t' σ H Q → t σ H Q) : PE X e t' := ⟨fun pins s σ H Q I hw => h.run pins s σ H Q I (m σ H Q hw)⟩
theorem pt_mono {X : Cx} {e : Expr} {t t' : TT} (h : PT X e t) (m : ∀ σ H Q, t' σ H Q → t σ H Q) : PT X e t' := ⟨fun pins s σ H Q I hw => h.run pins s σ H Q I (m σ H Q hw)⟩
theorem ps_mono {X : Cx} {e : Stmt} {t t' : TS} (h : PS X e t) (m : ∀ D σ H, t' D σ H → t D σ H) : PS X e t' := ⟨fun pins s σ H D I hw => h.run pins s σ H D I (m D σ H hw)⟩
theorem pss_mono {X : Cx} {e : List Stmt} {t t' : TS} (h : PSs X e t) (m : ∀ D σ H, t' D σ H → t D σ H) : PSs X e t' := ⟨fun pins s σ H D I hw => h.run pins s σ H D I (m D σ H hw)⟩
end DL
/-! DL1: expressions as functions of the state. -/
namespace DL
open PySem PySem.Spec PyProof.Rows L2

abbrev Ex := Envi → Sto → Option (D × Sto)
abbrev Tx := Envi → Sto → Option (Bool × Sto)
abbrev Ax := Envi → Sto → Option (List D × Sto)

def tE (G : Gx) (x : Ex) : TE := fun σ H Q => ∃ e S f, R G σ H e S f ∧ ∃ d S', x e S = some (d, S') ∧
  ∀ v H' f', R G σ H' e S' f' → Nx H H' f f' S.length S'.length → RE G σ H' e f' S'.length v d → Q v H'
def tTx (G : Gx) (x : Tx) : TT := fun σ H Q => ∃ e S f, R G σ H e S f ∧ ∃ b S', x e S = some (b, S') ∧
  ∀ H' f', R G σ H' e S' f' → Nx H H' f f' S.length S'.length → Q b H'
def tAx (G : Gx) (x : Ax) : TA := fun σ H Q => ∃ e S f, R G σ H e S f ∧ ∃ ds S', x e S = some (ds, S') ∧
  ∀ vs H' f', R G σ H' e S' f' → Nx H H' f f' S.length S'.length → Paired (RE G σ H' e f' S'.length) vs ds → Q vs H'
abbrev DE (X : Cx) (G : Gx) (a : Expr) (x : Ex) : Prop := PE X a (tE G x)
abbrev DT (X : Cx) (G : Gx) (a : Expr) (x : Tx) : Prop := PT X a (tTx G x)
abbrev DW (X : Cx) (G : Gx) (a : Expr) (x : Tx) : Prop := PW X a (tTx G x)
abbrev DA (X : Cx) (G : Gx) (a : List Expr) (x : Ax) : Prop := PA X a (tAx G x)

/-! ### evaluators -/
def xVar (i : Nat) : Ex := fun e S => match e[i]? with
  | some (some (.val d)) => some (d, S)
  | some (some (.ow c)) => some (.bo i c, S)
  | _ => none
def xP (p : P) : Ex := fun _ S => some (.pu p, S)
def xD (d : D) : Ex := fun _ S => some (d, S)
def x1 (g : D → Sto → Option (D × Sto)) (a : Ex) : Ex := fun e S => (a e S).bind fun r => g r.1 r.2
def x2 (g : D → D → Sto → Option (D × Sto)) (a b : Ex) : Ex := fun e S => (a e S).bind fun r => (b e r.2).bind fun q => g r.1 q.1 q.2
def aNil : Ax := fun _ S => some ([], S)
def aCons (a : Ex) (r : Ax) : Ax := fun e S => (a e S).bind fun q => (r e q.2).bind fun t => some (q.1 :: t.1, t.2)
/-- by data alone -/
def s1 (p : P → Option P) : D → Sto → Option (D × Sto)
  | .pu a, S => (p a).bind fun c => some (.pu c, S)
  | _, _ => none
def s2 (p : P → P → Option P) : D → D → Sto → Option (D × Sto)
  | .pu a, .pu b, S => (p a b).bind fun c => some (.pu c, S)
  | _, _, _ => none

section
variable {X : Cx} {G : Gx} {σ : L2.St} {H : Hp} {e : Envi} {S : Sto} {f : Nat → Addr}

/-! ### the small ones -/
theorem R.re (r : R G σ H e S f) {i : Nat} {d : D} {S' : Sto} (h : xVar i e S = some (d, S')) : S' = S ∧ ∃ v, σ[i]? = some (some v) ∧ RE G σ H e f S.length v d := by
  unfold xVar at h
  cases hd : e[i]? with
  | none => rw [hd] at h; cases h
  | some o =>
    rw [hd] at h
    cases o with
    | none => cases h
    | some sl =>
      cases sl with
      | val d0 =>
        have h' : some (d0, S) = some (d, S') := h
        cases h'
        obtain ⟨v, h1, h2⟩ := r.val i d hd
        exact ⟨rfl, v, h1, h2.re⟩
      | ow c =>
        cases h
        obtain ⟨a, h1, _⟩ := r.own i c hd
        exact ⟨rfl, _, h1, h1, hd⟩
theorem d_var (i : Nat) {x : Str} {pos : Pos} (hN : X.N[i]? = some x := by rfl) (hv : Vis X.env.scope x := by first | exact Or.inl rfl | exact Or.inr (Or.inl rfl) | exact Or.inr (Or.inr rfl)) (hd : (x == ("__debug__" : Str)) = false := by decide)
    (hcd : (x == ("__classdict__" : Str)) = false := by decide) : DE X G (.Name x pos) (xVar i) := by
  refine pe_mono (pe_var hN hv hd hcd) fun σ H Q h => ?_
  obtain ⟨e, S, f, r, d, S', hx, q⟩ := h
  obtain ⟨rfl, v, h1, h2⟩ := r.re hx
  exact ⟨v, h1, q v H f r (.refl _ _ _) h2⟩
theorem tE.const {v : V} {p : P} (h : ∀ H, Rep H v p) : ∀ σ H Q, tE G (xP p) σ H Q → tC v σ H Q := by
  intro σ H Q ⟨e, S, f, r, d, S', hx, q⟩
  cases hx
  exact q v H f r (.refl _ _ _) (h H)
theorem d_int {i : Int} {j pos} : DE X G (.Constant (.int i) j pos) (xP (.int i)) := pe_mono pe_int (tE.const fun _ => .int i)
theorem d_bl {b : Bool} {j pos} : DE X G (.Constant (.bool b) j pos) (xP (.bool b)) := pe_mono pe_bl (tE.const fun _ => .bl b)
theorem d_non {j pos} : DE X G (.Constant .none j pos) (xP .none) := pe_mono pe_non (tE.const fun _ => .non)
theorem d_str {x : Str} {j pos} : DE X G (.Constant (.str x) j pos) (xP (.str x)) := pe_mono pe_str (tE.const fun _ => .str x)
/-! ### one or two operands -/
/-- an end at the point H, S, f for d -/
abbrev Fin (G : Gx) (σ : L2.St) (e : Envi) (H : Hp) (f : Nat → Addr) (S S' : Sto) (d : D) (Q : VK) : Prop :=
  ∀ v H' f', R G σ H' e S' f' → Nx H H' f f' S.length S'.length → RE G σ H' e f' S'.length v d → Q v H'
/-- a rule by values serves an evaluator by data -/
def V1 (G : Gx) (r : V → Hp → VK → Prop) (g : D → Sto → Option (D × Sto)) : Prop := ∀ σ H e S f x dx d S' (Q : VK), R G σ H e S f → RE G σ H e f S.length x dx → g dx S = some (d, S') → Fin G σ e H f S S' d Q → r x H (GQ Q)
def V2 (G : Gx) (r : R2) (g : D → D → Sto → Option (D × Sto)) : Prop := ∀ σ H e S f x y dx dy d S' (Q : VK), R G σ H e S f → RE G σ H e f S.length x dx → RE G σ H e f S.length y dy → g dx dy S = some (d, S') → Fin G σ e H f S S' d Q → r x y H (GQ Q)
theorem tE.b1 {a : Ex} {g : D → Sto → Option (D × Sto)} {r : V → Hp → VK → Prop} (h : V1 G r g) : ∀ σ H Q, tE G (x1 g a) σ H Q → tE G a σ H fun x H1 => r x H1 (GQ Q) := by
  intro σ H Q ⟨e, S, f, r0, d, S', hx, q⟩
  unfold x1 at hx
  obtain ⟨⟨d1, S1⟩, h1, hx⟩ := Option.bind_eq_some_iff.mp hx
  refine ⟨e, S, f, r0, d1, S1, h1, fun v1 H1 f1 r1 n1 p1 => ?_⟩
  exact h σ H1 e S1 f1 v1 d1 d S' Q r1 p1 hx fun v H2 f2 r2 n2 p2 => q v H2 f2 r2 (n1.trans n2) p2
theorem tE.b2 {a b : Ex} {g : D → D → Sto → Option (D × Sto)} {r : R2} (h : V2 G r g) : ∀ σ H Q, tE G (x2 g a b) σ H Q → tOp r (tE G a) (tE G b) σ H (GQ Q) := by
  intro σ H Q ⟨e, S, f, r0, d, S', hx, q⟩
  unfold x2 at hx
  obtain ⟨⟨d1, S1⟩, h1, hx⟩ := Option.bind_eq_some_iff.mp hx
  obtain ⟨⟨d2, S2⟩, h2, hx⟩ := Option.bind_eq_some_iff.mp hx
  refine ⟨e, S, f, r0, d1, S1, h1, fun v1 H1 f1 r1 n1 p1 => ⟨e, S1, f1, r1, d2, S2, h2, fun v2 H2 f2 r2 n2 p2 => ?_⟩⟩
  exact h σ H2 e S2 f2 v1 v2 d1 d2 d S' Q r2 (p1.nx n2) p2 hx fun v H3 f3 r3 n3 p3 => q v H3 f3 r3 ((n1.trans n2).trans n3) p3
theorem d_op {op : Operator} {r : R2} {g : D → D → Sto → Option (D × Sto)} {a b : Expr} {xa xb : Ex} {pos : Pos} (ho : OpR X (binaryOp op) r) (h : V2 G r g) (ha : DE X G a xa) (hb : DE X G b xb) : DE X G (.BinOp a op b pos) (x2 g xa xb) :=
  pe_mono (pe_gh (pe_op ho ha hb)) (tE.b2 h)
theorem d_cmp {op : CmpOp} {r : R2} {g : D → D → Sto → Option (D × Sto)} {a b : Expr} {xa xb : Ex} {pos : Pos} (ho : OpR X (compareOp op) r) (h : V2 G r g) (ha : DE X G a xa) (hb : DE X G b xb) (hm : behindInMarks op b = false) : DE X G (.Compare a [op] [b] pos) (x2 g xa xb) :=
  pe_mono (pe_gh (pe_cmpR ho ha hb hm)) (tE.b2 h)
/-- what a rule by data alone is to show -/
def VP2 (r : R2) (p : P → P → Option P) : Prop := ∀ H x y a b c (Q : VK), Rep H x a → Rep H y b → p a b = some c → (∀ v H', Same H H' → Rep H' v c → Q v H') → r x y H (GQ Q)
def VP1 (r : V → Hp → VK → Prop) (p : P → Option P) : Prop := ∀ H x a c (Q : VK), Rep H x a → p a = some c → (∀ v H', Same H H' → Rep H' v c → Q v H') → r x H (GQ Q)
theorem VP2.v {r : R2} {p : P → P → Option P} (h : VP2 r p) : V2 G r (s2 p) := by
  intro σ H e S f x y dx dy d S' Q r0 rx ry hg q
  cases dx with
  | pu a =>
    cases dy with
    | pu b =>
      obtain ⟨c, hc, hd⟩ := Option.bind_eq_some_iff.mp (show (p a b).bind _ = _ from hg)
      cases hd
      exact h H x y a b c Q rx ry hc fun v H' s rc => q v H' f (r0.same s) (.of s _ _) rc
    | _ => cases hg
  | _ => cases hg
theorem VP1.v {r : V → Hp → VK → Prop} {p : P → Option P} (h : VP1 r p) : V1 G r (s1 p) := by
  intro σ H e S f x dx d S' Q r0 rx hg q
  cases dx with
  | pu a =>
    obtain ⟨c, hc, hd⟩ := Option.bind_eq_some_iff.mp (show (p a).bind _ = _ from hg)
    cases hd
    exact h H x a c Q rx hc fun v H' s rc => q v H' f (r0.same s) (.of s _ _) rc
  | _ => cases hg

/-! ### ints -/
def pI (C : Int → Int → Bool) (g : Int → Int → Int) : P → P → Option P
  | .int i, .int j => if C i j then some (.int (g i j)) else none
  | _, _ => none
def pIB (g : Int → Int → Bool) : P → P → Option P
  | .int i, .int j => some (.bool (g i j))
  | _, _ => none
theorem vp_I {C : Int → Int → Prop} {g : Int → Int → Int} {c : Int → Int → Bool} (hc : ∀ i j, c i j = true → C i j) : VP2 (rI C fun i j => .int (g i j)) (pI c g) := by
  intro H x y a b z Q rx ry h q
  cases rx with
  | int i =>
    cases ry with
    | int j =>
      unfold pI at h
      dsimp only at h
      by_cases hC : c i j = true
      · rw [if_pos hC] at h
        cases h
        exact ⟨i, j, rfl, rfl, hc i j hC, .inl (q _ H (.refl _) (.int _))⟩
      · rw [if_neg hC] at h
        cases h
    | _ => simp [pI] at h
  | _ => simp [pI] at h
theorem vp_I0 {g : Int → Int → Int} : VP2 (rI0 fun i j => .int (g i j)) (pI (fun _ _ => true) g) := by
  intro H x y a b z Q rx ry h q
  cases rx with
  | int i =>
    cases ry with
    | int j =>
      cases h
      exact ⟨i, j, rfl, rfl, .inl (q _ H (.refl _) (.int _))⟩
    | _ => cases h
  | _ => cases h
theorem vp_IB {g : Int → Int → Bool} : VP2 (rI0 fun i j => .bl (g i j)) (pIB g) := by
  intro H x y a b z Q rx ry h q
  cases rx with
  | int i =>
    cases ry with
    | int j =>
      cases h
      exact ⟨i, j, rfl, rfl, .inl (q _ H (.refl _) (.bl _))⟩
    | _ => cases h
  | _ => cases h
def small (i : Int) : Bool := decide (-18446744073709551616 < i) && decide (i < 18446744073709551616)
theorem small_iff {i : Int} : small i = true ↔ -(2 ^ 64) < i ∧ i < 2 ^ 64 := by
  unfold small
  rw [Bool.and_eq_true, decide_eq_true_eq, decide_eq_true_eq]
  exact Iff.rfl
abbrev pSub := pI (fun _ _ => true) fun i j => i - j
abbrev pMul := pI (fun i j => small i || small j) fun i j => i * j
abbrev pDiv := pI (fun _ j => decide (0 < j) && decide (j < 1073741824)) fun i j => i / j
abbrev pMod := pI (fun _ j => decide (0 < j)) fun i j => i % j
abbrev pPow := pI (fun i j => decide (0 ≤ j) && decide (j ≤ 1000000) && small i) fun i j => i ^ j.toNat
theorem vp_sub : VP2 (rI0 fun i j => .int (i - j)) pSub := vp_I0
theorem vp_mul : VP2 (rI CMul fun i j => .int (i * j)) pMul := vp_I fun i j h => by
  rcases (Bool.or_eq_true _ _).mp h with h | h
  · exact .inl (small_iff.mp h)
  · exact .inr (small_iff.mp h)
theorem vp_div : VP2 (rI CDiv fun i j => .int (i / j)) pDiv := vp_I fun i j h => by
  simp only [Bool.and_eq_true, decide_eq_true_eq] at h
  exact h
theorem vp_mod : VP2 (rI (fun _ j => 0 < j) fun i j => .int (i % j)) pMod := vp_I fun i j h => of_decide_eq_true h
theorem vp_pow : VP2 (rI CPow fun i j => .int (i ^ j.toNat)) pPow := vp_I fun i j h => by
  simp only [Bool.and_eq_true, decide_eq_true_eq] at h
  have h2 := small_iff.mp h.2
  exact ⟨h.1.1, h.1.2, by omega⟩
def pNeg : P → Option P
  | .int i => some (.int (-i))
  | _ => none
end
end DL
/-! DL2: sequences, built-ins, displays, tests. -/
namespace DL
open PySem PySem.Spec PyProof.Rows L2

/-! ### sequences -/
def wrD : P → D
  | .list xs => .wr (.list xs)
  | .tuple xs => .wr (.tuple xs)
  | .dict k => .wr (.dict k)
  | p => .pu p
/-- (whether it is a tuple, the items) -/
def seqD : D → Sto → Option (Bool × List D)
  | .pu (.list xs), _ => some (false, xs.map .pu)
  | .pu (.tuple xs), _ => some (true, xs.map .pu)
  | .wr (.list xs), _ => some (false, xs.map wrD)
  | .wr (.tuple xs), _ => some (true, xs.map wrD)
  | .bo _ (.lst xs), _ => some (false, xs.map .pu)
  | .nw (.lst xs), _ => some (false, xs.map .pu)
  | .rf n, S => match S[n]? with
    | some (.lst ds) => some (false, ds)
    | some (.tup ds) => some (true, ds)
    | _ => none
  | _, _ => none
section
variable {X : Cx} {G : Gx} {σ : L2.St} {H : Hp} {e : Envi} {S : Sto} {f : Nat → Addr}
theorem wr_rd {K : PySem.W.Frag} {L : Nat} : ∀ {v : V} {p : P}, RepW K v p → RD K H f L v (wrD p)
  | _, _, .non => Rep.non
  | _, _, .bl b => Rep.bl b
  | _, _, .int i => Rep.int i
  | _, _, .str x => Rep.str x
  | _, _, h@(.lst _ _ _ _ _ _ _) => h
  | _, _, h@(.tup _ _ _ _ _ _ _) => h
theorem wrs_rd {K : PySem.W.Frag} {L : Nat} : ∀ {vs : List V} {ps : List P}, RepWL K vs ps → Paired (RD K H f L) vs (ps.map wrD)
  | _, _, .nil => .nil
  | _, _, .cons h t => .cons (wr_rd h) (wrs_rd t)
theorem reps_rd {K : PySem.W.Frag} {L : Nat} : ∀ {vs : List V} {ps : List P}, RepL H vs ps → Paired (RD K H f L) vs (ps.map .pu)
  | _, _, .nil => .nil
  | _, _, .cons h t => .cons h (reps_rd t)
theorem rd_reps {K : PySem.W.Frag} {L : Nat} : ∀ {vs : List V} {ps : List P}, Paired (RD K H f L) vs (ps.map .pu) → RepL H vs ps
  | _, [], .nil => .nil
  | _, _ :: _, .cons h t => .cons h (rd_reps t)
/-- a sequence as it lies -/
theorem seq_ok (r : R G σ H e S f) {v : V} {d : D} {k : Bool} {ds : List D} (h : RE G σ H e f S.length v d) (hs : seqD d S = some (k, ds)) :
    ∃ a vs, v = .ref a ∧ (k = true → SqT G.K H a vs) ∧ (k = false → SqL G.K H a vs) ∧ Paired (RD G.K H f S.length) vs ds := by
  cases d with
  | pu p =>
    cases p with
    | list xs =>
      cases hs
      cases (show Rep H v (.list xs) from h) with
      | lst h1 h2 => exact ⟨_, _, rfl, fun z => (by cases z), fun _ => h1.sq, reps_rd h2⟩
    | tuple xs =>
      cases hs
      cases (show Rep H v (.tuple xs) from h) with
      | tup h1 h2 => exact ⟨_, _, rfl, fun _ => SqT.of h1, fun z => (by cases z), reps_rd h2⟩
    | _ => cases hs
  | wr p =>
    cases p with
    | list xs =>
      cases hs
      cases (show RepW G.K v (.list xs) from h) with
      | lst h1 h2 h3 h4 h5 h6 h7 => exact ⟨_, _, rfl, fun z => (by cases z), fun _ => .inr ⟨_, _, _, h1, h2, h3, h4, h5, h6⟩, wrs_rd h7⟩
    | tuple xs =>
      cases hs
      cases (show RepW G.K v (.tuple xs) from h) with
      | tup h1 h2 h3 h4 h5 h6 h7 => exact ⟨_, _, rfl, fun _ => .inr ⟨_, _, _, h1, h2, h4, h5, h6⟩, fun z => (by cases z), wrs_rd h7⟩
    | _ => cases hs
  | rf n =>
    unfold seqD at hs
    dsimp only at hs
    obtain ⟨e1, l⟩ := (show v = .ref (f n) ∧ n < S.length from h)
    cases hc : S[n]? with
    | none => rw [hc] at hs; cases hs
    | some c =>
      rw [hc] at hs
      cases c with
      | lst ds' =>
        cases hs
        obtain ⟨vs, h1, h2⟩ := r.cel n _ hc
        exact ⟨f n, vs, e1, fun z => (by cases z), fun _ => SqL.of h1, h2⟩
      | tup ds' =>
        cases hs
        obtain ⟨vs, h1, h2⟩ := r.cel n _ hc
        exact ⟨f n, vs, e1, fun _ => SqT.of h1, fun z => (by cases z), h2⟩
      | _ => cases hs
  | bo i c =>
    cases c with
    | lst xs =>
      cases hs
      obtain ⟨h1, h2⟩ := (show σ[i]? = some (some v) ∧ e[i]? = some (some (.ow (.lst xs))) from h)
      obtain ⟨a, h3, ⟨vs, h4, h5⟩, _⟩ := r.own i _ h2
      rw [h1] at h3
      cases h3
      exact ⟨a, vs, rfl, fun z => (by cases z), fun _ => SqL.of h4, reps_rd h5⟩
    | dct ps => cases hs
  | nw c =>
    obtain ⟨a, e1, h4, _⟩ := (show ∃ a, v = .ref a ∧ OCok H a c ∧ _ from h)
    cases c with
    | lst xs =>
      cases hs
      obtain ⟨vs, h4, h5⟩ := h4
      exact ⟨a, vs, e1, fun z => (by cases z), fun _ => SqL.of h4, reps_rd h5⟩
    | dct ps => cases hs
theorem atI_map {α β : Type} {F : α → β → Prop} {l : List α} {m : List β} (h : Paired F l m) {i : Int} {b : β} (e : atI m i = some b) : ∃ a, atI l i = some a ∧ F a b := by
  unfold atI at e ⊢
  rw [Paired.length h]
  obtain ⟨j, h1, h2⟩ := Option.bind_eq_some_iff.mp e
  obtain ⟨a, h3, h4⟩ := Paired.get2 h h2
  exact ⟨a, by rw [h1]; exact h3, h4⟩

/-! ### xs[i] -/
def lim : Nat := 16777216
theorem lim_eq : lim = sizeLine := sizeLine_eq.symm
def gIx : D → D → Sto → Option (D × Sto)
  | .pu (.str x), .pu (.int k), S => if x.length ≤ lim then (atI x.cps.toList k).bind fun c => some (.pu (.str ⟨#[c]⟩), S) else none
  | d, .pu (.int k), S => (seqD d S).bind fun q => (atI q.2 k).bind fun z => some (z, S)
  | _, _, _ => none
theorem v_ix (hK : X.K = G.K) : V2 G (rIx X.K) gIx := by
  intro σ H e S f x y dx dy d S' Q r0 rx ry hg q
  have sq : ∀ k, dy = .pu (.int k) → ((seqD dx S).bind fun q => (atI q.2 k).bind fun z => some (z, S)) = some (d, S') → rIx X.K x y H (GQ Q) := by
    intro k hk h
    subst hk
    cases (show Rep H y (.int k) from ry)
    obtain ⟨⟨b, ds⟩, h1, h⟩ := Option.bind_eq_some_iff.mp h
    obtain ⟨z, h2, h⟩ := Option.bind_eq_some_iff.mp h
    cases h
    obtain ⟨a, vs, rfl, ht, hl, hp⟩ := seq_ok r0 rx h1
    obtain ⟨v, h3, h4⟩ := atI_map hp h2
    rw [hK]
    cases b with
    | true => exact .inr (.inl ⟨a, vs, k, v, rfl, rfl, ht rfl, h3, .inl (q v H f r0 (.refl _ _ _) h4.re)⟩)
    | false => exact .inl ⟨a, vs, k, v, rfl, rfl, hl rfl, h3, .inl (q v H f r0 (.refl _ _ _) h4.re)⟩
  cases dy with
  | pu p =>
    cases p with
    | int k =>
      cases dx with
      | pu p2 =>
        cases p2 with
        | str z =>
          cases (show Rep H y (.int k) from ry)
          cases (show Rep H x (.str z) from rx)
          unfold gIx at hg
          dsimp only at hg
          by_cases hz : z.length ≤ lim
          · rw [if_pos hz] at hg
            obtain ⟨c, h1, h2⟩ := Option.bind_eq_some_iff.mp hg
            cases h2
            exact .inr (.inr ⟨z, k, c, rfl, rfl, by rw [← lim_eq]; exact hz, h1, .inl (q _ H f r0 (.refl _ _ _) (.str _))⟩)
          · rw [if_neg hz] at hg
            cases hg
        | _ => exact sq k rfl hg
      | _ => exact sq k rfl hg
    | _ => cases dx with
      | pu p2 => cases p2 <;> cases hg
      | _ => cases hg
  | _ => cases dx with
    | pu p2 => cases p2 <;> cases hg
    | _ => cases hg
theorem d_ix {a b : Expr} {xa xb : Ex} {pos : Pos} (hK : X.K = G.K) (ha : DE X G a xa) (hb : DE X G b xb) (hs : PlainIx b) : DE X G (.Subscript a b pos) (x2 gIx xa xb) :=
  pe_mono (pe_gh (pe_ix ix_seq ha hb hs)) (tE.b2 (v_ix hK))

/-! ### argument lists, built-in calls -/
theorem d_anil : DA X G [] aNil := by
  refine ⟨fun pos pins s σ H Q I hw => pa_nil.run pos pins s σ H Q I ?_⟩
  obtain ⟨e, S, f, r, ds, S', hx, q⟩ := hw
  cases hx
  exact q [] H f r (.refl _ _ _) .nil
theorem d_acons {a : Expr} {es : List Expr} {xa : Ex} {xr : Ax} (ha : DE X G a xa) (hr : DA X G es xr) (hs : starEach (a :: es) X.env = (false, eval a X.env) :: starEach es X.env := by rfl) : DA X G (a :: es) (aCons xa xr) := by
  refine ⟨fun pos pins s σ H Q I hw => (pa_cons ha hr hs).run pos pins s σ H Q I ?_⟩
  obtain ⟨e, S, f, r, ds, S', hx, q⟩ := hw
  unfold aCons at hx
  obtain ⟨⟨d1, S1⟩, h1, hx⟩ := Option.bind_eq_some_iff.mp hx
  obtain ⟨⟨ds2, S2⟩, h2, hx⟩ := Option.bind_eq_some_iff.mp hx
  cases hx
  refine ⟨e, S, f, r, d1, S1, h1, fun v1 H1 f1 r1 n1 p1 => ⟨e, S1, f1, r1, ds2, S2, h2, fun vs H2 f2 r2 n2 p2 => ?_⟩⟩
  exact q _ H2 f2 r2 (n1.trans n2) (.cons (p1.nx n2) p2)
def xA (g : List D → Sto → Option (D × Sto)) (a : Ax) : Ex := fun e S => (a e S).bind fun r => g r.1 r.2
def VA (G : Gx) (r : List V → Hp → VK → Prop) (g : List D → Sto → Option (D × Sto)) : Prop := ∀ σ H e S f vs ds d S' (Q : VK), R G σ H e S f → Paired (RE G σ H e f S.length) vs ds → g ds S = some (d, S') → Fin G σ e H f S S' d Q → r vs H (GQ Q)
theorem tE.bA {a : Ax} {g : List D → Sto → Option (D × Sto)} {r : List V → Hp → VK → Prop} (h : VA G r g) : ∀ σ H Q, tE G (xA g a) σ H Q → tAx G a σ H fun vs H1 => r vs H1 (GQ Q) := by
  intro σ H Q ⟨e, S, f, r0, d, S', hx, q⟩
  unfold xA at hx
  obtain ⟨⟨ds, S1⟩, h1, hx⟩ := Option.bind_eq_some_iff.mp hx
  refine ⟨e, S, f, r0, ds, S1, h1, fun vs H1 f1 r1 n1 p1 => ?_⟩
  exact h σ H1 e S1 f1 vs ds d S' Q r1 p1 hx fun v H2 f2 r2 n2 p2 => q v H2 f2 r2 (n1.trans n2) p2
section
variable {x : Str} {p pos : Pos} {a : Expr} {es : List Expr} {xa : Ax} {g : List D → Sto → Option (D × Sto)} {id T : String} {r : List V → Hp → VK → Prop}
theorem d_callB (hc : CallR X (.builtin id) r) (h : VA G r g) (hg : Gl X x) (hm : X.mg x = none) (hv : bootBuiltins x = some (.builtin id)) (ha : DA X G (a :: es) xa) (hn : x ≠ "__name__" := by decide) (hdb : (x == ("__debug__" : Str)) = false := by decide)
    (he : starEach (a :: es) X.env = (false, eval a X.env) :: starEach es X.env := by rfl) (hpl : (backTo pos (starEach es X.env)).any (·.1) = false := by rfl) : DE X G (.Call (.Name x p) (a :: es) [] pos) (xA g xa) :=
  pe_mono (pe_gh (pe_callB hc hg hm hv ha hn hdb he hpl)) (tE.bA h)
theorem d_callTy (hc : CallR X (.type T) r) (h : VA G r g) (hg : Gl X x) (hm : X.mg x = none) (hv : bootBuiltins x = some (.type T)) (ha : DA X G (a :: es) xa) (hn : x ≠ "__name__" := by decide) (hdb : (x == ("__debug__" : Str)) = false := by decide)
    (he : starEach (a :: es) X.env = (false, eval a X.env) :: starEach es X.env := by rfl) (hpl : (backTo pos (starEach es X.env)).any (·.1) = false := by rfl) : DE X G (.Call (.Name x p) (a :: es) [] pos) (xA g xa) :=
  pe_mono (pe_gh (pe_callTy hc hg hm hv ha hn hdb he hpl)) (tE.bA h)
end
/-- one argument, by data alone -/
def a1 (p : P → Option P) : List D → Sto → Option (D × Sto)
  | [.pu a], S => (p a).bind fun c => some (.pu c, S)
  | _, _ => none
def a2 (p : P → P → Option P) : List D → Sto → Option (D × Sto)
  | [.pu a, .pu b], S => (p a b).bind fun c => some (.pu c, S)
  | _, _ => none
def VPA1 (r : List V → Hp → VK → Prop) (p : P → Option P) : Prop := ∀ H x a c (Q : VK), Rep H x a → p a = some c → (∀ v H', Same H H' → Rep H' v c → Q v H') → r [x] H (GQ Q)
def VPA2 (r : List V → Hp → VK → Prop) (p : P → P → Option P) : Prop := ∀ H x y a b c (Q : VK), Rep H x a → Rep H y b → p a b = some c → (∀ v H', Same H H' → Rep H' v c → Q v H') → r [x, y] H (GQ Q)
theorem VPA1.v {r : List V → Hp → VK → Prop} {p : P → Option P} (h : VPA1 r p) : VA G r (a1 p) := by
  intro σ H e S f vs ds d S' Q r0 rs hg q
  match ds, rs, hg with
  | [.pu a], .cons (a := x) r1 .nil, hg =>
    obtain ⟨c, hc, hd⟩ := Option.bind_eq_some_iff.mp (show (p a).bind _ = _ from hg)
    cases hd
    exact h H x a c Q r1 hc fun v H' s rc => q v H' f (r0.same s) (.of s _ _) rc
theorem VPA2.v {r : List V → Hp → VK → Prop} {p : P → P → Option P} (h : VPA2 r p) : VA G r (a2 p) := by
  intro σ H e S f vs ds d S' Q r0 rs hg q
  match ds, rs, hg with
  | [.pu a, .pu b], .cons (a := x) r1 (.cons (a := y) r2 .nil), hg =>
    obtain ⟨c, hc, hd⟩ := Option.bind_eq_some_iff.mp (show (p a b).bind _ = _ from hg)
    cases hd
    exact h H x y a b c Q r1 r2 hc fun v H' s rc => q v H' f (r0.same s) (.of s _ _) rc

/-! ### len, abs, min, max, int, divmod, sum, all, any -/
def gLen : List D → Sto → Option (D × Sto)
  | [.pu (.str x)], S => if x.length ≤ lim then some (.pu (.int x.length), S) else none
  | [d], S => (seqD d S).bind fun q => some (.pu (.int q.2.length), S)
  | _, _ => none
theorem v_len (hK : X.K = G.K) : VA G (fun xs H Q => ∃ x n, xs = [x] ∧ LenV X.K x H n ∧ Q (.int n) H) gLen := by
  intro σ H e S f vs ds d S' Q r0 rs hg q
  match ds, rs with
  | [dx], .cons (a := x) rx .nil =>
    have sq : ((seqD dx S).bind fun q => some (D.pu (.int q.2.length), S)) = some (d, S') → ∃ y n, [x] = [y] ∧ LenV X.K y H n ∧ GQ Q (.int n) H := by
      intro h
      obtain ⟨⟨b, ds⟩, h1, h⟩ := Option.bind_eq_some_iff.mp h
      cases h
      obtain ⟨a, vs, rfl, ht, hl, hp⟩ := seq_ok r0 rx h1
      rw [hK]
      refine ⟨_, ds.length, rfl, ?_, .inl (q _ H f r0 (.refl _ _ _) (.int _))⟩
      cases b with
      | true => exact .inr ⟨vs, ht rfl, (Paired.length hp).symm⟩
      | false => exact .inl ⟨vs, hl rfl, (Paired.length hp).symm⟩
    cases dx with
    | pu p =>
      cases p with
      | str z =>
        cases (show Rep H x (.str z) from rx)
        unfold gLen at hg
        dsimp only at hg
        by_cases hz : z.length ≤ lim
        · rw [if_pos hz] at hg
          cases hg
          exact ⟨_, z.length, rfl, ⟨by rw [← lim_eq]; exact hz, rfl⟩, .inl (q _ H f r0 (.refl _ _ _) (.int _))⟩
        · rw [if_neg hz] at hg
          cases hg
      | _ => exact sq hg
    | _ => exact sq hg
  | [], _ => cases hg
  | _ :: _ :: _, _ => simp [gLen] at hg
def pAbs : P → Option P
  | .int i => some (.int (if i < 0 then -i else i))
  | _ => none
def pInt : P → Option P
  | .int i => some (.int i)
  | .bool b => some (.int (if b then 1 else 0))
  | _ => none
theorem vp_int : VPA1 (fun xs H Q => (∃ i, xs = [.int i] ∧ Q (.int i) H) ∨ ∃ k, xs = [.bl k] ∧ Q (.int (if k then 1 else 0)) H) pInt := by
  intro H x a c Q rx h q
  cases rx with
  | int i => cases h; exact .inl ⟨i, rfl, .inl (q _ H (.refl _) (.int _))⟩
  | bl b => cases h; exact .inr ⟨b, rfl, .inl (q _ H (.refl _) (.int _))⟩
  | _ => cases h
def pDivmod : P → P → Option P
  | .int i, .int j => if 0 < j ∧ j < 1073741824 then some (.tuple [.int (i / j), .int (i % j)]) else none
  | _, _ => none
theorem vp_divmod : VPA2 (fun xs H Q => ∃ i j, xs = [.int i, .int j] ∧ CDiv i j ∧ ∀ p, H p = none → Q (.ref p) (upd H p (.tup [.int (i / j), .int (i % j)]))) pDivmod := by
  intro H x y a b z Q rx ry h q
  cases rx with
  | int i =>
    cases ry with
    | int j =>
      unfold pDivmod at h
      dsimp only at h
      by_cases hC : 0 < j ∧ j < 1073741824
      · rw [if_pos hC] at h
        cases h
        refine ⟨i, j, rfl, hC, fun p hp => .inl (q _ _ (upd_new hp) (.tup upd_same (.cons (.int _) (.cons (.int _) .nil))))⟩
      · rw [if_neg hC] at h
        cases h
    | _ => cases h
  | _ => cases h
def intsOf : List D → Option (List Int)
  | [] => some []
  | .pu (.int i) :: r => (intsOf r).bind fun is => some (i :: is)
  | _ :: _ => none
def blsOf : List D → Option (List Bool)
  | [] => some []
  | .pu (.bool i) :: r => (blsOf r).bind fun is => some (i :: is)
  | _ :: _ => none
theorem intsOf_ok {K : PySem.W.Frag} {L : Nat} : ∀ {vs : List V} {ds : List D} {is : List Int}, Paired (RD K H f L) vs ds → intsOf ds = some is → vs = is.map V.int
  | _, _, is, .nil, h => by cases h; rfl
  | _, .pu (.int i) :: _, is, .cons h t, hi => by
    obtain ⟨js, h1, h2⟩ := Option.bind_eq_some_iff.mp (show (intsOf _).bind _ = _ from hi)
    cases h2
    cases (show Rep H _ (.int i) from h)
    rw [intsOf_ok t h1]
    rfl
theorem blsOf_ok {K : PySem.W.Frag} {L : Nat} : ∀ {vs : List V} {ds : List D} {is : List Bool}, Paired (RD K H f L) vs ds → blsOf ds = some is → vs = is.map V.bl
  | _, _, is, .nil, h => by cases h; rfl
  | _, .pu (.bool i) :: _, is, .cons h t, hi => by
    obtain ⟨js, h1, h2⟩ := Option.bind_eq_some_iff.mp (show (blsOf _).bind _ = _ from hi)
    cases h2
    cases (show Rep H _ (.bool i) from h)
    rw [blsOf_ok t h1]
    rfl
/-- a function of a list of ints, of bools -/
def gInts (C : List Int → Bool) (g : List Int → Int) : List D → Sto → Option (D × Sto)
  | [d], S => match seqD d S with
    | some (false, ds) => (intsOf ds).bind fun is => if C is then some (.pu (.int (g is)), S) else none
    | _ => none
  | _, _ => none
def gBls (g : List Bool → Bool) : List D → Sto → Option (D × Sto)
  | [d], S => match seqD d S with
    | some (false, ds) => (blsOf ds).bind fun is => some (.pu (.bool (g is)), S)
    | _ => none
  | _, _ => none
theorem v_ints {C : List Int → Bool} {g : List Int → Int} {r : List V → Hp → VK → Prop} (hK : X.K = G.K) (h : ∀ (a : Addr) (is : List Int) H Q, SqL X.K H a (is.map V.int) → C is = true → Q (.int (g is)) H → r [.ref a] H Q) : VA G r (gInts C g) := by
  intro σ H e S f vs ds d S' Q r0 rs hg q
  match ds, rs with
  | [dx], .cons (a := x) rx .nil =>
    unfold gInts at hg
    dsimp only at hg
    cases hs : seqD dx S with
    | none => rw [hs] at hg; cases hg
    | some kd =>
      obtain ⟨k, ds⟩ := kd
      rw [hs] at hg
      cases k with
      | true => cases hg
      | false =>
        obtain ⟨is, h1, h2⟩ := Option.bind_eq_some_iff.mp hg
        obtain ⟨a, vs, rfl, ht, hl, hp⟩ := seq_ok r0 rx hs
        have e1 := intsOf_ok hp h1
        subst e1
        by_cases hC : C is = true
        · rw [if_pos hC] at h2
          cases h2
          exact h a is H _ (by rw [hK]; exact hl rfl) hC (.inl (q _ H f r0 (.refl _ _ _) (.int _)))
        · rw [if_neg hC] at h2
          cases h2
  | [], _ => cases hg
  | _ :: _ :: _, _ => simp [gInts] at hg
theorem v_bls {g : List Bool → Bool} {r : List V → Hp → VK → Prop} (hK : X.K = G.K) (h : ∀ (a : Addr) (is : List Bool) H Q, SqL X.K H a (is.map V.bl) → Q (.bl (g is)) H → r [.ref a] H Q) : VA G r (gBls g) := by
  intro σ H e S f vs ds d S' Q r0 rs hg q
  match ds, rs with
  | [dx], .cons (a := x) rx .nil =>
    unfold gBls at hg
    dsimp only at hg
    cases hs : seqD dx S with
    | none => rw [hs] at hg; cases hg
    | some kd =>
      obtain ⟨k, ds⟩ := kd
      rw [hs] at hg
      cases k with
      | true => cases hg
      | false =>
        obtain ⟨is, h1, h2⟩ := Option.bind_eq_some_iff.mp hg
        obtain ⟨a, vs, rfl, ht, hl, hp⟩ := seq_ok r0 rx hs
        have e1 := blsOf_ok hp h1
        subst e1
        cases h2
        exact h a is H _ (by rw [hK]; exact hl rfl) (.inl (q _ H f r0 (.refl _ _ _) (.bl _)))
  | [], _ => cases hg
  | _ :: _ :: _, _ => simp [gBls] at hg
def maxL : List Int → Int
  | [] => 0
  | [x] => x
  | x :: r => let m := maxL r; if x < m then m else x
def minL : List Int → Int
  | [] => 0
  | [x] => x
  | x :: r => let m := minL r; if m < x then m else x
theorem minL_cons (x y : Int) (r : List Int) : minL (x :: y :: r) = if minL (y :: r) < x then minL (y :: r) else x := rfl
theorem minL_is : ∀ (x : Int) (r : List Int) (m : Int), m ∈ x :: r → (∀ y ∈ x :: r, m ≤ y) → m = minL (x :: r)
  | x, [], m, h, _ => by simpa [maxL, minL] using h
  | x, y :: r, m, h, hm => by
    have key : minL (y :: r) ∈ y :: r ∧ ∀ z ∈ y :: r, minL (y :: r) ≤ z := by
      clear h hm
      induction r generalizing y with
      | nil => exact ⟨by simp [minL], by simp [minL]⟩
      | cons z r ih =>
        obtain ⟨i1, i2⟩ := ih z
        rw [minL_cons]
        by_cases c : minL (z :: r) < y
        · rw [if_pos c]
          exact ⟨List.mem_cons_of_mem _ i1, fun w hw => by
            rcases List.mem_cons.mp hw with rfl | hw
            · omega
            · exact i2 w hw⟩
        · rw [if_neg c]
          exact ⟨List.mem_cons_self, fun w hw => by
            rcases List.mem_cons.mp hw with rfl | hw
            · omega
            · have := i2 w hw; omega⟩
    rw [minL_cons]
    have h1 := hm x List.mem_cons_self
    have h2 := hm _ (List.mem_cons_of_mem x key.1)
    by_cases c : minL (y :: r) < x
    · rw [if_pos c]
      rcases List.mem_cons.mp h with rfl | h
      · omega
      · have := key.2 m h; omega
    · rw [if_neg c]
      rcases List.mem_cons.mp h with rfl | h
      · rfl
      · have := key.2 m h; omega
abbrev gMinL := gInts (fun is => !is.isEmpty) minL
theorem v_minL (hK : X.K = G.K) : VA G (rMin X.K) gMinL := v_ints hK fun a is H Q hs hC q => by
  cases is with
  | nil => cases hC
  | cons x r => exact ⟨a, x :: r, rfl, hs, Nat.succ_pos _, fun m h1 h2 => by rw [minL_is x r m h1 h2]; exact q⟩
theorem v_all (hK : X.K = G.K) : VA G (rAll X.K) (gBls fun bs => bs.all id) := v_bls hK fun a is H Q hs q => ⟨a, is, rfl, hs, q⟩
theorem v_any (hK : X.K = G.K) : VA G (rAny X.K) (gBls fun bs => bs.any id) := v_bls hK fun a is H Q hs q => ⟨a, is, rfl, hs, q⟩
end
end DL
/-! DL3: equality, tests, slices, displays. -/
namespace DL
open PySem PySem.Spec PyProof.Rows L2

/-! ### plain data of a bounded depth, without dicts -/
def shp : Nat → P → Bool
  | 0, _ => false
  | _ + 1, .none => true
  | _ + 1, .bool _ => true
  | _ + 1, .int _ => true
  | _ + 1, .str x => PyData.strOk x
  | k + 1, .list xs => xs.all (shp k)
  | k + 1, .tuple xs => xs.all (shp k)
  | _ + 1, .dict _ => false
theorem shp_all {k : Nat} (ih : ∀ p, shp k p = true → p.canLay0 = true ∧ p.depth ≤ k) : ∀ xs : List P, xs.all (shp k) = true → PyData.canLayAll0 xs = true ∧ PyData.depthAll xs ≤ k
  | [], _ => ⟨by simp [PyData.canLayAll0], by simp [PyData.depthAll]⟩
  | x :: xs, h => by
    rw [List.all_cons, Bool.and_eq_true] at h
    obtain ⟨a1, a2⟩ := ih x h.1
    obtain ⟨b1, b2⟩ := shp_all ih xs h.2
    exact ⟨by rw [PyData.canLayAll0, a1, b1]; rfl, by rw [PyData.depthAll]; omega⟩
theorem shp_ok : ∀ (k : Nat) (p : P), shp k p = true → p.canLay0 = true ∧ p.depth ≤ k
  | 0, _, h => by cases h
  | k + 1, .none, _ => ⟨by simp [PyData.canLay0], by simp [PyData.depth]⟩
  | k + 1, .bool _, _ => ⟨by simp [PyData.canLay0], by simp [PyData.depth]⟩
  | k + 1, .int _, _ => ⟨by simp [PyData.canLay0], by simp [PyData.depth]⟩
  | k + 1, .str x, h => ⟨by rw [PyData.canLay0]; exact h, by simp [PyData.depth]⟩
  | k + 1, .list xs, h => by
    obtain ⟨a, b⟩ := shp_all (shp_ok k) xs h
    exact ⟨by rw [PyData.canLay0]; exact a, by rw [PyData.depth]; omega⟩
  | k + 1, .tuple xs, h => by
    obtain ⟨a, b⟩ := shp_all (shp_ok k) xs h
    exact ⟨by rw [PyData.canLay0]; exact a, by rw [PyData.depth]; omega⟩
  | k + 1, .dict _, h => by cases h
theorem shp_shaped {p : P} (h : shp 9 p = true) : SeqAt.shaped p = true := by
  obtain ⟨a, b⟩ := shp_ok 9 p h
  unfold SeqAt.shaped
  rw [a, decide_eq_true (show p.depth ≤ 64 by omega)]
  rfl
mutual
theorem Rep.dp {K : PySem.W.Frag} {H : Hp} : ∀ {v : V} {p : P}, Rep H v p → p.canLay0 = true → Dp K H v p
  | _, _, .non, _ => .non
  | _, _, .bl b, _ => .bl b
  | _, _, .int i, _ => .int i
  | _, _, .str x, _ => .str x
  | _, _, .lst h hs, c => .lst h.sq (RepL.dp hs (by simpa [PyData.canLay0] using c))
  | _, _, .tup h hs, c => .tup (SqT.of h) (RepL.dp hs (by simpa [PyData.canLay0] using c))
  | _, _, .dct _ _ _ _ _, c => absurd c (by simp [PyData.canLay0])
theorem RepL.dp {K : PySem.W.Frag} {H : Hp} : ∀ {vs : List V} {ps : List P}, RepL H vs ps → PyData.canLayAll0 ps = true → DpAll K H vs ps
  | _, _, .nil, _ => .nil
  | _, _, .cons h t, c => by
    rw [PyData.canLayAll0, Bool.and_eq_true] at c
    exact .cons (Rep.dp h c.1) (RepL.dp t c.2)
end
mutual
theorem RepW.dp {K : PySem.W.Frag} {H : Hp} : ∀ {v : V} {p : P}, RepW K v p → Dp K H v p
  | _, _, .non => .non
  | _, _, .bl b => .bl b
  | _, _, .int i => .int i
  | _, _, .str x => .str x
  | _, _, .lst h1 h2 h3 h4 h5 h6 hs => .lst (.inr ⟨_, _, _, h1, h2, h3, h4, h5, h6⟩) (RepWL.dp hs)
  | _, _, .tup h1 h2 h3 h4 h5 h6 hs => .tup (.inr ⟨_, _, _, h1, h2, h4, h5, h6⟩) (RepWL.dp hs)
theorem RepWL.dp {K : PySem.W.Frag} {H : Hp} : ∀ {vs : List V} {ps : List P}, RepWL K vs ps → DpAll K H vs ps
  | _, _, .nil => .nil
  | _, _, .cons h t => .cons (RepW.dp h) (RepWL.dp t)
end
/-- the data of what is no cell -/
def datD : D → Option P
  | .pu p => some p
  | .wr p => some p
  | .bo _ (.lst xs) => some (.list xs)
  | .nw (.lst xs) => some (.list xs)
  | _ => none
def pusOf : List D → Option (List P)
  | [] => some []
  | .pu p :: r => (pusOf r).bind fun ps => some (p :: ps)
  | _ :: _ => none
theorem pusOf_eq : ∀ {ds : List D} {ps : List P}, pusOf ds = some ps → ds = ps.map .pu
  | [], _, h => by cases h; rfl
  | .pu p :: r, ps, h => by
    obtain ⟨qs, h1, h2⟩ := Option.bind_eq_some_iff.mp (show (pusOf r).bind _ = _ from h)
    cases h2
    rw [pusOf_eq h1]
    rfl
def datS (d : D) (S : Sto) : Option P := match d with
  | .rf n => match S[n]? with
    | some (.lst ds) => (pusOf ds).bind fun ps => some (.list ps)
    | _ => none
  | d => datD d
section
variable {X : Cx} {G : Gx} {σ : L2.St} {H : Hp} {e : Envi} {S : Sto} {f : Nat → Addr}
theorem dat_dp (r : R G σ H e S f) {v : V} {d : D} {p : P} (h : RE G σ H e f S.length v d) (hd : datS d S = some p) (c : p.canLay0 = true) : Dp G.K H v p := by
  cases d with
  | pu q => cases hd; exact Rep.dp h c
  | wr q => cases hd; exact RepW.dp h
  | rf n =>
    unfold datS at hd
    dsimp only at hd
    obtain ⟨e1, l⟩ := (show v = .ref (f n) ∧ n < S.length from h)
    cases hc : S[n]? with
    | none => rw [hc] at hd; cases hd
    | some cc =>
      rw [hc] at hd
      cases cc with
      | lst ds' =>
        obtain ⟨ps, h1, h2⟩ := Option.bind_eq_some_iff.mp hd
        cases h2
        have e2 := pusOf_eq h1
        subst e2
        obtain ⟨vs, h3, h4⟩ := r.cel n _ hc
        subst e1
        exact .lst (SqL.of h3) (RepL.dp (rd_reps h4) (by simpa [PyData.canLay0] using c))
      | _ => cases hd
  | bo i cc =>
    cases cc with
    | lst xs =>
      cases hd
      obtain ⟨h1, h2⟩ := (show σ[i]? = some (some v) ∧ e[i]? = some (some (.ow (.lst xs))) from h)
      obtain ⟨a, h3, ⟨vs, h4, h5⟩, _⟩ := r.own i _ h2
      rw [h1] at h3
      cases h3
      exact .lst (SqL.of h4) (RepL.dp h5 (by simpa [PyData.canLay0] using c))
    | dct ps => cases hd
  | nw cc =>
    obtain ⟨a, e1, h4, _⟩ := (show ∃ a, v = .ref a ∧ OCok H a cc ∧ _ from h)
    subst e1
    cases cc with
    | lst xs =>
      cases hd
      obtain ⟨vs, h4, h5⟩ := h4
      exact .lst (SqL.of h4) (RepL.dp h5 (by simpa [PyData.canLay0] using c))
    | dct ps => cases hd

/-! ### == and != -/
def gEq (neg : Bool) (d1 d2 : D) (S : Sto) : Option (D × Sto) := (datS d1 S).bind fun a => (datS d2 S).bind fun b => if shp 9 a && shp 9 b then some (.pu (.bool (if neg then !PyData.eqv a b else PyData.eqv a b)), S) else none
theorem v_eq (hK : X.K = G.K) : V2 G (rEqD X.K) (gEq false) := by
  intro σ H e S f x y dx dy d S' Q r0 rx ry hg q
  obtain ⟨a, h1, hg⟩ := Option.bind_eq_some_iff.mp hg
  obtain ⟨b, h2, hg⟩ := Option.bind_eq_some_iff.mp hg
  by_cases c : (shp 9 a && shp 9 b) = true
  · rw [if_pos c] at hg
    cases hg
    rw [Bool.and_eq_true] at c
    rw [hK]
    exact ⟨a, b, dat_dp r0 rx h1 (shp_ok _ _ c.1).1, dat_dp r0 ry h2 (shp_ok _ _ c.2).1, shp_shaped c.1, shp_shaped c.2, .inl (q _ H f r0 (.refl _ _ _) (.bl _))⟩
  · rw [if_neg c] at hg
    cases hg
theorem v_ne (hK : X.K = G.K) : V2 G (rNeD X.K) (gEq true) := by
  intro σ H e S f x y dx dy d S' Q r0 rx ry hg q
  obtain ⟨a, h1, hg⟩ := Option.bind_eq_some_iff.mp hg
  obtain ⟨b, h2, hg⟩ := Option.bind_eq_some_iff.mp hg
  by_cases c : (shp 9 a && shp 9 b) = true
  · rw [if_pos c] at hg
    cases hg
    rw [Bool.and_eq_true] at c
    rw [hK]
    exact ⟨a, b, dat_dp r0 rx h1 (shp_ok _ _ c.1).1, dat_dp r0 ry h2 (shp_ok _ _ c.2).1, shp_shaped c.1, shp_shaped c.2, .inl (q _ H f r0 (.refl _ _ _) (.bl _))⟩
  · rw [if_neg c] at hg
    cases hg
/-- is None, is not None -/
def gIsN (neg : Bool) : D → D → Sto → Option (D × Sto)
  | .pu .none, .pu .none, S => some (.pu (.bool (!neg)), S)
  | .pu _, .pu .none, S => some (.pu (.bool neg), S)
  | .rf _, .pu .none, S => some (.pu (.bool neg), S)
  | .bo _ _, .pu .none, S => some (.pu (.bool neg), S)
  | _, _, _ => none
/-! ### freezing behind an operator's rule -/
theorem opG {g : Value → Value → Sem Value} {r : R2} (h : OpR X g r) : OpR X g (fun x y H Q => r x y H (GQ Q)) := by
  intro pins s σ H x y v u Q I rx ry q
  refine thn (h pins s σ H x y v u _ I rx ry q) fun u s1 ⟨v, H1, I1, r1, q⟩ => ?_
  rcases q with q | ⟨a, w, rfl, ha, mu, q⟩
  · exact ⟨v, H1, I1, r1, q⟩
  · obtain ⟨od, I2⟩ := I1.lock ha mu
    exact ⟨_, _, I2, r1, q od⟩

/-! ### tests -/
def tOfE (x : Ex) : Tx := fun e S => (x e S).bind fun r => match r.1 with
  | .pu (.bool b) => some (b, r.2)
  | _ => none
def tNotX (t : Tx) : Tx := fun e S => (t e S).bind fun r => some (!r.1, r.2)
def tAndX (t u : Tx) : Tx := fun e S => (t e S).bind fun r => if r.1 then u e r.2 else some (false, r.2)
def tOrX (t u : Tx) : Tx := fun e S => (t e S).bind fun r => if r.1 then some (true, r.2) else u e r.2
theorem tofE {x : Ex} {Q : Bool → Hp → Prop} (h : tTx G (tOfE x) σ H Q) : tE G x σ H fun v H' => ∃ k, v = .bl k ∧ Q k H' := by
  obtain ⟨e, S, f, r0, b, S', hx, q⟩ := h
  unfold tOfE at hx
  obtain ⟨⟨d, S1⟩, h1, hx⟩ := Option.bind_eq_some_iff.mp hx
  match d, hx with
  | .pu (.bool b'), hx =>
    cases hx
    refine ⟨e, S, f, r0, _, _, h1, fun v H' f' r1 n1 p1 => ?_⟩
    cases (show Rep H' v (.bool b) from p1)
    exact ⟨b, rfl, q H' f' r1 n1⟩
/-- an expression as a test -/
theorem d_test {a : Expr} {x : Ex} (h : DE X G a x) (he : ∀ whole, isTrue a X.env whole = (do let v ← whole; standAt a.pos; holding [v] (truthy v)) := by intro _; rfl) : DT X G a (tOfE x) :=
  pt_mono (pt_val h he) fun σ H Q h => tofE h
theorem d_cmpT {op : CmpOp} {r : R2} {g : D → D → Sto → Option (D × Sto)} {a b : Expr} {xa xb : Ex} {pos : Pos} (ho : OpR X (compareOp op) r) (h : V2 G r g) (ha : DE X G a xa) (hb : DE X G b xb) (hm : behindInMarks op b = false) : DT X G (.Compare a [op] [b] pos) (tOfE (x2 g xa xb)) :=
  pt_mono (pt_cmpR (opG ho) ha hb hm) fun σ H Q hh => by
    have q := tE.b2 (r := r) h σ H _ (tofE hh)
    exact q
theorem d_notT {a : Expr} {t : Tx} {pos : Pos} (h : DT X G a t) : DT X G (.UnaryOp .Not a pos) (tNotX t) :=
  pt_mono (pt_not h) fun σ H Q hh => by
    obtain ⟨e, S, f, r0, b, S', hx, q⟩ := hh
    obtain ⟨⟨c, S1⟩, h1, hx⟩ := Option.bind_eq_some_iff.mp hx
    cases hx
    exact ⟨e, S, f, r0, c, S1, h1, q⟩
theorem d_and1 {a : Expr} {t : Tx} {pos : Pos} (h : DT X G a t) : DW X G (.BoolOp .And [a] pos) t := pw_and1 h
theorem d_or1 {a : Expr} {t : Tx} {pos : Pos} (h : DT X G a t) : DW X G (.BoolOp .Or [a] pos) t := pw_or1 h
theorem d_andT {a b : Expr} {rest : List Expr} {t u : Tx} {pos : Pos} (h : DT X G a t) (h2 : DW X G (.BoolOp .And (b :: rest) pos) u) : DW X G (.BoolOp .And (a :: b :: rest) pos) (tAndX t u) := by
  refine ⟨fun wh pins s σ H Q I hh => (pw_and h h2).run wh pins s σ H Q I ?_⟩
  obtain ⟨e, S, f, r0, c, S', hx, q⟩ := hh
  obtain ⟨⟨c1, S1⟩, h1, hx⟩ := Option.bind_eq_some_iff.mp hx
  refine ⟨e, S, f, r0, c1, S1, h1, fun H1 f1 r1 n1 => ?_⟩
  cases c1 with
  | true =>
    rw [if_pos rfl]
    exact ⟨e, S1, f1, r1, c, S', hx, fun H2 f2 r2 n2 => q H2 f2 r2 (n1.trans n2)⟩
  | false =>
    rw [if_neg Bool.false_ne_true]
    cases hx
    exact q H1 f1 r1 n1
theorem d_orT {a b : Expr} {rest : List Expr} {t u : Tx} {pos : Pos} (h : DT X G a t) (h2 : DW X G (.BoolOp .Or (b :: rest) pos) u) : DW X G (.BoolOp .Or (a :: b :: rest) pos) (tOrX t u) := by
  refine ⟨fun wh pins s σ H Q I hh => (pw_or h h2).run wh pins s σ H Q I ?_⟩
  obtain ⟨e, S, f, r0, c, S', hx, q⟩ := hh
  obtain ⟨⟨c1, S1⟩, h1, hx⟩ := Option.bind_eq_some_iff.mp hx
  refine ⟨e, S, f, r0, c1, S1, h1, fun H1 f1 r1 n1 => ?_⟩
  cases c1 with
  | true =>
    rw [if_pos rfl]
    cases hx
    exact q H1 f1 r1 n1
  | false =>
    rw [if_neg Bool.false_ne_true]
    exact ⟨e, S1, f1, r1, c, S', hx, fun H2 f2 r2 n2 => q H2 f2 r2 (n1.trans n2)⟩
/-! ### and, or, not as values (bools) -/
def xAndX (a b : Ex) : Ex := fun e S => (a e S).bind fun r => match r.1 with
  | .pu (.bool c) => if c then b e r.2 else some (.pu (.bool false), r.2)
  | _ => none
def xOrX (a b : Ex) : Ex := fun e S => (a e S).bind fun r => match r.1 with
  | .pu (.bool c) => if c then some (.pu (.bool true), r.2) else b e r.2
  | _ => none
def gNot : D → Sto → Option (D × Sto)
  | .pu (.bool c), S => some (.pu (.bool (!c)), S)
  | _, _ => none
theorem d_one {op} {a : Expr} {x : Ex} {pos : Pos} (h : DE X G a x) : DE X G (.BoolOp op [a] pos) x := pe_one h
theorem d_and {a b : Expr} {rest : List Expr} {xa xb : Ex} {pos : Pos} (ha : DE X G a xa) (hb : DE X G (.BoolOp .And (b :: rest) pos) xb) : DE X G (.BoolOp .And (a :: b :: rest) pos) (xAndX xa xb) :=
  pe_mono (pe_and ha hb) fun σ H Q hh => by
    obtain ⟨e, S, f, r0, d, S', hx, q⟩ := hh
    obtain ⟨⟨d1, S1⟩, h1, hx⟩ := Option.bind_eq_some_iff.mp hx
    match d1, hx with
    | .pu (.bool c), hx =>
      refine ⟨e, S, f, r0, _, S1, h1, fun v H1 f1 r1 n1 p1 => ?_⟩
      cases (show Rep H1 v (.bool c) from p1)
      refine ⟨c, rfl, ?_⟩
      dsimp only at hx
      cases c with
      | true =>
        rw [if_pos rfl]
        exact ⟨e, S1, f1, r1, d, S', hx, fun v H2 f2 r2 n2 p2 => q v H2 f2 r2 (n1.trans n2) p2⟩
      | false =>
        rw [if_neg Bool.false_ne_true]
        cases hx
        exact q _ H1 f1 r1 n1 (.bl false)
def xIte (t : Tx) (a b : Ex) : Ex := fun e S => (t e S).bind fun r => if r.1 then a e r.2 else b e r.2
theorem d_ite {c a b : Expr} {t : Tx} {xa xb : Ex} {pos : Pos} (hc : DT X G c t) (ha : DE X G a xa) (hb : DE X G b xb) : DE X G (.IfExp c a b pos) (xIte t xa xb) :=
  pe_mono (pe_ifExp hc ha hb) fun σ H Q hh => by
    obtain ⟨e, S, f, r0, d, S', hx, q⟩ := hh
    obtain ⟨⟨c1, S1⟩, h1, hx⟩ := Option.bind_eq_some_iff.mp hx
    refine ⟨e, S, f, r0, c1, S1, h1, fun H1 f1 r1 n1 => ?_⟩
    cases c1 with
    | true =>
      rw [if_pos rfl]
      exact ⟨e, S1, f1, r1, d, S', hx, fun v H2 f2 r2 n2 p2 => q v H2 f2 r2 (n1.trans n2) p2⟩
    | false =>
      rw [if_neg Bool.false_ne_true]
      exact ⟨e, S1, f1, r1, d, S', hx, fun v H2 f2 r2 n2 p2 => q v H2 f2 r2 (n1.trans n2) p2⟩
/-! ### a op b op' c -/
def xChain (g g' : D → D → Sto → Option (D × Sto)) (a b c : Ex) : Ex := fun e S => (a e S).bind fun r => (b e r.2).bind fun q => (g r.1 q.1 q.2).bind fun z => match z.1 with
  | .pu (.bool k) => if k then (c e z.2).bind fun w => g' q.1 w.1 w.2 else some (.pu (.bool false), z.2)
  | _ => none
end
end DL
/-! DL4: list(..), tuple(..), slices, displays, cells, +, in, isinstance, calls of defs. -/
namespace DL
open PySem PySem.Spec PyProof.Rows L2
section
variable {X : Cx} {G : Gx} {σ : L2.St} {H : Hp} {e : Envi} {S : Sto} {f : Nat → Addr}

/-! ### new frozen things -/
theorem fz_new {p : Addr} {u : HO} {od : Obj} (h : H p = none) : Same H (upd (upd H p u) p (.frz od u)) := by
  rw [upd_upd]
  exact upd_new h
/-- a new list is frozen -/
theorem lst_fin {p : Addr} {vs : List V} {ps : List P} {Q : VK} (h : H p = none) (r : RepL H vs ps) (q : ∀ v H', Same H H' → Rep H' v (.list ps) → Q v H') : GQ Q (.ref p) (upd H p (.lst vs)) :=
  .inr ⟨p, .lst vs, rfl, upd_same, trivial, fun od => q _ _ (fz_new h) (.lst ⟨od, upd_same⟩ (RepL.ext (.of (fz_new h)) r))⟩
theorem tup_fin {p : Addr} {vs : List V} {ps : List P} {Q : VK} (h : H p = none) (r : RepL H vs ps) (q : ∀ v H', Same H H' → Rep H' v (.tuple ps) → Q v H') : GQ Q (.ref p) (upd H p (.tup vs)) :=
  .inl (q _ _ (upd_new h) (.tup upd_same (RepL.ext (.of (upd_new h)) r)))
/-- a new list as a cell -/
theorem cel_fin {p : Addr} {vs : List V} {ds : List D} {Q : VK} (r0 : R G σ H e S f) (h : H p = none) (r : Paired (RD G.K H f S.length) vs ds) (q : Fin G σ e H f S (S ++ [.lst ds]) (.rf S.length) Q) : GQ Q (.ref p) (upd H p (.lst vs)) := by
  have x := nx_alloc (H := H) (f := f) (o := .lst vs) S.length h
  refine .inl (q _ _ (put1 f S.length p) (r0.alloc h ⟨vs, upd_same, Paired.mapP r fun _ _ => RD.nx x⟩) (by rw [len1]; exact x) ⟨by rw [put1_at], by rw [len1]; exact Nat.lt_succ_self _⟩)

/-! ### list(x), tuple(x) -/
def gList : List D → Sto → Option (D × Sto)
  | [d], S => (seqD d S).bind fun q => (pusOf q.2).bind fun ps => some (.pu (.list ps), S)
  | _, _ => none
/-- the same as a cell -/
def gListC : List D → Sto → Option (D × Sto)
  | [d], S => (seqD d S).bind fun q => some (.rf S.length, S ++ [.lst q.2])
  | _, _ => none
def gTuple : List D → Sto → Option (D × Sto)
  | [d], S => (seqD d S).bind fun q => (pusOf q.2).bind fun ps => some (.pu (.tuple ps), S)
  | _, _ => none
theorem sq_or {k : Bool} {a : Addr} {vs : List V} (ht : k = true → SqT G.K H a vs) (hl : k = false → SqL G.K H a vs) : SqL G.K H a vs ∨ SqT G.K H a vs := by
  cases k with
  | true => exact .inr (ht rfl)
  | false => exact .inl (hl rfl)
theorem v_list (hK : X.K = G.K) : VA G (fun xs H Q => ∃ p ys, xs = [.ref p] ∧ (SqL X.K H p ys ∨ SqT X.K H p ys) ∧ ∀ l, H l = none → Q (.ref l) (upd H l (.lst ys))) gList := by
  intro σ H e S f vs ds d S' Q r0 rs hg q
  match ds, rs with
  | [dx], .cons (a := x) rx .nil =>
    obtain ⟨⟨k, is⟩, h1, hg⟩ := Option.bind_eq_some_iff.mp (show (seqD dx S).bind _ = _ from hg)
    obtain ⟨ps, h2, hg⟩ := Option.bind_eq_some_iff.mp hg
    cases hg
    have e2 := pusOf_eq h2
    dsimp only at e2
    subst e2
    obtain ⟨a, us, rfl, ht, hl, hp⟩ := seq_ok r0 rx h1
    rw [hK]
    exact ⟨a, us, rfl, sq_or ht hl, fun l nl => lst_fin nl (rd_reps hp) fun v H' s rv => q v H' f (r0.same s) (.of s _ _) rv⟩
  | [], _ => cases hg
  | _ :: _ :: _, _ => simp [gList] at hg
theorem v_listC (hK : X.K = G.K) : VA G (fun xs H Q => ∃ p ys, xs = [.ref p] ∧ (SqL X.K H p ys ∨ SqT X.K H p ys) ∧ ∀ l, H l = none → Q (.ref l) (upd H l (.lst ys))) gListC := by
  intro σ H e S f vs ds d S' Q r0 rs hg q
  match ds, rs with
  | [dx], .cons (a := x) rx .nil =>
    obtain ⟨⟨k, is⟩, h1, hg⟩ := Option.bind_eq_some_iff.mp (show (seqD dx S).bind _ = _ from hg)
    cases hg
    obtain ⟨a, us, rfl, ht, hl, hp⟩ := seq_ok r0 rx h1
    rw [hK]
    exact ⟨a, us, rfl, sq_or ht hl, fun l nl => cel_fin r0 nl hp q⟩
  | [], _ => cases hg
  | _ :: _ :: _, _ => simp [gListC] at hg
theorem v_tuple (hK : X.K = G.K) : VA G (fun xs H Q => ∃ p ys, xs = [.ref p] ∧ ((SqL X.K H p ys ∧ ∀ l, H l = none → Q (.ref l) (upd H l (.tup ys))) ∨ (SqT X.K H p ys ∧ Q (.ref p) H))) (fun ds S => match ds with
    | [.wr _] => none
    | ds => gTuple ds S) := by
  intro σ H e S f vs ds d S' Q r0 rs hg q
  match ds, rs with
  | [dx], .cons (a := x) rx .nil =>
    have hg' : (seqD dx S).bind (fun q => (pusOf q.2).bind fun ps => some (D.pu (.tuple ps), S)) = some (d, S') := by
      cases dx with
      | wr p => cases hg
      | _ => exact hg
    have nw : ∀ p, dx ≠ .wr p := fun p z => by subst z; cases hg
    obtain ⟨⟨k, is⟩, h1, hg⟩ := Option.bind_eq_some_iff.mp hg'
    obtain ⟨ps, h2, hg⟩ := Option.bind_eq_some_iff.mp hg
    cases hg
    have e2 := pusOf_eq h2
    dsimp only at e2
    subst e2
    obtain ⟨a, us, rfl, ht, hl, hp⟩ := seq_ok r0 rx h1
    rw [hK]
    refine ⟨a, us, rfl, ?_⟩
    cases k with
    | true =>
      refine .inr ⟨ht rfl, .inl (q _ H f r0 (.refl _ _ _) ?_)⟩
      cases dx with
      | pu p =>
        cases p with
        | tuple xs =>
          have h1' : some (true, xs.map D.pu) = some (true, ps.map D.pu) := h1
          have e3 : xs.map D.pu = ps.map D.pu := by injection h1' with h1'; injection h1'
          have e4 : xs = ps := by
            have inj : ∀ (l m : List P), l.map D.pu = m.map D.pu → l = m := by
              intro l
              induction l with
              | nil => intro m h; cases m with
                | nil => rfl
                | cons _ _ => cases h
              | cons x l ih => intro m h; cases m with
                | nil => cases h
                | cons y m =>
                  injection h with h1 h2
                  injection h1 with h1
                  rw [h1, ih m h2]
            exact inj _ _ e3
          subst e4
          exact rx
        | _ => cases h1
      | wr p => exact absurd rfl (nw p)
      | rf n =>
        unfold seqD at h1
        dsimp only at h1
        cases hc : S[n]? with
        | none => rw [hc] at h1; cases h1
        | some c =>
          rw [hc] at h1
          cases c with
          | tup ds' =>
            cases h1
            obtain ⟨us', k1, k2⟩ := r0.cel n _ hc
            obtain ⟨e1, _⟩ := (show V.ref a = V.ref (f n) ∧ n < S.length from rx)
            rw [e1]
            exact .tup k1 (rd_reps k2)
          | _ => cases h1
      | bo i c => cases c <;> cases h1
      | nw c => cases c <;> cases h1
    | false =>
      exact .inl ⟨hl rfl, fun l nl => tup_fin nl (rd_reps hp) fun v H' s rv => q v H' f (r0.same s) (.of s _ _) rv⟩
  | [], _ => cases hg
  | _ :: _ :: _, _ => simp [gTuple] at hg

/-! ### displays -/
def gTup (ds : List D) (S : Sto) : Option (D × Sto) := (pusOf ds).bind fun ps => if ps.length ≤ lim then some (.pu (.tuple ps), S) else none
def gLst (ds : List D) (S : Sto) : Option (D × Sto) := (pusOf ds).bind fun ps => if ps.length ≤ lim then some (.pu (.list ps), S) else none
def noBo : List D → Bool
  | [] => true
  | .bo _ _ :: _ => false
  | .nw _ :: _ => false
  | _ :: r => noBo r
def gLstC (ds : List D) (S : Sto) : Option (D × Sto) := if noBo ds && decide (ds.length ≤ lim) then some (.rf S.length, S ++ [.lst ds]) else none
theorem re_reps : ∀ {vs : List V} {ps : List P}, Paired (RE G σ H e f S.length) vs (ps.map .pu) → RepL H vs ps
  | _, [], .nil => .nil
  | _, _ :: _, .cons h t => .cons h (re_reps t)
theorem re_rds : ∀ {vs : List V} {ds : List D}, Paired (RE G σ H e f S.length) vs ds → noBo ds = true → Paired (RD G.K H f S.length) vs ds
  | _, _, .nil, _ => .nil
  | _, .pu _ :: _, .cons h t, n => .cons h (re_rds t n)
  | _, .wr _ :: _, .cons h t, n => .cons h (re_rds t n)
  | _, .rf _ :: _, .cons h t, n => .cons h (re_rds t n)
theorem d_tup {es : List Expr} {xa : Ax} {k : Nat} {pos : Pos} (h : DA X G es xa) : DE X G (.Tuple es k pos) (xA gTup xa) := by
  refine pe_mono (pe_gh (pe_tup h)) fun σ H Q hh => ?_
  refine tE.bA (r := fun xs H Q => xs.length ≤ sizeLine ∧ ∀ p, H p = none → Q (.ref p) (upd H p (.tup xs))) ?_ σ H Q hh
  intro σ H e S f vs ds d S' Q r0 rs hg q
  obtain ⟨ps, h1, hg⟩ := Option.bind_eq_some_iff.mp hg
  by_cases c : ps.length ≤ lim
  · rw [if_pos c] at hg
    cases hg
    have e1 := pusOf_eq h1
    subst e1
    have rp := re_reps rs
    exact ⟨by rw [rp.length, ← lim_eq]; exact c, fun p hp => tup_fin hp rp fun v H' s rv => q v H' f (r0.same s) (.of s _ _) rv⟩
  · rw [if_neg c] at hg
    cases hg
theorem d_lst {es : List Expr} {xa : Ax} {pos : Pos} (h : DA X G es xa) : DE X G (.List es pos) (xA gLst xa) := by
  refine pe_mono (pe_gh (pe_lst h)) fun σ H Q hh => ?_
  refine tE.bA (r := fun xs H Q => xs.length ≤ sizeLine ∧ ∀ p, H p = none → Q (.ref p) (upd H p (.lst xs))) ?_ σ H Q hh
  intro σ H e S f vs ds d S' Q r0 rs hg q
  obtain ⟨ps, h1, hg⟩ := Option.bind_eq_some_iff.mp hg
  by_cases c : ps.length ≤ lim
  · rw [if_pos c] at hg
    cases hg
    have e1 := pusOf_eq h1
    subst e1
    have rp := re_reps rs
    exact ⟨by rw [rp.length, ← lim_eq]; exact c, fun p hp => lst_fin hp rp fun v H' s rv => q v H' f (r0.same s) (.of s _ _) rv⟩
  · rw [if_neg c] at hg
    cases hg
theorem d_lstC {es : List Expr} {xa : Ax} {pos : Pos} (h : DA X G es xa) : DE X G (.List es pos) (xA gLstC xa) := by
  refine pe_mono (pe_gh (pe_lst h)) fun σ H Q hh => ?_
  refine tE.bA (r := fun xs H Q => xs.length ≤ sizeLine ∧ ∀ p, H p = none → Q (.ref p) (upd H p (.lst xs))) ?_ σ H Q hh
  intro σ H e S f vs ds d S' Q r0 rs hg q
  unfold gLstC at hg
  by_cases c : (noBo ds && decide (ds.length ≤ lim)) = true
  · rw [if_pos c] at hg
    cases hg
    rw [Bool.and_eq_true, decide_eq_true_eq] at c
    exact ⟨by rw [Paired.length rs, ← lim_eq]; exact c.2, fun p hp => cel_fin r0 hp (re_rds rs c.1) q⟩
  · rw [if_neg c] at hg
    cases hg

/-! ### slices -/
abbrev Ox := Envi → Sto → Option (Option Int × Sto)
def oNone : Ox := fun _ S => some (none, S)
def oSome (x : Ex) : Ox := fun e S => (x e S).bind fun r => match r.1 with
  | .pu (.int i) => some (some i, r.2)
  | _ => none
def tOx (G : Gx) (x : Ox) : TO := fun σ H Q => ∃ e S f, R G σ H e S f ∧ ∃ o S', x e S = some (o, S') ∧
  ∀ H' f', R G σ H' e S' f' → Nx H H' f f' S.length S'.length → Q o H'
theorem d_onone : PO X none (tOx G oNone) := by
  refine ⟨fun pins s σ H Q I hw => po_none.run pins s σ H Q I ?_⟩
  obtain ⟨e, S, f, r, o, S', hx, q⟩ := hw
  cases hx
  exact q H f r (.refl _ _ _)
theorem d_osome {a : Expr} {x : Ex} (h : DE X G a x) : PO X (some a) (tOx G (oSome x)) := by
  refine ⟨fun pins s σ H Q I hw => (po_some h).run pins s σ H Q I ?_⟩
  obtain ⟨e, S, f, r, o, S', hx, q⟩ := hw
  obtain ⟨⟨d, S1⟩, h1, hx⟩ := Option.bind_eq_some_iff.mp hx
  match d, hx with
  | .pu (.int i), hx =>
    cases hx
    refine ⟨e, S, f, r, _, S1, h1, fun v H1 f1 r1 n1 p1 => ?_⟩
    cases (show Rep H1 v (.int i) from p1)
    exact ⟨i, rfl, q H1 f1 r1 n1⟩
def cutL {α : Type} (xs : List α) (lo hi : Option Int) : List α := (xs.drop (HT.sIx xs.length 0 lo)).take (HT.sIx xs.length xs.length hi - HT.sIx xs.length 0 lo)
theorem Paired.dropp {α β : Type} {F : α → β → Prop} : ∀ {l : List α} {m : List β} (n : Nat), Paired F l m → Paired F (l.drop n) (m.drop n)
  | _, _, 0, h => h
  | _, _, _ + 1, .nil => .nil
  | _, _, n + 1, .cons _ t => Paired.dropp n t
theorem Paired.takep {α β : Type} {F : α → β → Prop} : ∀ {l : List α} {m : List β} (n : Nat), Paired F l m → Paired F (l.take n) (m.take n)
  | _, _, 0, _ => .nil
  | _, _, _ + 1, .nil => .nil
  | _, _, n + 1, .cons h t => .cons h (Paired.takep n t)
theorem cut_paired {α β : Type} {F : α → β → Prop} {l : List α} {m : List β} (h : Paired F l m) (lo hi : Option Int) : Paired F (cutL l lo hi) (cutL m lo hi) := by
  unfold cutL
  rw [Paired.length h]
  exact Paired.takep _ (Paired.dropp _ h)
def gSl (d : D) (lo hi : Option Int) (S : Sto) : Option (D × Sto) := (seqD d S).bind fun q => (pusOf (cutL q.2 lo hi)).bind fun ps => match q.1 with
  | true => if HT.sIx q.2.length 0 lo = 0 ∧ HT.sIx q.2.length q.2.length hi = q.2.length then none else some (.pu (.tuple ps), S)
  | false => some (.pu (.list ps), S)
def xSl (a : Ex) (lo hi : Ox) : Ex := fun e S => (a e S).bind fun r => (lo e r.2).bind fun l => (hi e l.2).bind fun h => gSl r.1 l.1 h.1 h.2
theorem d_slice {a : Expr} {xa : Ex} {lo hi : Option Expr} {xl xh : Ox} {pos p2 : Pos} (hK : X.K = G.K) (ha : DE X G a xa) (hl : PO X lo (tOx G xl)) (hh : PO X hi (tOx G xh)) : DE X G (.Subscript a (.Slice lo hi none p2) pos) (xSl xa xl xh) := by
  refine pe_mono (pe_gh (pe_slice (SlR.or sl_list sl_tup) ha hl hh)) fun σ H Q hw => ?_
  obtain ⟨e, S, f, r0, d, S', hx, q⟩ := hw
  obtain ⟨⟨d1, S1⟩, h1, hx⟩ := Option.bind_eq_some_iff.mp hx
  obtain ⟨⟨o2, S2⟩, h2, hx⟩ := Option.bind_eq_some_iff.mp hx
  obtain ⟨⟨o3, S3⟩, h3, hx⟩ := Option.bind_eq_some_iff.mp hx
  refine ⟨e, S, f, r0, d1, S1, h1, fun v1 H1 f1 r1 n1 p1 => ⟨e, S1, f1, r1, o2, S2, h2, fun H2 f2 r2 n2 => ⟨e, S2, f2, r2, o3, S3, h3, fun H3 f3 r3 n3 => ?_⟩⟩⟩
  obtain ⟨⟨k, is⟩, h4, hx⟩ := Option.bind_eq_some_iff.mp (show (seqD d1 S3).bind _ = _ from hx)
  obtain ⟨ps, h5, hx⟩ := Option.bind_eq_some_iff.mp hx
  obtain ⟨a, us, rfl, ht, hl, hp⟩ := seq_ok r3 (p1.nx (n2.trans n3)) h4
  have e5 := pusOf_eq h5
  dsimp only at e5
  have hc := cut_paired hp o2 o3
  rw [e5] at hc
  have nn := (n1.trans n2).trans n3
  rw [hK]
  cases k with
  | false =>
    cases hx
    exact .inl ⟨a, us, rfl, hl rfl, fun p np => lst_fin np (rd_reps hc) fun v H' s rv => q v H' f3 (r3.same s) (nn.trans (.of s _ _)) rv⟩
  | true =>
    dsimp only at hx
    by_cases c : HT.sIx is.length 0 o2 = 0 ∧ HT.sIx is.length is.length o3 = is.length
    · rw [if_pos c] at hx
      cases hx
    · rw [if_neg c] at hx
      cases hx
      exact .inr ⟨a, us, rfl, ht rfl, by rw [Paired.length hp]; exact c, fun p np => tup_fin np (rd_reps hc) fun v H' s rv => q v H' f3 (r3.same s) (nn.trans (.of s _ _)) rv⟩

/-! ### + -/
/-- list + list, any two tracked ones -/
def rCatL : R2 := fun x y H Q => ∃ l b xs zs, x = .ref l ∧ y = .ref b ∧ Rd H l (.lst xs) ∧ Rd H b (.lst zs) ∧ xs.length + zs.length ≤ sizeLine ∧ ∀ p, H p = none → Q (.ref p) (upd H p (.lst (xs ++ zs)))
theorem op_catL : OpR X (binaryOp .Add) rCatL := by
  intro pins s σ H x y v u Q I rx ry h
  obtain ⟨l, b, xs, zs, rfl, rfl, hH, hB, hz, q⟩ := h
  cases rx
  cases ry
  obtain ⟨z, its, n, r, hh⟩ := (show ObjOk X.prog X.w H s.heap l (.lst xs) from hH.ok I.hok)
  obtain ⟨z2, its2, n2, r2, hh2⟩ := (show ObjOk X.prog X.w H s.heap b (.lst zs) from hB.ok I.hok)
  have hl := r.length
  have hl2 := r2.length
  refine PySem.P.add_list hh hh2 ?_ (by rw [List.size_toArray, List.size_toArray]; omega)
  rw [show its.toArray ++ its2.toArray = (its ++ its2).toArray by simp]
  exact ⟨.ref _, _, I.lnew (t' := s.toks) (r.append r2) (by rw [List.length_append]; omega), rfl, q _ I.fresh⟩
/-- a list's items, where it isn't a written one -/
def lstD : D → Sto → Option (List D)
  | .wr _, _ => none
  | d, S => (seqD d S).bind fun q => if q.1 then none else some q.2
theorem lst_rd (r : R G σ H e S f) {v : V} {d : D} {ds : List D} (h : RE G σ H e f S.length v d) (hs : lstD d S = some ds) : ∃ a vs, v = .ref a ∧ Rd H a (.lst vs) ∧ Paired (RD G.K H f S.length) vs ds := by
  cases d with
  | pu p =>
    cases p with
    | list xs =>
      cases hs
      cases (show Rep H v (.list xs) from h) with
      | lst h1 h2 => obtain ⟨o, h1⟩ := h1; exact ⟨_, _, rfl, .inr ⟨o, h1⟩, reps_rd h2⟩
    | _ => cases hs
  | wr p => cases hs
  | rf n =>
    obtain ⟨e1, l⟩ := (show v = .ref (f n) ∧ n < S.length from h)
    unfold lstD seqD at hs
    dsimp only at hs
    cases hc : S[n]? with
    | none => rw [hc] at hs; cases hs
    | some c =>
      rw [hc] at hs
      cases c with
      | lst ds' =>
        cases hs
        obtain ⟨vs, h1, h2⟩ := r.cel n _ hc
        exact ⟨f n, vs, e1, .inl h1, h2⟩
      | _ => cases hs
  | bo i c =>
    cases c with
    | lst xs =>
      cases hs
      obtain ⟨h1, h2⟩ := (show σ[i]? = some (some v) ∧ e[i]? = some (some (.ow (.lst xs))) from h)
      obtain ⟨a, h3, ⟨vs, h4, h5⟩, _⟩ := r.own i _ h2
      rw [h1] at h3
      cases h3
      exact ⟨a, vs, rfl, .inl h4, reps_rd h5⟩
    | dct ps => cases hs
  | nw c =>
    obtain ⟨a, e1, h4, _⟩ := (show ∃ a, v = .ref a ∧ OCok H a c ∧ _ from h)
    cases c with
    | lst xs =>
      cases hs
      obtain ⟨vs, h4, h5⟩ := h4
      exact ⟨a, vs, e1, .inl h4, reps_rd h5⟩
    | dct ps => cases hs
/-- ints, lists, tuples, texts -/
def gAdd : D → D → Sto → Option (D × Sto)
  | .pu (.int i), .pu (.int j), S => some (.pu (.int (i + j)), S)
  | .pu (.str x), .pu (.str y), S => if x.length + y.length ≤ lim then some (.pu (.str (x ++ y)), S) else none
  | .pu (.tuple xs), .pu (.tuple ys), S => if xs ≠ [] ∧ ys ≠ [] ∧ xs.length + ys.length ≤ lim then some (.pu (.tuple (xs ++ ys)), S) else none
  | a, b, S => (lstD a S).bind fun xs => (lstD b S).bind fun ys => (pusOf xs).bind fun ps => (pusOf ys).bind fun qs => if ps.length + qs.length ≤ lim then some (.pu (.list (ps ++ qs)), S) else none
def rAddA (K : PySem.W.Frag) : R2 := fun x y H Q => ((rI0 fun i j => .int (i + j)) x y H Q ∨ (∃ i j, x = .str i ∧ y = .str j ∧ i.length + j.length ≤ sizeLine ∧ Q (.str (i ++ j)) H)) ∨ (rCatT K x y H Q ∨ rCatL x y H Q)
theorem op_addA : OpR X (binaryOp .Add) (rAddA X.K) := OpR.or (OpR.or op_add op_add_str) (OpR.or op_catT op_catL)
theorem v_add (hK : X.K = G.K) : V2 G (rAddA X.K) gAdd := by
  intro σ H e S f x y dx dy d S' Q r0 rx ry hg q
  have lsts : ((lstD dx S).bind fun xs => (lstD dy S).bind fun ys => (pusOf xs).bind fun ps => (pusOf ys).bind fun qs => if ps.length + qs.length ≤ lim then some (D.pu (.list (ps ++ qs)), S) else none) = some (d, S') → rAddA X.K x y H (GQ Q) := by
    intro h
    obtain ⟨xs, h1, h⟩ := Option.bind_eq_some_iff.mp h
    obtain ⟨ys, h2, h⟩ := Option.bind_eq_some_iff.mp h
    obtain ⟨ps, h3, h⟩ := Option.bind_eq_some_iff.mp h
    obtain ⟨qs, h4, h⟩ := Option.bind_eq_some_iff.mp h
    by_cases c : ps.length + qs.length ≤ lim
    · rw [if_pos c] at h
      cases h
      have e3 := pusOf_eq h3
      have e4 := pusOf_eq h4
      subst e3 e4
      obtain ⟨a, vs, rfl, ha, pa⟩ := lst_rd r0 rx h1
      obtain ⟨b, ws, rfl, hb, pb⟩ := lst_rd r0 ry h2
      have la := Paired.length pa
      have lb := Paired.length pb
      rw [List.length_map] at la lb
      exact .inr (.inr ⟨a, b, vs, ws, rfl, rfl, ha, hb, by rw [← lim_eq]; omega, fun p np => lst_fin np (RepL.append (rd_reps pa) (rd_reps pb)) fun v H' s rv => q v H' f (r0.same s) (.of s _ _) rv⟩)
    · rw [if_neg c] at h
      cases h
  unfold gAdd at hg
  split at hg
  · rename_i i j
    cases hg
    cases (show Rep H x (.int i) from rx)
    cases (show Rep H y (.int j) from ry)
    exact .inl (.inl ⟨i, j, rfl, rfl, .inl (q _ H f r0 (.refl _ _ _) (.int _))⟩)
  · rename_i i j
    by_cases c : i.length + j.length ≤ lim
    · rw [if_pos c] at hg
      cases hg
      cases (show Rep H x (.str i) from rx)
      cases (show Rep H y (.str j) from ry)
      exact .inl (.inr ⟨i, j, rfl, rfl, by rw [← lim_eq]; exact c, .inl (q _ H f r0 (.refl _ _ _) (.str _))⟩)
    · rw [if_neg c] at hg
      cases hg
  · rename_i xs ys
    by_cases c : xs ≠ [] ∧ ys ≠ [] ∧ xs.length + ys.length ≤ lim
    · rw [if_pos c] at hg
      cases hg
      cases (show Rep H x (.tuple xs) from rx) with
      | tup h1 h2 =>
        cases (show Rep H y (.tuple ys) from ry) with
        | tup h3 h4 =>
          have la := h2.length
          have lb := h4.length
          rw [hK]
          refine .inr (.inl ⟨_, _, _, _, rfl, rfl, SqT.of h1, SqT.of h3, fun z => c.1 ?_, by rw [← lim_eq]; omega, fun z => absurd ?_ c.2.1, fun _ p np => tup_fin np (RepL.append h2 h4) fun v H' s rv => q v H' f (r0.same s) (.of s _ _) rv⟩)
          · subst z; cases h2; rfl
          · subst z; cases h4; rfl
    · rw [if_neg c] at hg
      cases hg
  · exact lsts hg

/-! ### isinstance of a built-in class, of some -/
inductive Ty where
  | non | bool | int | str | list | tuple | dict
  deriving DecidableEq
def Ty.nm : Ty → String
  | .non => "NoneType" | .bool => "bool" | .int => "int" | .str => "str" | .list => "list" | .tuple => "tuple" | .dict => "dict"
/-- whether a thing of the type t is one of T -/
def Ty.is (t T : Ty) : Bool := match t, T with
  | .non, .non => true | .bool, .bool => true | .bool, .int => true | .int, .int => true | .str, .str => true | .list, .list => true | .tuple, .tuple => true | .dict, .dict => true
  | _, _ => false
theorem Ty.kit (t T : Ty) : kitB t.nm T.nm = some (t.is T) := by
  cases t <;> cases T <;> decide +kernel
theorem Ty.kitAny {K : PySem.W.Frag} (t : Ty) : ∀ Ts : List Ty, PySem.W.kitAny K (.type t.nm) (Ts.map fun T => .type T.nm) = some (Ts.any t.is)
  | [] => kitAny_nil
  | T :: Ts => kitAny_cons (kit_ty (Ty.kit t T)) (fun h => by rw [List.any_cons, h, Bool.false_or]; exact Ty.kitAny t Ts) (fun h => by rw [List.any_cons, h, Bool.true_or])
def tyD : D → Sto → Option Ty
  | .pu .none, _ => some .non
  | .pu (.bool _), _ => some .bool
  | .pu (.int _), _ => some .int
  | .pu (.str _), _ => some .str
  | .pu (.list _), _ => some .list
  | .pu (.tuple _), _ => some .tuple
  | .pu (.dict _), _ => some .dict
  | .wr (.list _), _ => some .list
  | .wr (.tuple _), _ => some .tuple
  | .wr _, _ => none
  | .rf n, S => match S[n]? with
    | some (.lst _) => some .list
    | some (.dct _) => some .dict
    | _ => none
  | .bo _ (.lst _), _ => some .list
  | .bo _ (.dct _), _ => some .dict
  | .nw (.lst _), _ => some .list
  | .nw (.dct _), _ => some .dict
def xIsi (a : Ex) (Ts : List Ty) : Ex := fun e S => (a e S).bind fun r => (tyD r.1 r.2).bind fun t => some (.pu (.bool (Ts.any t.is)), r.2)
/-! ### calls of defs -/
/-- a def of data alone -/
def SpP (n : Nat) (m : List P → Option P) : Sp := fun vs H Q _ => vs.length = n ∧ ∃ ps p, RepL H vs ps ∧ m ps = some p ∧ ∀ v H', Same H H' → Rep H' v p → Q v H'
def gCallP (m : List P → Option P) (ds : List D) (S : Sto) : Option (D × Sto) := (pusOf ds).bind fun ps => (m ps).bind fun p => some (.pu p, S)
theorem v_callP {n : Nat} {m : List P → Option P} {E : XK} (hl : ∀ ps p, m ps = some p → ps.length = n) : VA G (fun vs H Q => SpP n m (vs ++ []) H Q E) (gCallP m) := by
  intro σ H e S f vs ds d S' Q r0 rs hg q
  obtain ⟨ps, h1, hg⟩ := Option.bind_eq_some_iff.mp hg
  obtain ⟨p, h2, hg⟩ := Option.bind_eq_some_iff.mp hg
  cases hg
  have e1 := pusOf_eq h1
  subst e1
  have rp := re_reps rs
  rw [List.append_nil]
  exact ⟨by rw [rp.length]; exact hl _ _ h2, ps, p, rp, h2, fun v H' s rv => .inl (q v H' f (r0.same s) (.of s _ _) rv)⟩
/-- a def that reads and changes cells -/
def SpF (K : PySem.W.Frag) (cl : Str → Option Addr) (n : Nat) (m : List D → Sto → Option (D × Sto)) : Sp := fun vs H Q _ => vs.length = n ∧ ∃ f S ds d S', Paired (RD K H f S.length) vs ds ∧ Cells ⟨K, cl, H, S.length, f⟩ H f S ∧ m ds S = some (d, S') ∧
  ∀ v H' f', Cells ⟨K, cl, H, S.length, f⟩ H' f' S' → Nx H H' f f' S.length S'.length → RD K H' f' S'.length v d → Q v H'
def gCallF (m : List D → Sto → Option (D × Sto)) (ds : List D) (S : Sto) : Option (D × Sto) := if noBo ds then m ds S else none
theorem Cells.re {G' : Gx} (hk : G'.K = G.K) (hc : G'.cl = G.cl) (c : Cells G H f S) : Cells G' H f S := ⟨fun n k h => by
  have q := c.cel n k h
  cases k with
  | lst ds => obtain ⟨vs, h1, h2⟩ := q; exact ⟨vs, h1, by rw [hk]; exact h2⟩
  | dct ps => obtain ⟨qs, h1, h2, h3⟩ := q; exact ⟨qs, h1, by rw [hk]; exact h2, h3⟩
  | obj cn fs => obtain ⟨C, dx, us, h1, h2, h3, h4⟩ := q; exact ⟨C, dx, us, by rw [hc]; exact h1, h2, by rw [hk]; exact h3, h4⟩
  | fz p => exact q
  | tup ds => obtain ⟨vs, h1, h2⟩ := q; exact ⟨vs, h1, by rw [hk]; exact h2⟩
  | dead => exact q, c.inj⟩
theorem v_callF {n : Nat} {m : List D → Sto → Option (D × Sto)} {E : XK} (hl : ∀ ds S r, m ds S = some r → ds.length = n) : VA G (fun vs H Q => SpF G.K G.cl n m (vs ++ []) H Q E) (gCallF m) := by
  intro σ H e S f vs ds d S' Q r0 rs hg q
  unfold gCallF at hg
  by_cases c : noBo ds = true
  · rw [if_pos c] at hg
    rw [List.append_nil]
    refine ⟨by rw [Paired.length rs]; exact hl _ _ _ hg, f, S, ds, d, S', re_rds rs c, Cells.re (G := G) (G' := ⟨G.K, G.cl, H, S.length, f⟩) rfl rfl r0.cells, hg, fun v H' f' cc nn rd => .inl (q v H' f' (r0.nx nn (Cells.re (G := ⟨G.K, G.cl, H, S.length, f⟩) (G' := G) rfl rfl cc)) nn rd.re)⟩
  · rw [if_neg c] at hg
    cases hg
section
variable {CX : CXT} {k : Nat} {g : Addr} {fd : FuncData} {ps : List Str} {n : Nat} {E : XK} {x : Str} {p pos : Pos} {a : Expr} {es : List Expr} {xa : Ax}
theorem d_callP {m : List P → Option P} (F : FnOk X.prog X.w X.K X.mg X.base CX0 k g fd ps (SpP n m)) (hl : ∀ ps p, m ps = some p → ps.length = n) (hr : Room k X.A) (hg : Gl X x) (hm : X.mg x = some (.ref g)) (hk : PySem.W.keepIn X.K (.ref g) = true) (hb : Binds X.K fd ps [])
    (ha : DA X G (a :: es) xa) (hdb : (x == ("__debug__" : Str)) = false := by decide) (he : starEach (a :: es) X.env = (false, eval a X.env) :: starEach es X.env := by rfl) (hpl : (backTo pos (starEach es X.env)).any (·.1) = false := by rfl) : DE X G (.Call (.Name x p) (a :: es) [] pos) (xA (gCallP m) xa) :=
  pe_mono (pe_gh (pe_call F hr hg hm hk hb .nil pass0 ha hdb he hpl)) (tE.bA (v_callP hl))
theorem d_callF {m : List D → Sto → Option (D × Sto)} (F : FnOk X.prog X.w X.K X.mg X.base CX0 k g fd ps (SpF G.K G.cl n m)) (hl : ∀ ds S r, m ds S = some r → ds.length = n) (hr : Room k X.A) (hg : Gl X x) (hm : X.mg x = some (.ref g)) (hk : PySem.W.keepIn X.K (.ref g) = true) (hb : Binds X.K fd ps [])
    (ha : DA X G (a :: es) xa) (hdb : (x == ("__debug__" : Str)) = false := by decide) (he : starEach (a :: es) X.env = (false, eval a X.env) :: starEach es X.env := by rfl) (hpl : (backTo pos (starEach es X.env)).any (·.1) = false := by rfl) : DE X G (.Call (.Name x p) (a :: es) [] pos) (xA (gCallF m) xa) :=
  pe_mono (pe_gh (pe_call F hr hg hm hk hb .nil pass0 ha hdb he hpl)) (tE.bA (v_callF hl))
end
end
end DL
/-! DL5: statements. -/
namespace DL
open PySem PySem.Spec PyProof.Rows L2

inductive Out where
  | nx (e : Envi) (S : Sto) | rt (d : D) (e : Envi) (S : Sto) | bk (e : Envi) (S : Sto) | ct (e : Envi) (S : Sto)
abbrev Sx := Envi → Sto → Option Out
/-- where a statement ends -/
def EndOf (G : Gx) (H : Hp) (T : Ends) : Out → Prop
  | .nx e S => ∀ σ' H' f, R G σ' H' e S f → Ext0 H H' → T.nx σ' H'
  | .rt d e S => ∀ v σ' H' f, R G σ' H' e S f → Ext0 H H' → RE G σ' H' e f S.length v d → T.rt v H'
  | .bk e S => ∀ σ' H' f, R G σ' H' e S f → Ext0 H H' → T.bk σ' H'
  | .ct e S => ∀ σ' H' f, R G σ' H' e S f → Ext0 H H' → T.ct σ' H'
def tSx (G : Gx) (x : Sx) : TS := fun T σ H => ∃ e S f, R G σ H e S f ∧ ∃ o, x e S = some o ∧ EndOf G H T o
abbrev DS (X : Cx) (G : Gx) (a : Stmt) (x : Sx) : Prop := PS X a (tSx G x)
abbrev DSs (X : Cx) (G : Gx) (a : List Stmt) (x : Sx) : Prop := PSs X a (tSx G x)
theorem EndOf.pre {G : Gx} {H H1 : Hp} {T : Ends} (x : Ext0 H H1) : ∀ {o : Out}, EndOf G H T o → EndOf G H1 T o
  | .nx _ _, h => fun σ' H' f r y => h σ' H' f r (x.trans y)
  | .rt _ _ _, h => fun v σ' H' f r y p => h v σ' H' f r (x.trans y) p
  | .bk _ _, h => fun σ' H' f r y => h σ' H' f r (x.trans y)
  | .ct _ _, h => fun σ' H' f r y => h σ' H' f r (x.trans y)

section
variable {G : Gx} {σ : L2.St} {H H' : Hp} {e : Envi} {S S' : Sto} {f f' : Nat → Addr}
/-! ### how a state changes -/
theorem R.lt (r : R G σ H e S f) {i : Nat} {s : Option Sl} (h : e[i]? = some s) : i < σ.length := by
  rw [← r.ln]
  exact (List.getElem?_eq_some_iff.mp h).1
/-- a name gets data, or a cell -/
theorem R.set (r : R G σ H e S f) {i : Nat} {v : V} {d : D} (h : RD G.K H f S.length v d) : R G (σ.set i (some v)) H (e.set i (some (.val d))) S f where
  ln := by rw [List.length_set, List.length_set]; exact r.ln
  val := fun j d' hj => by
    by_cases hij : i = j
    · subst hij
      have hl : i < e.length := by have := (List.getElem?_eq_some_iff.mp hj).1; rw [List.length_set] at this; exact this
      rw [List.getElem?_set_self hl] at hj
      cases hj
      exact ⟨v, List.getElem?_set_self (by rw [← r.ln]; exact hl), h⟩
    · rw [List.getElem?_set_ne hij] at hj ⊢
      exact r.val j d' hj
  own := fun j c hj => by
    by_cases hij : i = j
    · subst hij
      have hl : i < e.length := by have := (List.getElem?_eq_some_iff.mp hj).1; rw [List.length_set] at this; exact this
      rw [List.getElem?_set_self hl] at hj
      cases hj
    · rw [List.getElem?_set_ne hij] at hj ⊢
      exact r.own j c hj
  sep := fun j k c c' a hjk hj hk ha => by
    have n1 : i ≠ j := fun z => by
      subst z
      have hl : i < e.length := by have := (List.getElem?_eq_some_iff.mp hj).1; rw [List.length_set] at this; exact this
      rw [List.getElem?_set_self hl] at hj
      cases hj
    have n2 : i ≠ k := fun z => by
      subst z
      have hl : i < e.length := by have := (List.getElem?_eq_some_iff.mp hk).1; rw [List.length_set] at this; exact this
      rw [List.getElem?_set_self hl] at hk
      cases hk
    rw [List.getElem?_set_ne n1] at hj ha
    rw [List.getElem?_set_ne n2] at hk ⊢
    exact r.sep j k c c' a hjk hj hk ha
  cel := r.cel
  inj := r.inj
  frm := r.frm
  new := r.new
  old := r.old
  le := r.le
  ext := r.ext
/-- a name is forgotten -/
theorem R.drop (r : R G σ H e S f) (i : Nat) : R G σ H (e.set i none) S f where
  ln := by rw [List.length_set]; exact r.ln
  val := fun j d' hj => by
    by_cases hij : i = j
    · subst hij
      have hl : i < e.length := by have := (List.getElem?_eq_some_iff.mp hj).1; rw [List.length_set] at this; exact this
      rw [List.getElem?_set_self hl] at hj
      cases hj
    · rw [List.getElem?_set_ne hij] at hj
      exact r.val j d' hj
  own := fun j c hj => by
    by_cases hij : i = j
    · subst hij
      have hl : i < e.length := by have := (List.getElem?_eq_some_iff.mp hj).1; rw [List.length_set] at this; exact this
      rw [List.getElem?_set_self hl] at hj
      cases hj
    · rw [List.getElem?_set_ne hij] at hj
      exact r.own j c hj
  sep := fun j k c c' a hjk hj hk ha => by
    have n1 : i ≠ j := fun z => by
      subst z
      have hl : i < e.length := by have := (List.getElem?_eq_some_iff.mp hj).1; rw [List.length_set] at this; exact this
      rw [List.getElem?_set_self hl] at hj
      cases hj
    have n2 : i ≠ k := fun z => by
      subst z
      have hl : i < e.length := by have := (List.getElem?_eq_some_iff.mp hk).1; rw [List.length_set] at this; exact this
      rw [List.getElem?_set_self hl] at hk
      cases hk
    rw [List.getElem?_set_ne n1] at hj
    rw [List.getElem?_set_ne n2] at hk
    exact r.sep j k c c' a hjk hj hk ha
  cel := r.cel
  inj := r.inj
  frm := r.frm
  new := r.new
  old := r.old
  le := r.le
  ext := r.ext
theorem RD.ext {K : PySem.W.Frag} {L : Nat} (x : Ext0 H H') {v : V} : ∀ {d : D}, RD K H f L v d → RD K H' f L v d
  | .pu _, h => Rep.ext x h
  | .wr _, h => h
  | .rf _, h => h
  | .bo _ _, h => h
  | .nw _, h => h
theorem MCok.ext {L : Nat} (x : Ext0 H H') {a : Addr} (ha : ∀ o, H a = some o → H' a = some o) : ∀ {c : MC}, MCok G H f L a c → MCok G H' f L a c
  | .lst _, ⟨vs, h, r⟩ => ⟨vs, ha _ h, Paired.mapP r fun _ _ => RD.ext x⟩
  | .dct _, ⟨qs, h, r, e⟩ => ⟨qs, by
      rcases h with ⟨kvs, h, z⟩ | ⟨kvs, h, z⟩
      · exact .inl ⟨kvs, ha _ h, z⟩
      · exact .inr ⟨kvs, ha _ h, z⟩, Paired.mapP r fun _ _ => RD.ext x, e⟩
  | .obj _ _, ⟨C, dx, us, c, h, r, e⟩ => ⟨C, dx, us, c, ha _ h, Paired.mapP r fun _ _ => RD.ext x, e⟩
  | .fz _, ⟨⟨od, u, h⟩, r⟩ => ⟨⟨od, u, x.frzs _ _ _ h⟩, Rep.ext x r⟩
  | .tup _, ⟨vs, h, r⟩ => ⟨vs, ha _ h, Paired.mapP r fun _ _ => RD.ext x⟩
  | .dead, ⟨o, h⟩ => ⟨o, ha _ h⟩
theorem raw_ext {a : Addr} {o o' : HO} (h : H a = some o) (mu : Mut (some o)) : Ext0 H (upd H a o') :=
  .upd (fun xs z => by rw [h] at z; cases z; exact mu) (fun o u z => by rw [h] at z; cases z; exact mu)
/-- an own thing is changed: o' is what stands now, c' what is said of it -/
theorem R.own_set (r : R G σ H e S f) {i : Nat} {c c' : OC} {a : Addr} {o' : HO} (hi : e[i]? = some (some (.ow c))) (ha : σ[i]? = some (some (.ref a))) (hc : OCok (upd H a o') a c') : R G σ (upd H a o') (e.set i (some (.ow c'))) S f := by
  obtain ⟨a', h1, h2, h3, h4⟩ := r.own i c hi
  rw [ha] at h1
  cases h1
  obtain ⟨u, hu, mu⟩ := h2.raw
  have x := raw_ext (o' := o') hu mu
  have hl : i < e.length := (List.getElem?_eq_some_iff.mp hi).1
  have keep : ∀ b, b ≠ a → ∀ o, H b = some o → upd H a o' b = some o := fun b hb o h => by rw [upd_ne hb]; exact h
  refine ⟨by rw [List.length_set]; exact r.ln, fun j d hj => ?_, fun j k hj => ?_, fun j k d d' b hjk hj hk hb => ?_, fun n k hk => ?_, r.inj, fun b o h hn => ?_, r.new, r.old, r.le, r.ext.trans x⟩
  · by_cases hij : i = j
    · subst hij
      rw [List.getElem?_set_self hl] at hj
      cases hj
    · rw [List.getElem?_set_ne hij] at hj
      obtain ⟨v, q1, q2⟩ := r.val j d hj
      refine ⟨v, q1, ?_⟩
      cases d with
      | pu p => exact Rep.ext x q2
      | wr p => exact q2
      | rf n => exact q2
      | bo i c => exact q2
      | nw c => exact q2
  · by_cases hij : i = j
    · subst hij
      rw [List.getElem?_set_self hl] at hj
      cases hj
      exact ⟨a, ha, hc, h3, h4⟩
    · rw [List.getElem?_set_ne hij] at hj
      obtain ⟨b, q1, q2, q3, q4⟩ := r.own j k hj
      exact ⟨b, q1, OCok.nx x (keep b fun z => r.sep i j c k a hij hi hj ha (by rw [q1, z])) q2, q3, q4⟩
  · have get : ∀ {j : Nat} {d : OC}, (e.set i (some (.ow c')))[j]? = some (some (.ow d)) → ∃ d0, e[j]? = some (some (.ow d0)) := fun {j d} hj => by
      by_cases hij : i = j
      · subst hij
        exact ⟨c, hi⟩
      · rw [List.getElem?_set_ne hij] at hj
        exact ⟨d, hj⟩
    obtain ⟨d0, q1⟩ := get hj
    obtain ⟨d1, q2⟩ := get hk
    exact r.sep j k d0 d1 b hjk q1 q2 hb
  · exact MCok.ext x (keep _ (h4 n (List.getElem?_eq_some_iff.mp hk).1)) (r.cel n k hk)
  · have hb : b ≠ a := fun z => by rw [z, h3] at h; cases h
    exact keep b hb o (r.frm b o h hn)
/-- a cell is changed -/
theorem R.cel_set (r : R G σ H e S f) {n : Nat} {c c0 : MC} {o' : HO} (h0 : S[n]? = some c0) (lv : c0.live = true) (hc : MCok G (upd H (f n) o') f S.length (f n) c) : R G σ (upd H (f n) o') e (S.set n c) f ∧ Ext0 H (upd H (f n) o') := by
  have hn := (List.getElem?_eq_some_iff.mp h0).1
  obtain ⟨u, hu, mu⟩ := r.cell_mut h0 lv
  have x := raw_ext (o' := o') hu mu
  have keep : ∀ b, b ≠ f n → ∀ o, H b = some o → upd H (f n) o' b = some o := fun b hb o h => by rw [upd_ne hb]; exact h
  have len : (S.set n c).length = S.length := List.length_set
  refine ⟨⟨r.ln, fun j d hj => ?_, fun j k hj => ?_, r.sep, fun m k hk => ?_, fun m k h1 h2 => r.inj m k (by rw [← len]; exact h1) (by rw [← len]; exact h2), fun b o h hb => ?_, fun m h1 h2 => r.new m h1 (by rw [← len]; exact h2), r.old, by rw [len]; exact r.le, r.ext.trans x⟩, x⟩
  · rw [len]
    obtain ⟨v, q1, q2⟩ := r.val j d hj
    exact ⟨v, q1, RD.ext x q2⟩
  · rw [len]
    obtain ⟨a, q1, q2, q3, q4⟩ := r.own j k hj
    exact ⟨a, q1, OCok.nx x (keep a fun z => q4 n hn z.symm) q2, q3, q4⟩
  · rw [len]
    by_cases hm : n = m
    · subst hm
      rw [List.getElem?_set_self hn] at hk
      cases hk
      exact hc
    · rw [List.getElem?_set_ne hm] at hk
      exact MCok.ext x (keep _ fun z => hm (r.inj n m hn (List.getElem?_eq_some_iff.mp hk).1 z.symm)) (r.cel m k hk)
  · have q := r.frm b o h hb
    refine keep b (fun z => ?_) o q
    by_cases h0 : n < G.n0
    · exact hb n h0 z.symm
    · have w := r.new n (Nat.le_of_not_lt h0) hn
      rw [← z, h] at w
      cases w
/-- a thing that stands by itself becomes a name's own -/
theorem R.adopt {σ : L2.St} {H : Hp} {e : Envi} {S : Sto} {f : Nat → Addr} (r : R G σ H e S f) {i : Nat} {c : OC} {a : Addr} (hi : i < σ.length) (hc : OCok H a c) (h0 : G.H0 a = none) (hn : ∀ n, n < S.length → f n ≠ a)
    (ho : ∀ (j : Nat) (c : OC) (b : Addr), e[j]? = some (some (.ow c)) → σ[j]? = some (some (.ref b)) → b ≠ a) : R G (σ.set i (some (.ref a))) H (e.set i (some (.ow c))) S f := by
  have r' := r.drop i
  have hl : i < e.length := by rw [r.ln]; exact hi
  refine ⟨by rw [List.length_set, List.length_set]; exact r.ln, fun j d hj => ?_, fun j k hj => ?_, fun j k d d' b hjk hj hk hb => ?_, r.cel, r.inj, r.frm, r.new, r.old, r.le, r.ext⟩
  · by_cases hij : i = j
    · subst hij
      rw [List.getElem?_set_self hl] at hj
      cases hj
    · rw [List.getElem?_set_ne hij] at hj ⊢
      exact r.val j d hj
  · by_cases hij : i = j
    · subst hij
      rw [List.getElem?_set_self hl] at hj
      cases hj
      exact ⟨a, List.getElem?_set_self hi, hc, h0, hn⟩
    · rw [List.getElem?_set_ne hij] at hj ⊢
      exact r.own j k hj
  · by_cases hij : i = j
    · subst hij
      rw [List.getElem?_set_self hi] at hb
      cases hb
      rw [List.getElem?_set_ne hjk] at hk ⊢
      exact fun z => ho k d' a hk z rfl
    · rw [List.getElem?_set_ne hij] at hj hb
      by_cases hik : i = k
      · subst hik
        rw [List.getElem?_set_self hi]
        intro z
        cases z
        exact ho j d a hj hb rfl
      · rw [List.getElem?_set_ne hik] at hk ⊢
        exact r.sep j k d d' b hjk hj hk hb
/-- an own thing is frozen: the name holds data -/
def frzP : OC → P
  | .lst xs => .list xs
  | .dct ps => .dict ps
theorem R.freeze (r : R G σ H e S f) {i : Nat} {c : OC} (hi : e[i]? = some (some (.ow c))) {a : Addr} (ha : σ[i]? = some (some (.ref a))) {u : HO} (hu : H a = some u) {od : Obj} : R G σ (upd H a (.frz od u)) (e.set i (some (.val (.pu (frzP c))))) S f ∧ Ext0 H (upd H a (.frz od u)) := by
  obtain ⟨a', h1, h2, h3, h4⟩ := r.own i c hi
  rw [ha] at h1
  cases h1
  obtain ⟨u', hu', mu⟩ := h2.raw
  rw [hu] at hu'
  cases hu'
  have x := raw_ext (o' := .frz od u) hu mu
  have hl : i < e.length := (List.getElem?_eq_some_iff.mp hi).1
  have keep : ∀ b, b ≠ a → ∀ o, H b = some o → upd H a (.frz od u) b = some o := fun b hb o h => by rw [upd_ne hb]; exact h
  refine ⟨⟨by rw [List.length_set]; exact r.ln, fun j d hj => ?_, fun j k hj => ?_, fun j k d d' b hjk hj hk hb => ?_, fun n k hk => ?_, r.inj, fun b o h hn => ?_, r.new, r.old, r.le, r.ext.trans x⟩, x⟩
  · by_cases hij : i = j
    · subst hij
      rw [List.getElem?_set_self hl] at hj
      cases hj
      refine ⟨_, ha, ?_⟩
      cases c with
      | lst xs =>
        obtain ⟨vs, q1, q2⟩ := h2
        rw [hu] at q1
        cases q1
        exact .lst ⟨od, upd_same⟩ (RepL.ext x q2)
      | dct ps =>
        obtain ⟨qs, q1, q2, q3⟩ := h2
        refine .dct (qs := qs) ?_ rfl rfl (RepL.ext x q2) q3
        rcases q1 with ⟨kvs, q1, z⟩ | ⟨kvs, q1, z⟩
        · rw [hu] at q1
          cases q1
          exact .inl ⟨od, kvs, upd_same, z⟩
        · rw [hu] at q1
          cases q1
          exact .inr ⟨od, kvs, upd_same, z⟩
    · rw [List.getElem?_set_ne hij] at hj
      obtain ⟨v, q1, q2⟩ := r.val j d hj
      exact ⟨v, q1, RD.ext x q2⟩
  · by_cases hij : i = j
    · subst hij
      rw [List.getElem?_set_self hl] at hj
      cases hj
    · rw [List.getElem?_set_ne hij] at hj
      obtain ⟨b, q1, q2, q3, q4⟩ := r.own j k hj
      exact ⟨b, q1, OCok.nx x (keep b fun z => r.sep i j c k a hij hi hj ha (by rw [q1, z])) q2, q3, q4⟩
  · by_cases hij : i = j
    · subst hij
      rw [List.getElem?_set_self hl] at hj
      cases hj
    · by_cases hik : i = k
      · subst hik
        rw [List.getElem?_set_self hl] at hk
        cases hk
      · rw [List.getElem?_set_ne hij] at hj
        rw [List.getElem?_set_ne hik] at hk
        exact r.sep j k d d' b hjk hj hk hb
  · exact MCok.ext x (keep _ (h4 n (List.getElem?_eq_some_iff.mp hk).1)) (r.cel n k hk)
  · have hb : b ≠ a := fun z => by rw [z, h3] at h; cases h
    exact keep b hb o (r.frm b o h hn)
end
end DL
/-! DL6: statements, loops. -/
namespace DL
open PySem PySem.Spec PyProof.Rows L2
section
variable {X : Cx} {G : Gx}

/-! ### blocks -/
def sNil : Sx := fun e S => some (.nx e S)
def sSeq (a b : Sx) : Sx := fun e S => (a e S).bind fun o => match o with
  | .nx e' S' => b e' S'
  | o => some o
theorem ds_nil : DSs X G [] sNil := pss_mono pss_nil fun T σ H h => by
  obtain ⟨e, S, f, r, o, hx, q⟩ := h
  cases hx
  exact q σ H f r (.refl _)
theorem ds_cons {st : Stmt} {rest : List Stmt} {a b : Sx} (h1 : DS X G st a) (h2 : DSs X G rest b) : DSs X G (st :: rest) (sSeq a b) := pss_mono (pss_cons h1 h2) fun T σ H h => by
  obtain ⟨e, S, f, r, o, hx, q⟩ := h
  obtain ⟨o1, h1, hx⟩ := Option.bind_eq_some_iff.mp hx
  refine ⟨e, S, f, r, o1, h1, ?_⟩
  cases o1 with
  | nx e' S' => exact fun σ' H' f' r' x => ⟨e', S', f', r', o, hx, q.pre x⟩
  | rt d e' S' => cases hx; exact q
  | bk e' S' => cases hx; exact q
  | ct e' S' => cases hx; exact q
/-- code that is never come to -/
def sNever : Sx := fun _ _ => none
def sBreak : Sx := fun e S => some (.bk e S)
def sCont : Sx := fun e S => some (.ct e S)
/-! ### an expression, return, if -/
def sDrop (x : Ex) : Sx := fun e S => (x e S).bind fun r => some (.nx e r.2)
def sRet (x : Ex) : Sx := fun e S => (x e S).bind fun r => some (.rt r.1 e r.2)
theorem ds_ret {a : Expr} {x : Ex} {pos : Pos} (h : DE X G a x) : DS X G (.Return (some a) pos) (sRet x) := ps_mono (ps_ret h) fun T σ H hw => by
  obtain ⟨e, S, f, r, o, hx, q⟩ := hw
  obtain ⟨⟨d, S1⟩, h1, hx⟩ := Option.bind_eq_some_iff.mp hx
  cases hx
  exact ⟨e, S, f, r, d, S1, h1, fun v H1 f1 r1 n1 p1 => q v σ H1 f1 r1 n1.ext p1⟩
def sRetN : Sx := fun e S => some (.rt (.pu .none) e S)
def sIf (t : Tx) (a b : Sx) : Sx := fun e S => (t e S).bind fun r => if r.1 then a e r.2 else b e r.2
theorem ds_if {c : Expr} {p q : List Stmt} {t : Tx} {a b : Sx} {pos : Pos} (hc : DT X G c t) (ha : DSs X G p a) (hb : DSs X G q b) : DS X G (.If c p q pos) (sIf t a b) := ps_mono (ps_if hc ha hb) fun T σ H hw => by
  obtain ⟨e, S, f, r, o, hx, q⟩ := hw
  obtain ⟨⟨c, S1⟩, h1, hx⟩ := Option.bind_eq_some_iff.mp hx
  refine ⟨e, S, f, r, c, S1, h1, fun H1 f1 r1 n1 => ?_⟩
  cases c with
  | true =>
    rw [if_pos rfl]
    exact ⟨e, S1, f1, r1, o, hx, q.pre n1.ext⟩
  | false =>
    rw [if_neg Bool.false_ne_true]
    exact ⟨e, S1, f1, r1, o, hx, q.pre n1.ext⟩

/-! ### freezing, forgetting -/
/-! ### targets -/
abbrev Gt := D → Envi → Sto → Option (Envi × Sto)
/-- only slots of u have changed -/
def Kept (u : Nat → Bool) (σ σ' : L2.St) : Prop := σ'.length = σ.length ∧ ∀ j, u j = false → σ'[j]? = σ[j]?
theorem Kept.refl (u : Nat → Bool) (σ : L2.St) : Kept u σ σ := ⟨rfl, fun _ _ => rfl⟩
theorem Kept.trans {u : Nat → Bool} {σ σ1 σ2 : L2.St} (a : Kept u σ σ1) (b : Kept u σ1 σ2) : Kept u σ σ2 := ⟨b.1.trans a.1, fun j h => (b.2 j h).trans (a.2 j h)⟩
theorem Kept.set {u : Nat → Bool} {σ : L2.St} {i : Nat} {v : Option V} (h : u i = true) : Kept u σ (σ.set i v) := ⟨List.length_set, fun j hj => List.getElem?_set_ne (fun z => by rw [z, hj] at h; cases h)⟩
def tGt (G : Gx) (u : Nat → Bool) (g : Gt) : TG := fun v σ H Q => ∃ e S f d, R G σ H e S f ∧ RE G σ H e f S.length v d ∧ ∃ e' S', g d e S = some (e', S') ∧ ∀ σ' H' f', R G σ' H' e' S' f' → Ext0 H H' → Kept u σ σ' → Q σ' H'
abbrev DG (X : Cx) (G : Gx) (u : Nat → Bool) (t : Expr) (g : Gt) : Prop := PG X t (tGt G u g)
theorem pg_mono {t : Expr} {g g' : TG} (h : PG X t g) (m : ∀ v σ H Q, g' v σ H Q → g v σ H Q) : PG X t g' := ⟨fun pins s σ H v u Q I r hw => h.run pins s σ H v u Q I r (m v σ H Q hw)⟩
/-- a new thing becomes a name's own -/
theorem R.take {σ : L2.St} {H : Hp} {e : Envi} {S : Sto} {f : Nat → Addr} (r : R G σ H e S f) {i : Nat} {c : OC} {v : V} (hi : i < e.length) (h : RE G σ H e f S.length v (.nw c)) : R G (σ.set i (some v)) H (e.set i (some (.ow c))) S f := by
  obtain ⟨a, e1, h1, h2, h3, h4⟩ := (show ∃ a, v = .ref a ∧ OCok H a c ∧ G.H0 a = none ∧ (∀ n, n < S.length → f n ≠ a) ∧ ∀ (j : Nat) (c' : OC), e[j]? = some (some (.ow c')) → σ[j]? ≠ some (some (.ref a)) from h)
  subst e1
  exact r.adopt (by rw [← r.ln]; exact hi) h1 h2 h3 fun j c' b hj hb z => h4 j c' hj (by rw [hb, z])
def gNm (i : Nat) : Gt := fun d e S => match d with
  | .bo _ _ => none
  | .nw c => if i < e.length then some (e.set i (some (.ow c)), S) else none
  | d => some (e.set i (some (.val d)), S)
theorem re_rd {σ : L2.St} {H : Hp} {e : Envi} {f : Nat → Addr} {L : Nat} {v : V} : ∀ {d : D}, RE G σ H e f L v d → noBo [d] = true → RD G.K H f L v d
  | .pu _, h, _ => h
  | .wr _, h, _ => h
  | .rf _, h, _ => h
  | .bo _ _, _, n => by cases n
  | .nw _, _, n => by cases n
theorem dg_name {u : Nat → Bool} {i : Nat} {x : Str} {pos : Pos} (hu : u i = true) (hN : X.N.Nodup) (hi : X.N[i]? = some x) (hx : Loc X.env.scope x) (hf : X.fn x = true ∨ X.env.scope.names.lookup x = some .local := by first | exact .inl rfl | exact .inr rfl | assumption) : DG X G u (.Name x pos) (gNm i) :=
  pg_mono (pg_name hN hi hx hf) fun v σ H Q hw => by
    obtain ⟨e, S, f, d, r, p, e', S', hg, q⟩ := hw
    cases d with
    | bo j c => cases hg
    | pu p' => cases hg; exact q _ H f (r.set p) (.refl _) (.set hu)
    | wr p' => cases hg; exact q _ H f (r.set p) (.refl _) (.set hu)
    | rf n => cases hg; exact q _ H f (r.set p) (.refl _) (.set hu)
    | nw c =>
      have hg : (if i < e.length then some (e.set i (some (.ow c)), S) else none) = some (e', S') := hg
      by_cases hl : i < e.length
      · rw [if_pos hl] at hg
        cases hg
        exact q _ H f (r.take hl p) (.refl _) (.set hu)
      · rw [if_neg hl] at hg
        cases hg
abbrev Gts := List D → Envi → Sto → Option (Envi × Sto)
def tGts (G : Gx) (u : Nat → Bool) (g : Gts) : TGs := fun vs σ H Q => ∃ e S f ds, R G σ H e S f ∧ Paired (RD G.K H f S.length) vs ds ∧ ∃ e' S', g ds e S = some (e', S') ∧ ∀ σ' H' f', R G σ' H' e' S' f' → Ext0 H H' → Kept u σ σ' → Q σ' H'
abbrev DGs (X : Cx) (G : Gx) (u : Nat → Bool) (t : List Expr) (g : Gts) : Prop := PGs X t (tGts G u g)
def gtNil : Gts := fun ds e S => match ds with
  | [] => some (e, S)
  | _ => none
/-- the rest are data when the first is stored -/
def gtCons (g : Gt) (r : Gts) : Gts := fun ds e S => match ds with
  | d :: ds => (pusW ds).bind fun _ => (g d e S).bind fun q => r ds q.1 q.2
  | [] => none
where pusW : List D → Option Unit
  | [] => some ()
  | .pu _ :: r => pusW r
  | .wr _ :: r => pusW r
  | _ :: _ => none
theorem dgs_nil {u : Nat → Bool} : DGs X G u [] gtNil := ⟨fun pins s σ H vs us Q I r hw => pgs_nil.run pins s σ H vs us Q I r (by
  obtain ⟨e, S, f, ds, r0, p, e', S', hg, q⟩ := hw
  cases ds with
  | nil =>
    cases hg
    cases p
    exact ⟨rfl, q σ H f r0 (.refl _) (.refl _ _)⟩
  | cons d ds => cases hg)⟩
theorem pusW_ext {H H' : Hp} {f f' : Nat → Addr} {L L' : Nat} (x : Ext0 H H') : ∀ {vs : List V} {ds : List D}, gtCons.pusW ds = some () → Paired (RD G.K H f L) vs ds → Paired (RD G.K H' f' L') vs ds
  | _, _, _, .nil => .nil
  | _, .pu _ :: _, h, .cons p t => .cons (Rep.ext x p) (pusW_ext x h t)
  | _, .wr _ :: _, h, .cons p t => .cons p (pusW_ext x h t)
theorem dgs_cons {u : Nat → Bool} {t : Expr} {ts : List Expr} {g : Gt} {r : Gts} (h1 : DG X G u t g) (h2 : DGs X G u ts r) (hs : (assignEach (t :: ts) X.env).map (·.2) = assign t X.env :: (assignEach ts X.env).map (·.2) := by rfl) : DGs X G u (t :: ts) (gtCons g r) :=
  ⟨fun pins s σ H vs us Q I rr hw => (pgs_cons h1 h2 hs).run pins s σ H vs us Q I rr (by
    obtain ⟨e, S, f, ds, r0, p, e', S', hg, q⟩ := hw
    cases ds with
    | nil => cases hg
    | cons d ds =>
      cases p with
      | cons pd pt =>
        obtain ⟨u1, h3, hg⟩ := Option.bind_eq_some_iff.mp hg
        obtain ⟨⟨e1, S1⟩, h4, hg⟩ := Option.bind_eq_some_iff.mp hg
        refine ⟨_, _, rfl, e, S, f, d, r0, pd.re, e1, S1, h4, fun σ1 H1 f1 r1 x1 k1 => ?_⟩
        exact ⟨e1, S1, f1, ds, r1, pusW_ext x1 h3 pt, e', S', hg, fun σ2 H2 f2 r2 x2 k2 => q σ2 H2 f2 r2 (x1.trans x2) (k1.trans k2)⟩)⟩
def gtLst (n : Nat) (g : Gts) : Gt := fun d e S => match seqD d S with
  | some (_, ds) => if ds.length = n then g ds e S else none
  | _ => none
theorem pg_orG {t : Expr} {g g' : TG} (h : PG X t g) (h' : PG X t g') : PG X t (fun v σ H Q => g v σ H Q ∨ g' v σ H Q) := ⟨fun pins s σ H v u Q I r hw => hw.elim (h.run pins s σ H v u Q I r) (h'.run pins s σ H v u Q I r)⟩
theorem dg_any {u : Nat → Bool} {es : List Expr} {k : Nat} {g : Gts} {pos : Pos} {n : Nat} (hK : X.K = G.K) (hc : X.calm = true) (h : DGs X G u es g)
    (hn : (assignEach es X.env).length = n := by rfl) (hst : (assignEach es X.env).findIdx? (·.1) = none := by rfl) : DG X G u (.Tuple es k pos) (gtLst n g) :=
  pg_mono (pg_orG (pg_tup hc h hn hst) (pg_unl hc h hn hst)) fun v σ H Q hw => by
    obtain ⟨e, S, f, d, r, p, e', S', hg, q⟩ := hw
    unfold gtLst at hg
    cases hs : seqD d S with
    | none => rw [hs] at hg; cases hg
    | some kd =>
      obtain ⟨b, ds⟩ := kd
      rw [hs] at hg
      dsimp only at hg
      by_cases c : ds.length = n
      · rw [if_pos c] at hg
        obtain ⟨a, vs, rfl, ht, hl, hp⟩ := seq_ok r p hs
        rw [hK]
        cases b with
        | true => exact .inl ⟨a, vs, rfl, ht rfl, by rw [Paired.length hp]; exact c, e, S, f, ds, r, hp, e', S', hg, q⟩
        | false => exact .inr ⟨a, vs, rfl, hl rfl, by rw [Paired.length hp]; exact c, e, S, f, ds, r, hp, e', S', hg, q⟩
      · rw [if_neg c] at hg
        cases hg
/-! ### target = value -/
def sAsg (x : Ex) (g : Gt) : Sx := fun e S => (x e S).bind fun r => (g r.1 e r.2).bind fun q => some (.nx q.1 q.2)
theorem ds_asg {u : Nat → Bool} {tg a : Expr} {x : Ex} {g : Gt} {pos : Pos} (ha : DE X G a x) (hg : DG X G u tg g) (hs : swapsWithSole [tg] a pos.line X.env = pure false := by rfl) (hw : swappedStores [tg] a X.env = pure none := by rfl)
    (h1 : (assignEach [tg] X.env).map (·.2) = [assign tg X.env] := by rfl) : DS X G (.Assign [tg] a pos) (sAsg x g) := ps_mono (ps_asg ha hg hs hw h1) fun T σ H hw => by
  obtain ⟨e, S, f, r, o, hx, q⟩ := hw
  obtain ⟨⟨d, S1⟩, h1, hx⟩ := Option.bind_eq_some_iff.mp hx
  obtain ⟨⟨e2, S2⟩, h2, hx⟩ := Option.bind_eq_some_iff.mp hx
  cases hx
  refine ⟨e, S, f, r, d, S1, h1, fun v H1 f1 r1 n1 p1 => ?_⟩
  exact ⟨e, S1, f1, d, r1, p1, e2, S2, h2, fun σ2 H2 f2 r2 x2 _ => q σ2 H2 f2 r2 (n1.ext.trans x2)⟩
def sSet (i : Nat) (x : Ex) : Sx := sAsg x (gNm i)
theorem ds_set {i : Nat} {x : Str} {a : Expr} {xa : Ex} {pos pos' : Pos} (hN : X.N.Nodup) (hi : X.N[i]? = some x) (hx : Loc X.env.scope x) (ha : DE X G a xa) (hs : swapsWith a (some (.Name x pos')) pos.line X.env = pure false := by rfl) (hf : X.fn x = true ∨ X.env.scope.names.lookup x = some .local := by first | exact .inl rfl | exact .inr rfl | assumption) : DS X G (.Assign [.Name x pos'] a pos) (sSet i xa) :=
  ps_mono (ps_set hN hi hx ha hs hf) fun T σ H hw => by
    obtain ⟨e, S, f, r, o, hx, q⟩ := hw
    obtain ⟨⟨d, S1⟩, h1, hx⟩ := Option.bind_eq_some_iff.mp hx
    obtain ⟨⟨e2, S2⟩, h2, hx⟩ := Option.bind_eq_some_iff.mp hx
    cases hx
    refine ⟨e, S, f, r, d, S1, h1, fun v H1 f1 r1 n1 p1 => ?_⟩
    cases d with
    | bo j c => cases h2
    | pu p' => cases h2; exact q _ H1 f1 (r1.set p1) n1.ext
    | wr p' => cases h2; exact q _ H1 f1 (r1.set p1) n1.ext
    | rf n => cases h2; exact q _ H1 f1 (r1.set p1) n1.ext
    | nw c =>
      have h2 : (if i < e.length then some (e.set i (some (.ow c)), S1) else none) = some (e2, S2) := h2
      by_cases hl : i < e.length
      · rw [if_pos hl] at h2
        cases h2
        exact q _ H1 f1 (r1.take hl p1) n1.ext
      · rw [if_neg hl] at h2
        cases h2
/-- a, b = x, y: plain names -/
def sPar (i j : Nat) (a : Ax) : Sx := fun e S => (a e S).bind fun r => match r.1 with
  | [d, d'] => if noBo [d, d'] then some (.nx ((e.set i (some (.val d))).set j (some (.val d'))) r.2) else none
  | _ => none
/-! ### name op= e -/
def sAug (i : Nat) (g : D → D → Sto → Option (D × Sto)) (x : Ex) : Sx := fun e S => (xVar i e S).bind fun r => (x e r.2).bind fun q => (g r.1 q.1 q.2).bind fun z => (gNm i z.1 e z.2).bind fun w => some (.nx w.1 w.2)
/-- a rule for op= by values -/
def V2i (G : Gx) (r : TIp) (g : D → D → Sto → Option (D × Sto)) : Prop := ∀ σ H e S f x y dx dy d S' (Q : VK), R G σ H e S f → RE G σ H e f S.length x dx → RE G σ H e f S.length y dy → g dx dy S = some (d, S') → Fin G σ e H f S S' d Q → r x y H Q
theorem ds_aug {i : Nat} {x : Str} {a : Expr} {xa : Ex} {op : Operator} {ti : TIp} {g : D → D → Sto → Option (D × Sto)} {pos pos' : Pos} (hN : X.N.Nodup) (hi : X.N[i]? = some x) (hx : Loc X.env.scope x) (ha : DE X G a xa) (ho : PIp X op ti) (hv : V2i G ti g) (hf : X.fn x = true ∨ X.env.scope.names.lookup x = some .local := by first | exact .inl rfl | exact .inr rfl | assumption) : DS X G (.AugAssign (.Name x pos') op a pos) (sAug i g xa) :=
  ps_mono (ps_aug hN hi hx ha ho hf) fun T σ H hw => by
    obtain ⟨e, S, f, r, o, hx, q⟩ := hw
    obtain ⟨⟨d0, S0⟩, h0, hx1⟩ := Option.bind_eq_some_iff.mp hx
    obtain ⟨rfl, v0, hv0, p0⟩ := r.re h0
    obtain ⟨⟨d1, S1⟩, h1, hx2⟩ := Option.bind_eq_some_iff.mp hx1
    obtain ⟨⟨d2, S2⟩, h2, hx3⟩ := Option.bind_eq_some_iff.mp hx2
    obtain ⟨⟨e3, S3⟩, h3, hx4⟩ := Option.bind_eq_some_iff.mp hx3
    cases hx4
    refine ⟨v0, hv0, e, S0, f, r, d1, S1, h1, fun v1 H1 f1 r1 n1 p1 => ?_⟩
    refine hv σ H1 e S1 f1 v0 v1 d0 d1 d2 S2 _ r1 (p0.nx n1) p1 h2 fun v2 H2 f2 r2 n2 p2 => ?_
    cases d2 with
    | bo j c => cases h3
    | pu p' => cases h3; exact q _ H2 f2 (r2.set p2) (n1.trans n2).ext
    | wr p' => cases h3; exact q _ H2 f2 (r2.set p2) (n1.trans n2).ext
    | rf n => cases h3; exact q _ H2 f2 (r2.set p2) (n1.trans n2).ext
    | nw c =>
      have h3 : (if i < e.length then some (e.set i (some (.ow c)), S2) else none) = some (e3, S3) := h3
      by_cases hl : i < e.length
      · rw [if_pos hl] at h3
        cases h3
        exact q _ H2 f2 (r2.take hl p2) (n1.trans n2).ext
      · rw [if_neg hl] at h3
        cases h3
theorem v_iI {h : Int → Int → Int} : V2i G (ipI h) (s2 (pI (fun _ _ => true) h)) := by
  intro σ H e S f x y dx dy d S' Q r0 rx ry hg q
  cases dx with
  | pu a =>
    cases dy with
    | pu b =>
      obtain ⟨c, hc, hd⟩ := Option.bind_eq_some_iff.mp (show (pI (fun _ _ => true) h a b).bind _ = _ from hg)
      cases hd
      cases (show Rep H x a from rx) with
      | int i =>
        cases (show Rep H y b from ry) with
        | int j =>
          cases hc
          exact ⟨i, j, rfl, rfl, q _ H f r0 (.refl _ _ _) (.int _)⟩
        | _ => cases hc
      | _ => cases hc
    | _ => cases hg
  | _ => cases hg
/-! ### a new list, dict of a name's own -/
def sOwnD (i : Nat) : Sx := fun e S => some (.nx (e.set i (some (.ow (.dct [])))) S)
/-! ### xs.append(e) -/
def putL (d : D) (f : List D → Option (List D)) (e : Envi) (S : Sto) : Option (Envi × Sto) := match d with
  | .bo i (.lst _) => match e[i]? with
    | some (some (.ow (.lst xs))) => (f (xs.map .pu)).bind fun ds => (pusOf ds).bind fun ps => if ps.length ≤ lim then some (e.set i (some (.ow (.lst ps))), S) else none
    | _ => none
  | .rf n => match S[n]? with
    | some (.lst xs) => (f xs).bind fun ds => if ds.length ≤ lim then some (e, S.set n (.lst ds)) else none
    | _ => none
  | _ => none
/-- a list is written anew -/
theorem putL_ok {σ : L2.St} {H : Hp} {e e' : Envi} {S S' : Sto} {f : Nat → Addr} {v : V} {d : D} {g : List D → Option (List D)} (r : R G σ H e S f) (p : RE G σ H e f S.length v d) (h : putL d g e S = some (e', S')) :
    ∃ a vs ds ds', v = .ref a ∧ H a = some (.lst vs) ∧ Paired (RD G.K H f S.length) vs ds ∧ g ds = some ds' ∧ ds'.length ≤ sizeLine ∧ ∀ vs', Paired (RD G.K H f S.length) vs' ds' → R G σ (upd H a (.lst vs')) e' S' f ∧ Ext0 H (upd H a (.lst vs')) := by
  cases d with
  | pu p => cases h
  | wr p => cases h
  | nw c => cases h
  | rf n =>
    obtain ⟨e1, l⟩ := (show v = .ref (f n) ∧ n < S.length from p)
    subst e1
    unfold putL at h
    dsimp only at h
    cases hc : S[n]? with
    | none => rw [hc] at h; cases h
    | some c =>
      rw [hc] at h
      cases c with
      | lst xs =>
        obtain ⟨ds', h1, h⟩ := Option.bind_eq_some_iff.mp h
        by_cases c : ds'.length ≤ lim
        · rw [if_pos c] at h
          cases h
          obtain ⟨vs, h2, h3⟩ := r.cel n _ hc
          refine ⟨f n, vs, xs, ds', rfl, h2, h3, h1, by rw [← lim_eq]; exact c, fun vs' hp => ?_⟩
          have x := raw_ext (o' := .lst vs') h2 trivial
          exact r.cel_set hc rfl ⟨vs', upd_same, Paired.mapP hp fun _ _ => RD.ext x⟩
        · rw [if_neg c] at h
          cases h
      | _ => cases h
  | bo i c =>
    cases c with
    | dct ps => cases h
    | lst xs0 =>
      obtain ⟨h1, h2⟩ := (show σ[i]? = some (some v) ∧ e[i]? = some (some (.ow (.lst xs0))) from p)
      unfold putL at h
      dsimp only at h
      rw [h2] at h
      obtain ⟨ds', h3, h⟩ := Option.bind_eq_some_iff.mp h
      obtain ⟨ps, h4, h⟩ := Option.bind_eq_some_iff.mp h
      by_cases c : ps.length ≤ lim
      · rw [if_pos c] at h
        cases h
        have e4 := pusOf_eq h4
        subst e4
        obtain ⟨a, q1, ⟨vs, q2, q3⟩, _⟩ := r.own i _ h2
        rw [h1] at q1
        cases q1
        refine ⟨a, vs, _, _, rfl, q2, reps_rd q3, h3, by rw [List.length_map, ← lim_eq]; exact c, fun vs' hp => ?_⟩
        have x := raw_ext (o' := .lst vs') q2 trivial
        exact ⟨r.own_set h2 h1 ⟨vs', upd_same, RepL.ext x (rd_reps hp)⟩, x⟩
      · rw [if_neg c] at h
        cases h
def sApp (a x : Ex) : Sx := fun e S => (a e S).bind fun r => (lstD r.1 r.2).bind fun _ => (x e r.2).bind fun q => if noBo [q.1] then (putL r.1 (fun ds => some (ds ++ [q.1])) e q.2).bind fun w => some (.nx w.1 w.2) else none
theorem ds_app {o a : Expr} {xo xa : Ex} {apos cpos pos : Pos} (ho : DE X G o xo) (ha : DE X G a xa)
    (hbase : attributeBase o "append" X.env (eval o X.env) = eval o X.env := by rfl)
    (hfew : ((backTo cpos (starEach [a] X.env)).all (fun x => !x.1) && (backToKw cpos (keywordEach [] X.env)).all (fun x => x.1.isSome)
      && decide (([a] : List Expr).length + ([] : List Keyword).length + (if ([] : List Keyword).isEmpty then 0 else 1) < 30)) = true := by rfl)
    (hline : (apos.endLine == cpos.line) = true := by rfl) (hs : starEach [a] X.env = (false, eval a X.env) :: starEach [] X.env := by rfl) (hplain : (backTo cpos (starEach [] X.env)).any (·.1) = false := by rfl) (hsw : swapsWith (.Call (.Attribute o "append" apos) [a] [] cpos) none pos.line X.env = pure false := by rfl) :
    DS X G (.Expr (.Call (.Attribute o "append" apos) [a] [] cpos) pos) (sApp xo xa) :=
  ps_mono (ps_expr (pe_bm PySem.F.plainAttrs_list PySem.F.slot_list_append PySem.F.type_list_append mt_append ho (pa_cons ha pa_nil hs) hbase hfew hline hs hplain) hsw) fun T σ H hw => by
    obtain ⟨e, S, f, r, o, hx, q⟩ := hw
    obtain ⟨⟨d0, S0⟩, h0, hx⟩ := Option.bind_eq_some_iff.mp hx
    obtain ⟨l0, hl0, hx⟩ := Option.bind_eq_some_iff.mp hx
    obtain ⟨⟨d1, S1⟩, h1, hx⟩ := Option.bind_eq_some_iff.mp hx
    by_cases c : noBo [d1] = true
    · rw [if_pos c] at hx
      obtain ⟨⟨e2, S2⟩, h2, hx⟩ := Option.bind_eq_some_iff.mp hx
      cases hx
      refine ⟨e, S, f, r, d0, S0, h0, fun v0 H0 f0 r0 n0 p0 => ?_⟩
      refine ⟨?_, e, S0, f0, r0, d1, S1, h1, fun v1 H1 f1 r1 n1 p1 => ?_⟩
      · obtain ⟨a, xs, e1, e2, _⟩ := lst_rd r0 p0 hl0
        subst e1
        exact .inl ⟨rfl, xs, .inl e2⟩
      · obtain ⟨a, vs, ds, ds', e1, hv, hp, hg, hz, k⟩ := putL_ok r1 (p0.nx n1) h2
        cases hg
        have pd := re_rd p1 c
        obtain ⟨r2, x2⟩ := k (vs ++ [v1]) (Paired.app hp (.cons pd .nil))
        rw [List.length_append, List.length_singleton, ← Paired.length hp] at hz
        exact ⟨a, vs, v1, e1, rfl, hv, hz, q _ _ f1 r2 ((n0.trans n1).ext.trans x2)⟩
    · rw [if_neg c] at hx
      cases hx
end
end DL
/-! DL7: what is walked; for, while. -/
namespace DL
open PySem PySem.Spec PyProof.Rows L2

/-- the iterator J gives these items, whatever comes to the heap -/
structure Walk (K : PySem.W.Frag) (J : It) (H1 : Hp) (ds : List D) : Prop where
  go : ∀ H i d, Ext0 H1 H → ds[i]? = some d → J.go i H
  yld : ∀ H i d x H2, Ext0 H1 H → ds[i]? = some d → J.yld i H x H2 → Same H H2 ∧ RD K H2 (fun _ => 0) 0 x d
  stop : ∀ H, Ext0 H1 H → J.stop ds.length H
abbrev Ix := Envi → Sto → Option (List D × Sto)
def tIx (G : Gx) (x : Ix) : TI := fun σ H Rr => ∃ e S f, R G σ H e S f ∧ ∃ ds S', x e S = some (ds, S') ∧
  ∀ J H' f', R G σ H' e S' f' → Nx H H' f f' S.length S'.length → Walk G.K J H' ds → Rr J H'
abbrev DI (X : Cx) (G : Gx) (tg a : Expr) (x : Ix) : Prop := PI X tg a (tIx G x)
theorem pi_mono {X : Cx} {tg a : Expr} {t t' : TI} (h : PI X tg a t) (m : ∀ σ H Q, t' σ H Q → t σ H Q) : PI X tg a t' := ⟨fun pins s σ H Q I hw => h.run pins s σ H Q I (m σ H Q hw)⟩
theorem pi_orI {X : Cx} {tg a : Expr} {t t' : TI} (h : PI X tg a t) (h' : PI X tg a t') : PI X tg a (fun σ H Q => t σ H Q ∨ t' σ H Q) := ⟨fun pins s σ H Q I hw => hw.elim (h.run pins s σ H Q I) (h'.run pins s σ H Q I)⟩
theorem rd_any {K : PySem.W.Frag} {H : Hp} {f : Nat → Addr} {L : Nat} {x : V} : ∀ {d : D}, RD K H (fun _ => 0) 0 x d → RD K H f L x d
  | .pu _, h => h
  | .wr _, h => h
  | .rf _, h => absurd h.2 (Nat.not_lt_zero _)
  | .bo _ _, h => h
  | .nw _, h => h
/-- items that stay: data -/
def itemsD : D → Option (Bool × List D)
  | .pu (.list xs) => some (false, xs.map .pu)
  | .pu (.tuple xs) => some (true, xs.map .pu)
  | .wr (.list xs) => some (false, xs.map wrD)
  | .wr (.tuple xs) => some (true, xs.map wrD)
  | _ => none
section
variable {X : Cx} {G : Gx}
theorem reps_rd0 {K : PySem.W.Frag} {H : Hp} : ∀ {vs : List V} {ps : List P}, RepL H vs ps → Paired (RD K H (fun _ => 0) 0) vs (ps.map .pu)
  | _, _, .nil => .nil
  | _, _, .cons h t => .cons h (reps_rd0 t)
theorem wrs_rd0 {K : PySem.W.Frag} {H : Hp} : ∀ {vs : List V} {ps : List P}, RepWL K vs ps → Paired (RD K H (fun _ => 0) 0) vs (ps.map wrD)
  | _, _, .nil => .nil
  | _, _, .cons h t => .cons (wr_rd h) (wrs_rd0 t)
/-- what stands for items stays -/
theorem items_ok {σ : L2.St} {H : Hp} {e : Envi} {f : Nat → Addr} {L : Nat} {v : V} {d : D} {k : Bool} {ds : List D} (h : RE G σ H e f L v d) (hs : itemsD d = some (k, ds)) :
    ∃ a vs, v = .ref a ∧ ∀ H', Ext0 H H' → (k = true → SqT G.K H' a vs) ∧ (k = false → SqL G.K H' a vs) ∧ Paired (RD G.K H' (fun _ => 0) 0) vs ds := by
  cases d with
  | pu p =>
    cases p with
    | list xs =>
      cases hs
      cases (show Rep H v (.list xs) from h) with
      | lst h1 h2 => exact ⟨_, _, rfl, fun H' x => ⟨fun z => (by cases z), fun _ => (h1.ext x).sq, reps_rd0 (RepL.ext x h2)⟩⟩
    | tuple xs =>
      cases hs
      cases (show Rep H v (.tuple xs) from h) with
      | tup h1 h2 => exact ⟨_, _, rfl, fun H' x => ⟨fun _ => SqT.of (x.tups _ _ h1), fun z => (by cases z), reps_rd0 (RepL.ext x h2)⟩⟩
    | _ => cases hs
  | wr p =>
    cases p with
    | list xs =>
      cases hs
      cases (show RepW G.K v (.list xs) from h) with
      | lst h1 h2 h3 h4 h5 h6 h7 => exact ⟨_, _, rfl, fun H' _ => ⟨fun z => (by cases z), fun _ => .inr ⟨_, _, _, h1, h2, h3, h4, h5, h6⟩, wrs_rd0 h7⟩⟩
    | tuple xs =>
      cases hs
      cases (show RepW G.K v (.tuple xs) from h) with
      | tup h1 h2 h3 h4 h5 h6 h7 => exact ⟨_, _, rfl, fun H' _ => ⟨fun _ => .inr ⟨_, _, _, h1, h2, h4, h5, h6⟩, fun z => (by cases z), wrs_rd0 h7⟩⟩
    | _ => cases hs
  | rf n => cases hs
  | bo i c => cases hs
  | nw c => cases hs
theorem paired_len {α β : Type} {F : α → β → Prop} {l : List α} {m : List β} (h : Paired F l m) : l.length = m.length := Paired.length h
theorem walk_l {H : Hp} {a : Addr} {vs : List V} {ds : List D} (hl : ∀ H', Ext0 H H' → SqL G.K H' a vs ∧ Paired (RD G.K H' (fun _ => 0) 0) vs ds) : Walk G.K (Itl G.K a) H ds where
  go := fun H' i d x hd => by
    obtain ⟨h1, h2⟩ := hl H' x
    obtain ⟨v, hv, _⟩ := Paired.get2 h2 hd
    exact ⟨vs, v, h1, hv⟩
  yld := fun H' i d v H2 x hd hy => by
    obtain ⟨h1, h2⟩ := hl H' x
    obtain ⟨rfl, hy⟩ := hy
    obtain ⟨u, hu, p⟩ := Paired.get2 h2 hd
    have e := hy vs h1
    rw [hu] at e
    cases e
    exact ⟨.refl _, p⟩
  stop := fun H' x => by
    obtain ⟨h1, h2⟩ := hl H' x
    exact ⟨vs, h1, Nat.le_of_eq (paired_len h2)⟩
theorem walk_t {H : Hp} {a : Addr} {vs : List V} {ds : List D} (hl : ∀ H', Ext0 H H' → SqT G.K H' a vs ∧ Paired (RD G.K H' (fun _ => 0) 0) vs ds) : Walk G.K (Itt G.K a) H ds where
  go := fun H' i d x hd => by
    obtain ⟨h1, h2⟩ := hl H' x
    obtain ⟨v, hv, _⟩ := Paired.get2 h2 hd
    exact ⟨vs, v, h1, hv⟩
  yld := fun H' i d v H2 x hd hy => by
    obtain ⟨h1, h2⟩ := hl H' x
    obtain ⟨rfl, hy⟩ := hy
    obtain ⟨u, hu, p⟩ := Paired.get2 h2 hd
    have e := hy vs h1
    rw [hu] at e
    cases e
    exact ⟨.refl _, p⟩
  stop := fun H' x => by
    obtain ⟨h1, h2⟩ := hl H' x
    exact ⟨vs, h1, Nat.le_of_eq (paired_len h2)⟩
/-- a list, a tuple -/
def iSeq (x : Ex) : Ix := fun e S => (x e S).bind fun r => (itemsD r.1).bind fun q => some (q.2, r.2)
theorem di_seq {tg a : Expr} {x : Ex} (hK : X.K = G.K) (h : DE X G a x) : DI X G tg a (iSeq x) := pi_mono (pi_orI (pi_list h) (pi_tup h)) fun σ H Q hw => by
  obtain ⟨e, S, f, r, ds, S', hx, q⟩ := hw
  obtain ⟨⟨d, S1⟩, h1, hx⟩ := Option.bind_eq_some_iff.mp hx
  obtain ⟨⟨k, is⟩, h2, hx⟩ := Option.bind_eq_some_iff.mp hx
  cases hx
  cases k with
  | false =>
    refine .inl ⟨e, S, f, r, d, S1, h1, fun v H1 f1 r1 n1 p1 => ?_⟩
    obtain ⟨a, vs, rfl, hh⟩ := items_ok p1 h2
    obtain ⟨_, hl, _⟩ := hh H1 (.refl _)
    rw [hK]
    exact ⟨a, rfl, ⟨vs, hl rfl⟩, q _ H1 f1 r1 n1 (walk_l fun H' x => ⟨(hh H' x).2.1 rfl, (hh H' x).2.2⟩)⟩
  | true =>
    refine .inr ⟨e, S, f, r, d, S1, h1, fun v H1 f1 r1 n1 p1 => ?_⟩
    obtain ⟨a, vs, rfl, hh⟩ := items_ok p1 h2
    obtain ⟨hl, _, _⟩ := hh H1 (.refl _)
    rw [hK]
    exact ⟨a, rfl, ⟨vs, hl rfl⟩, q _ H1 f1 r1 n1 (walk_t fun H' x => ⟨(hh H' x).1 rfl, (hh H' x).2.2⟩)⟩
/-- range(a), range(a, b) -/
def rngD (lo : Int) (n : Nat) : List D := (List.range n).map fun (i : Nat) => .pu (.int (lo + i))
theorem walk_r {H : Hp} {lo : Int} {n : Nat} : Walk G.K (Itr lo n) H (rngD lo n) where
  go := fun H' i d x hd => by
    have := (List.getElem?_eq_some_iff.mp hd).1
    unfold rngD at this
    rw [List.length_map, List.length_range] at this
    exact this
  yld := fun H' i d v H2 x hd hy => by
    obtain ⟨rfl, rfl⟩ := hy
    unfold rngD at hd
    rw [List.getElem?_map] at hd
    obtain ⟨j, hj, e⟩ := Option.map_eq_some_iff.mp hd
    obtain ⟨_, e2⟩ := List.getElem?_eq_some_iff.mp hj
    rw [List.getElem_range] at e2
    subst e2
    subst e
    exact ⟨.refl _, .int _⟩
  stop := fun H' x => by
    unfold rngD
    rw [List.length_map, List.length_range]
    exact Nat.le_refl _
def rOk (i : Int) : Bool := decide (-4611686018427387904 ≤ i) && decide (i < 4611686018427387904)
theorem rOk_iff {i : Int} : rOk i = true ↔ -(2 ^ 62) ≤ i ∧ i < 2 ^ 62 := by
  unfold rOk
  rw [Bool.and_eq_true, decide_eq_true_eq, decide_eq_true_eq]
  exact Iff.rfl
def iRange1 (a : Ax) : Ix := fun e S => (a e S).bind fun r => match r.1 with
  | [.pu (.int j)] => if rOk j then some (rngD 0 j.toNat, r.2) else none
  | _ => none
def iRange2 (a : Ax) : Ix := fun e S => (a e S).bind fun r => match r.1 with
  | [.pu (.int i), .pu (.int j)] => if rOk i && rOk j then some (rngD i (j - i).toNat, r.2) else none
  | _ => none
theorem di_range1 {tg a : Expr} {xa : Ax} {p pos : Pos} (hg : Gl X "range") (hm : X.mg "range" = none) (ha : DA X G [a] xa) (hs : starEach [a] X.env = [(false, eval a X.env)] := by rfl) : DI X G tg (.Call (.Name "range" p) [a] [] pos) (iRange1 xa) := pi_mono (pi_range1 hg hm ha hs) fun σ H Q hw => by
  obtain ⟨e, S, f, r, ds, S', hx, q⟩ := hw
  obtain ⟨⟨as, S1⟩, h1, hx⟩ := Option.bind_eq_some_iff.mp hx
  refine ⟨e, S, f, r, as, S1, h1, fun vs H1 f1 r1 n1 p1 => ?_⟩
  match as, p1, hx with
  | [.pu (.int j)], .cons p2 .nil, hx =>
    cases (show Rep H1 _ (.int j) from p2)
    dsimp only at hx
    by_cases c : rOk j = true
    · rw [if_pos c] at hx
      cases hx
      obtain ⟨c1, c2⟩ := rOk_iff.mp c
      exact ⟨j, rfl, c1, c2, q _ H1 f1 r1 n1 walk_r⟩
    · rw [if_neg c] at hx
      cases hx
/-- enumerate(list): of data -/
def numD : Nat → List P → List D
  | _, [] => []
  | i, p :: ps => .pu (.tuple [.int i, p]) :: numD (i + 1) ps
theorem numD_length : ∀ (i : Nat) (ps : List P), (numD i ps).length = ps.length
  | _, [] => rfl
  | i, p :: ps => by show (numD (i + 1) ps).length + 1 = ps.length + 1; rw [numD_length]
theorem numD_get : ∀ (k : Nat) (ps : List P) (i : Nat) (d : D), (numD k ps)[i]? = some d → ∃ p, ps[i]? = some p ∧ d = .pu (.tuple [.int (k + i : Nat), p])
  | _, [], _, _, h => by simp [numD] at h
  | k, p :: ps, 0, d, h => by
    have h' : some (D.pu (.tuple [.int k, p])) = some d := h
    cases h'
    exact ⟨p, rfl, rfl⟩
  | k, p :: ps, i + 1, d, h => by
    obtain ⟨q, h1, h2⟩ := numD_get (k + 1) ps i d h
    exact ⟨q, h1, by rw [h2]; congr 4; omega⟩
def iEnumX (a : Ax) : Ix := fun e S => (a e S).bind fun r => match r.1 with
  | [d] => match itemsD d with
    | some (false, ds) => (pusOf ds).bind fun ps => some (numD 0 ps, r.2)
    | _ => none
  | _ => none
theorem di_enum {a : Expr} {xa : Ax} {p pos tpos : Pos} {elts : List Expr} {kk : Nat} (hK : X.K = G.K) (hg : Gl X "enumerate") (hm : X.mg "enumerate" = none) (ha : DA X G [a] xa) (hs : starEach [a] X.env = [(false, eval a X.env)] := by rfl) : DI X G (.Tuple elts kk tpos) (.Call (.Name "enumerate" p) [a] [] pos) (iEnumX xa) := pi_mono (pi_enum hg hm ha hs) fun σ H Q hw => by
  obtain ⟨e, S, f, r, ds, S', hx, q⟩ := hw
  obtain ⟨⟨as, S1⟩, h1, hx⟩ := Option.bind_eq_some_iff.mp hx
  refine ⟨e, S, f, r, as, S1, h1, fun vs H1 f1 r1 n1 p1 => ?_⟩
  match as, p1, hx with
  | [d], .cons p2 .nil, hx =>
    dsimp only at hx
    cases hi : itemsD d with
    | none => rw [hi] at hx; cases hx
    | some ki =>
      obtain ⟨k, is⟩ := ki
      rw [hi] at hx
      cases k with
      | true => cases hx
      | false =>
        obtain ⟨ps, h3, hx⟩ := Option.bind_eq_some_iff.mp hx
        cases hx
        have e3 := pusOf_eq h3
        subst e3
        obtain ⟨a, us, rfl, hh⟩ := items_ok p2 hi
        obtain ⟨_, hl, _⟩ := hh H1 (.refl _)
        rw [hK]
        refine ⟨a, us, rfl, hl rfl, q _ H1 f1 r1 n1 ?_⟩
        refine ⟨fun H' i d x hd => ?_, fun H' i d v H2 x hd hy => ?_, fun H' x => ?_⟩
        · obtain ⟨p, hp, _⟩ := numD_get 0 ps i d hd
          obtain ⟨_, h5, h6⟩ := hh H' x
          obtain ⟨u, hu, _⟩ := Paired.get2 h6 (show (ps.map D.pu)[i]? = some (.pu p) by rw [List.getElem?_map, hp]; rfl)
          exact ⟨us, u, h5 rfl, hu⟩
        · obtain ⟨p, hp, rfl⟩ := numD_get 0 ps i d hd
          obtain ⟨_, h5, h6⟩ := hh H' x
          obtain ⟨T, y, rfl, nT, rfl, hy⟩ := hy
          obtain ⟨u, hu, pu⟩ := Paired.get2 h6 (show (ps.map D.pu)[i]? = some (.pu p) by rw [List.getElem?_map, hp]; rfl)
          have e : u = y := Option.some.inj (hu.symm.trans (hy us (h5 rfl)))
          rw [e] at pu
          have s := upd_new (o := .tup [.int (i : Nat), y]) nT
          refine ⟨s, Rep.tup upd_same (.cons ?_ (.cons (Rep.ext (.of s) pu) .nil))⟩
          rw [Nat.zero_add]
          exact .int _
        · obtain ⟨_, h5, h6⟩ := hh H' x
          exact ⟨us, h5 rfl, by rw [numD_length, paired_len h6, List.length_map]; exact Nat.le_refl _⟩
/-- zip of two lists, of two tuples: of data -/
def zipD : List P → List P → List D
  | p :: ps, q :: qs => .pu (.tuple [p, q]) :: zipD ps qs
  | _, _ => []
/-! ### for -/
def forD (b : D → Envi → Sto → Option Out) : List D → Envi → Sto → Option Out
  | [], e, S => some (.nx e S)
  | d :: ds, e, S => (b d e S).bind fun o => match o with
    | .nx e' S' => forD b ds e' S'
    | .ct e' S' => forD b ds e' S'
    | .bk e' S' => some (.nx e' S')
    | .rt d e' S' => some (.rt d e' S')
def sFor (it : Ix) (g : Gt) (b : Sx) : Sx := fun e S => (it e S).bind fun r => forD (fun d e S => (g d e S).bind fun q => b q.1 q.2) r.1 e r.2
theorem ds_for {u : Nat → Bool} {tg iter : Expr} {body : List Stmt} {it : Ix} {g : Gt} {b : Sx} {pos : Pos} (hp : PassesOwn (model X.prog X.w) X.A X.env X.xe) (hc : X.calm = true) (hi : DI X G tg iter it) (hg : DG X G u tg g) (hb : DSs X G body b)
    (hs : ∀ x, foldedSetIterable iter X.env x = pure x := by intro _; rfl) : DS X G (.For tg iter body [] pos) (sFor it g b) := ps_mono (ps_for hp hc hi hg hb hs) fun T σ H hw => by
  obtain ⟨e, S, f, r, o, hx, q⟩ := hw
  obtain ⟨⟨ds, S1⟩, h1, hx⟩ := Option.bind_eq_some_iff.mp hx
  dsimp only at hx
  refine ⟨e, S, f, r, ds, S1, h1, fun J H1 f1 r1 n1 wk => ?_⟩
  refine ⟨fun i m σ' H' => m = ds.length - i ∧ i ≤ ds.length ∧ Ext0 H1 H' ∧ ∃ e' S' f', R G σ' H' e' S' f' ∧ forD (fun d e S => (g d e S).bind fun q => b q.1 q.2) (ds.drop i) e' S' = some o,
    ⟨ds.length, rfl, Nat.zero_le _, .refl _, e, S1, f1, r1, hx⟩, fun i m σ' H' hW => ?_⟩
  obtain ⟨rfl, hi', x1, e', S', f', r', hf⟩ := hW
  have q1 : EndOf G H' T o := q.pre (n1.ext.trans x1)
  by_cases hlt : i < ds.length
  · have hd : ds[i]? = some ds[i] := List.getElem?_eq_getElem hlt
    rw [List.drop_eq_getElem_cons hlt] at hf
    obtain ⟨o1, hb1, hf⟩ := Option.bind_eq_some_iff.mp hf
    obtain ⟨⟨e2, S2⟩, hg2, hb2⟩ := Option.bind_eq_some_iff.mp hb1
    refine .inr ⟨wk.go H' i _ x1 hd, fun σ2 H2 => ds.length - (i + 1) = ds.length - (i + 1) ∧ i + 1 ≤ ds.length ∧ Ext0 H1 H2 ∧ ∃ e' S' f', R G σ2 H2 e' S' f' ∧ forD (fun d e S => (g d e S).bind fun q => b q.1 q.2) (ds.drop (i + 1)) e' S' = some o,
      fun σ2 H2 hN => ⟨ds.length - (i + 1), by omega, hN⟩, fun v H2 hy => ?_⟩
    obtain ⟨s2, p2⟩ := wk.yld H' i _ v H2 x1 hd hy
    refine ⟨e', S', f', _, r'.same s2, (rd_any p2).re, e2, S2, hg2, fun σ3 H3 f3 r3 x3 _ => ?_⟩
    refine ⟨e2, S2, f3, r3, o1, hb2, ?_⟩
    have x13 : Ext0 H1 H3 := (x1.trans (.of s2)).trans x3
    cases o1 with
    | nx e4 S4 => exact fun σ4 H4 f4 r4 x4 => ⟨rfl, hlt, x13.trans x4, e4, S4, f4, r4, hf⟩
    | ct e4 S4 => exact fun σ4 H4 f4 r4 x4 => ⟨rfl, hlt, x13.trans x4, e4, S4, f4, r4, hf⟩
    | bk e4 S4 => cases hf; exact q1.pre ((Ext0.of s2).trans x3)
    | rt d4 e4 S4 => cases hf; exact q1.pre ((Ext0.of s2).trans x3)
  · have e3 : i = ds.length := by omega
    subst e3
    rw [List.drop_length] at hf
    cases hf
    exact .inl ⟨wk.stop H' x1, q1 σ' H' f' r' (.refl _)⟩

/-! ### while -/
def whN (t : Tx) (b : Sx) : Nat → Envi → Sto → Option Out
  | 0, _, _ => none
  | n + 1, e, S => (t e S).bind fun r => if r.1 then (b e r.2).bind fun o => match o with
    | .nx e' S' => whN t b n e' S'
    | .ct e' S' => whN t b n e' S'
    | .bk e' S' => some (.nx e' S')
    | .rt d e' S' => some (.rt d e' S') else some (.nx e r.2)
open Classical in
noncomputable def sWhile (t : Tx) (b : Sx) : Sx := fun e S => if h : ∃ n, (whN t b n e S).isSome then whN t b (Classical.choose h) e S else none
theorem whN_mono (t : Tx) (b : Sx) : ∀ (n : Nat) (e : Envi) (S : Sto) (o : Out), whN t b n e S = some o → ∀ k, whN t b (n + k) e S = some o
  | 0, _, _, _, h, _ => by cases h
  | n + 1, e, S, o, h, k => by
    rw [Nat.add_right_comm]
    unfold whN at h ⊢
    obtain ⟨⟨c, S1⟩, h1, h⟩ := Option.bind_eq_some_iff.mp h
    rw [h1]
    show (if c = true then _ else _) = _
    cases c with
    | false => exact h
    | true =>
      have h' := h
      rw [if_pos rfl] at h' ⊢
      obtain ⟨o1, h2, h3⟩ := Option.bind_eq_some_iff.mp h'
      rw [h2]
      cases o1 with
      | nx e' S' => exact whN_mono t b n e' S' o h3 k
      | ct e' S' => exact whN_mono t b n e' S' o h3 k
      | bk e' S' => exact h3
      | rt d e' S' => exact h3
theorem sWhile_of {t : Tx} {b : Sx} {n : Nat} {e : Envi} {S : Sto} {o : Out} (h : whN t b n e S = some o) : sWhile t b e S = some o := by
  unfold sWhile
  have ex : ∃ n, (whN t b n e S).isSome := ⟨n, by rw [h]; rfl⟩
  rw [dif_pos ex]
  have hs := Classical.choose_spec ex
  obtain ⟨o', ho⟩ := Option.isSome_iff_exists.mp hs
  have h1 := whN_mono t b _ e S o' ho n
  have h2 := whN_mono t b n e S o h (Classical.choose ex)
  rw [Nat.add_comm] at h2
  rw [h1] at h2
  rw [ho, h2]
theorem sWhile_to {t : Tx} {b : Sx} {e : Envi} {S : Sto} {o : Out} (h : sWhile t b e S = some o) : ∃ n, whN t b n e S = some o := by
  unfold sWhile at h
  by_cases ex : ∃ n, (whN t b n e S).isSome
  · rw [dif_pos ex] at h
    exact ⟨_, h⟩
  · rw [dif_neg ex] at h
    cases h
theorem ds_while {c : Expr} {body : List Stmt} {t : Tx} {b : Sx} {pos : Pos} (hp : PassesOwn (model X.prog X.w) X.A X.env X.xe) (hc : DT X G c t) (hb : DSs X G body b) : DS X G (.While c body [] pos) (sWhile t b) := ps_mono (ps_while hp hc hb) fun T σ H hw => by
  obtain ⟨e, S, f, r, o, hx, q⟩ := hw
  obtain ⟨n, hn⟩ := sWhile_to hx
  refine ⟨fun m σ' H' => ∃ e' S' f', R G σ' H' e' S' f' ∧ Ext0 H H' ∧ whN t b m e' S' = some o, ⟨n, e, S, f, r, .refl _, hn⟩, fun m σ' H' hW => ?_⟩
  obtain ⟨e', S', f', r', x', hm⟩ := hW
  cases m with
  | zero => cases hm
  | succ m =>
    unfold whN at hm
    obtain ⟨⟨k, S1⟩, h1, hm⟩ := Option.bind_eq_some_iff.mp hm
    refine ⟨e', S', f', r', k, S1, h1, fun H1 f1 r1 n1 => ?_⟩
    dsimp only at hm
    cases k with
    | false =>
      rw [if_neg Bool.false_ne_true] at hm ⊢
      cases hm
      exact q σ' H1 f1 r1 (x'.trans n1.ext)
    | true =>
      rw [if_pos rfl] at hm ⊢
      obtain ⟨o1, h2, h3⟩ := Option.bind_eq_some_iff.mp hm
      refine ⟨fun σ2 H2 => ∃ e' S' f', R G σ2 H2 e' S' f' ∧ Ext0 H H2 ∧ whN t b m e' S' = some o, fun σ2 H2 hN => ⟨m, Nat.lt_succ_self _, hN⟩, e', S1, f1, r1, o1, h2, ?_⟩
      have x1 := x'.trans n1.ext
      cases o1 with
      | nx e4 S4 => exact fun σ4 H4 f4 r4 x4 => ⟨e4, S4, f4, r4, x1.trans x4, h3⟩
      | ct e4 S4 => exact fun σ4 H4 f4 r4 x4 => ⟨e4, S4, f4, r4, x1.trans x4, h3⟩
      | bk e4 S4 => cases h3; exact q.pre x1
      | rt d4 e4 S4 => cases h3; exact q.pre x1
end
end DL
/-! DL8: list comprehensions. -/
namespace DL
open PySem PySem.Spec PyProof.Rows L2

/-! ### targets that are names: the heap stays -/
def tGn (G : Gx) (u : Nat → Bool) (g : Gt) : TG := fun v σ H Q => ∃ e S f d, R G σ H e S f ∧ RE G σ H e f S.length v d ∧ ∃ e', g d e S = some (e', S) ∧ ∀ σ', R G σ' H e' S f → Kept u σ σ' → Q σ' H
def tGns (G : Gx) (u : Nat → Bool) (g : Gts) : TGs := fun vs σ H Q => ∃ e S f ds, R G σ H e S f ∧ Paired (RD G.K H f S.length) vs ds ∧ ∃ e', g ds e S = some (e', S) ∧ ∀ σ', R G σ' H e' S f → Kept u σ σ' → Q σ' H
abbrev DN (X : Cx) (G : Gx) (u : Nat → Bool) (t : Expr) (g : Gt) : Prop := PG X t (tGn G u g)
abbrev DNs (X : Cx) (G : Gx) (u : Nat → Bool) (t : List Expr) (g : Gts) : Prop := PGs X t (tGns G u g)
section
variable {X : Cx} {G : Gx} {u : Nat → Bool}
theorem dn_name {i : Nat} {x : Str} {pos : Pos} (hu : u i = true) (hN : X.N.Nodup) (hi : X.N[i]? = some x) (hx : Loc X.env.scope x) (hf : X.fn x = true ∨ X.env.scope.names.lookup x = some .local := by first | exact .inl rfl | exact .inr rfl | assumption) : DN X G u (.Name x pos) (gNm i) :=
  pg_mono (pg_name hN hi hx hf) fun v σ H Q hw => by
    obtain ⟨e, S, f, d, r, p, e', hg, q⟩ := hw
    cases d with
    | bo j c => cases hg
    | pu p' => cases hg; exact q _ (r.set p) (.set hu)
    | wr p' => cases hg; exact q _ (r.set p) (.set hu)
    | rf n => cases hg; exact q _ (r.set p) (.set hu)
    | nw c =>
      have hg : (if i < e.length then some (e.set i (some (.ow c)), S) else none) = some (e', S) := hg
      by_cases hl : i < e.length
      · rw [if_pos hl] at hg
        cases hg
        exact q _ (r.take hl p) (.set hu)
      · rw [if_neg hl] at hg
        cases hg
/-- several, each of which leaves the cells -/
def gnNil : Gts := gtNil
def gnCons (g : Gt) (r : Gts) : Gts := fun ds e S => match ds with
  | d :: ds => (g d e S).bind fun q => r ds q.1 S
  | [] => none
theorem dns_nil : DNs X G u [] gnNil := ⟨fun pins s σ H vs us Q I r hw => pgs_nil.run pins s σ H vs us Q I r (by
  obtain ⟨e, S, f, ds, r0, p, e', hg, q⟩ := hw
  cases ds with
  | nil =>
    cases hg
    cases p
    exact ⟨rfl, q σ r0 (.refl _ _)⟩
  | cons d ds => cases hg)⟩
/-- the target leaves the cells whatever it stores -/
def KeepS (g : Gt) : Prop := ∀ d e S e' S', g d e S = some (e', S') → S' = S
def KeepSs (g : Gts) : Prop := ∀ d e S e' S', g d e S = some (e', S') → S' = S
theorem keep_nm {i : Nat} : KeepS (gNm i) := fun d e S e' S' h => by
  cases d with
  | bo j c => cases h
  | pu p' => cases h; rfl
  | wr p' => cases h; rfl
  | rf n => cases h; rfl
  | nw c =>
    have h : (if i < e.length then some (e.set i (some (.ow c)), S) else none) = some (e', S') := h
    by_cases hl : i < e.length
    · rw [if_pos hl] at h; cases h; rfl
    · rw [if_neg hl] at h; cases h
theorem keep_nil : KeepSs gnNil := fun d e S e' S' h => by
  cases d with
  | nil => cases h; rfl
  | cons _ _ => cases h
theorem keep_cons {g : Gt} {r : Gts} (hr : KeepSs r) : KeepSs (gnCons g r) := fun d e S e' S' h => by
  cases d with
  | nil => cases h
  | cons d ds =>
    obtain ⟨q, _, h2⟩ := Option.bind_eq_some_iff.mp h
    exact hr _ _ _ _ _ h2
theorem keep_lst {n : Nat} {g : Gts} (hg : KeepSs g) : KeepS (gtLst n g) := fun d e S e' S' h => by
  unfold gtLst at h
  split at h
  · split at h
    · exact hg _ _ _ _ _ h
    · cases h
  · cases h
theorem dns_cons {t : Expr} {ts : List Expr} {g : Gt} {r : Gts} (h1 : DN X G u t g) (k1 : KeepS g) (h2 : DNs X G u ts r) (hs : (assignEach (t :: ts) X.env).map (·.2) = assign t X.env :: (assignEach ts X.env).map (·.2) := by rfl) : DNs X G u (t :: ts) (gnCons g r) :=
  ⟨fun pins s σ H vs us Q I rr hw => (pgs_cons h1 h2 hs).run pins s σ H vs us Q I rr (by
    obtain ⟨e, S, f, ds, r0, p, e', hg, q⟩ := hw
    cases ds with
    | nil => cases hg
    | cons d ds =>
      cases p with
      | cons pd pt =>
        obtain ⟨⟨e1, S1⟩, h4, hg⟩ := Option.bind_eq_some_iff.mp hg
        have es := k1 _ _ _ _ _ h4
        subst es
        exact ⟨_, _, rfl, e, S1, f, d, r0, pd.re, e1, h4, fun σ1 r1 k1 => ⟨e1, S1, f, ds, r1, pt, e', hg, fun σ2 r2 k2 => q σ2 r2 (k1.trans k2)⟩⟩)⟩
theorem dn_tup {es : List Expr} {k : Nat} {g : Gts} {pos : Pos} {n : Nat} (hK : X.K = G.K) (hc : X.calm = true) (h : DNs X G u es g)
    (hn : (assignEach es X.env).length = n := by rfl) (hst : (assignEach es X.env).findIdx? (·.1) = none := by rfl) : DN X G u (.Tuple es k pos) (gtLst n g) :=
  pg_mono (pg_orG (pg_tup hc h hn hst) (pg_unl hc h hn hst)) fun v σ H Q hw => by
    obtain ⟨e, S, f, d, r, p, e', hg, q⟩ := hw
    unfold gtLst at hg
    cases hs : seqD d S with
    | none => rw [hs] at hg; cases hg
    | some kd =>
      obtain ⟨b, ds⟩ := kd
      rw [hs] at hg
      dsimp only at hg
      by_cases c : ds.length = n
      · rw [if_pos c] at hg
        obtain ⟨a, vs, rfl, ht, hl, hp⟩ := seq_ok r p hs
        rw [hK]
        cases b with
        | true => exact .inl ⟨a, vs, rfl, ht rfl, by rw [Paired.length hp]; exact c, e, S, f, ds, r, hp, e', hg, q⟩
        | false => exact .inr ⟨a, vs, rfl, hl rfl, by rw [Paired.length hp]; exact c, e, S, f, ds, r, hp, e', hg, q⟩
      · rw [if_neg c] at hg
        cases hg
theorem dn_dg {t : Expr} {g : Gt} (h : DN X G u t g) (k : KeepS g) : DG X G u t g := pg_mono h fun v σ H Q hw => by
  obtain ⟨e, S, f, d, r, p, e', S', hg, q⟩ := hw
  have es := k _ _ _ _ _ hg
  subst es
  exact ⟨e, S', f, d, r, p, e', hg, fun σ' r' kk => q σ' H f r' (.refl _) kk⟩
end

def wipeE (e : Envi) : List Nat → Envi
  | [] => e
  | v :: vs => (wipeE e vs).set v none
section
variable {G : Gx} {σ : L2.St} {H : Hp} {e : Envi} {S : Sto} {f : Nat → Addr}
/-- a slot emptied -/
theorem R.wipe1 (r : R G σ H e S f) (i : Nat) : R G (σ.set i none) H (e.set i none) S f := by
  have r' := r.drop i
  have nn : ∀ {j : Nat} {s : Sl}, (e.set i none)[j]? = some (some s) → i ≠ j := fun {j s} h z => by
    subst z
    have hl : i < e.length := by have := (List.getElem?_eq_some_iff.mp h).1; rw [List.length_set] at this; exact this
    rw [List.getElem?_set_self hl] at h
    cases h
  exact ⟨by rw [List.length_set, List.length_set]; exact r.ln, fun j d h => by rw [List.getElem?_set_ne (nn h)]; exact r'.val j d h, fun j c h => by rw [List.getElem?_set_ne (nn h)]; exact r'.own j c h,
    fun j k c c' a hjk h1 h2 h3 => by
      rw [List.getElem?_set_ne (nn h1)] at h3
      rw [List.getElem?_set_ne (nn h2)]
      exact r'.sep j k c c' a hjk h1 h2 h3, r.cel, r.inj, r.frm, r.new, r.old, r.le, r.ext⟩
theorem R.wipe (r : R G σ H e S f) : ∀ vs : List Nat, R G (L2.wipe σ vs) H (wipeE e vs) S f
  | [] => r
  | v :: vs => (R.wipe r vs).wipe1 v
theorem wipe_get {σ : L2.St} {j : Nat} : ∀ {vs : List Nat}, j ∉ vs → (L2.wipe σ vs)[j]? = σ[j]?
  | [], _ => rfl
  | v :: vs, h => by
    show ((L2.wipe σ vs).set v none)[j]? = _
    rw [List.getElem?_set_ne (fun z => h (by rw [z]; exact List.mem_cons_self)), wipe_get fun z => h (List.mem_cons_of_mem _ z)]
theorem wipe_in {σ : L2.St} {j : Nat} (hj : j < σ.length) : ∀ {vs : List Nat}, j ∈ vs → (L2.wipe σ vs)[j]? = some none
  | v :: vs, h => by
    show ((L2.wipe σ vs).set v none)[j]? = _
    by_cases e : v = j
    · subst e
      exact List.getElem?_set_self (by rw [wipe_length]; exact hj)
    · rw [List.getElem?_set_ne e]
      exact wipe_in hj ((List.mem_cons.mp h).resolve_left (Ne.symm e))
theorem wipe_same {σ σ' : L2.St} {vs : List Nat} (k : Kept (fun i => vs.contains i) (L2.wipe σ vs) σ') : L2.wipe σ' vs = L2.wipe σ vs := by
  apply List.ext_getElem?
  intro j
  have hl : σ'.length = σ.length := k.1.trans (wipe_length _ _)
  by_cases h : j ∈ vs
  · by_cases hj : j < σ.length
    · rw [wipe_in (by rw [hl]; exact hj) h, wipe_in hj h]
    · rw [List.getElem?_eq_none (by rw [wipe_length, hl]; omega), List.getElem?_eq_none (by rw [wipe_length]; omega)]
  · rw [wipe_get h]
    exact k.2 j (by simpa using h)
/-- the new list grows: it is no cell -/
theorem Cells.other (c : Cells G H f S) {a : Addr} {o o' : HO} (h : H a = some o) (mu : Mut (some o)) (hn : ∀ n, n < S.length → f n ≠ a) : Cells G (upd H a o') f S :=
  ⟨fun n k hk => MCok.ext (raw_ext h mu) (fun o z => by rw [upd_ne (hn n (List.getElem?_eq_some_iff.mp hk).1)]; exact z) (c.cel n k hk), c.inj⟩
theorem Nx.grown {H H1 : Hp} {f f1 : Nat → Addr} {L L1 : Nat} {a : Addr} {o' : HO} (x : Nx H H1 f f1 L L1) (h : H a = none) : Nx H (upd H1 a o') f f1 L L1 where
  ext := ⟨fun b xs z => by rw [upd_ne (ne_of_none z h)]; exact x.ext.tups b xs z, fun b o u z => by rw [upd_ne (ne_of_none z h)]; exact x.ext.frzs b o u z⟩
  ag := x.ag
  le := x.le
  oth := fun b o z hn => by rw [upd_ne (ne_of_none z h)]; exact x.oth b o z hn
  fr := x.fr
  th := fun b o z => by rw [upd_ne (ne_of_none z h)]; exact x.th b o z
end

/-- the items kept, each by its element: data -/
def compD (g : Gt) (t : Tx) (x : Ex) (e : Envi) : List D → Sto → List P → Option (List P × Sto)
  | [], S, acc => some (acc, S)
  | d :: ds, S, acc => (g d e S).bind fun q => (t q.1 q.2).bind fun b => if b.1 then (x q.1 b.2).bind fun r => match r.1 with
      | .pu p => if acc.length < lim then compD g t x e ds r.2 (acc ++ [p]) else none
      | _ => none
    else compD g t x e ds b.2 acc
def tYesX : Tx := fun _ S => some (true, S)
abbrev DTs (X : Cx) (G : Gx) (ifs : List Expr) (t : Tx) : Prop := PTs X ifs (tTx G t)
theorem dts_nil {X : Cx} {G : Gx} : DTs X G [] tYesX := ⟨fun pins s σ H Q I hw => pts_nil.run pins s σ H Q I (by
  obtain ⟨e, S, f, r, b, S', hx, q⟩ := hw
  cases hx
  exact q H f r (.refl _ _ _))⟩
theorem dts_one {X : Cx} {G : Gx} {c : Expr} {t : Tx} (h : DT X G c t) : DTs X G [c] t := pts_one h
section
variable {X : Cx} {G : Gx}
/-- the loop of a comprehension -/
theorem comp_ok {g : Gt} (kg : KeepS g) {t : Tx} {x : Ex} {vs : List Nat} {J : It} {σ : L2.St} {H1 : Hp} {e : Envi} {S1 S' : Sto} {f1 : Nat → Addr} {ds : List D} {ps : List P} (r1 : R G σ H1 e S1 f1) (wk : Walk G.K J H1 ds)
    (hx : compD g t x (wipeE e vs) ds S1 [] = some (ps, S')) {Dl : Addr} (nD : H1 Dl = none) (Q : Hp → Prop)
    (hq : ∀ H f us, H Dl = some (.lst us) → RepL H us ps → Nx H1 H f1 f S1.length S'.length → Cells G H f S' → (∀ n, n < S'.length → f n ≠ Dl) → Q H) :
    ∃ W : Nat → Nat → Hp → Prop, (∃ m, W 0 m (upd H1 Dl (.lst []))) ∧ ∀ i m H, W i m H →
      (J.stop i H ∧ Q H) ∨ (J.go i H ∧ ∃ N : Hp → Prop, (∀ H', N H' → ∃ m', m' < m ∧ W (i + 1) m' H') ∧ ∀ v H', J.yld i H v H' → tGn G (fun i => vs.contains i) g v (L2.wipe σ vs) H' fun σ2 H2 => L2.wipe σ2 vs = L2.wipe σ vs ∧ tTx G t σ2 H2 fun b H3 =>
        if b = true then tE G x σ2 H3 fun y H4 => ∃ acc, H4 Dl = some (.lst acc) ∧ acc.length < sizeLine ∧ N (upd H4 Dl (.lst (acc ++ [y]))) else N H3) := by
  have c0 : ∀ n, n < S1.length → f1 n ≠ Dl := fun n hn z => by
    obtain ⟨o, ho, _⟩ := r1.cell_at hn
    rw [z, nD] at ho
    cases ho
  have x0 := Nx.of (upd_new (o := .lst []) nD) f1 S1.length
  refine ⟨fun i m H => m = ds.length - i ∧ i ≤ ds.length ∧ ∃ S f us acc, Nx H1 H f1 f S1.length S.length ∧ Cells G H f S ∧ (∀ n, n < S.length → f n ≠ Dl) ∧ H Dl = some (.lst us) ∧ RepL H us acc ∧ compD g t x (wipeE e vs) (ds.drop i) S acc = some (ps, S'),
    ⟨ds.length, rfl, Nat.zero_le _, S1, f1, [], [], x0, r1.cells.nx (upd_new nD), c0, upd_same, .nil, hx⟩, fun i m H hW => ?_⟩
  obtain ⟨rfl, hi, S, f, us, acc, nx1, cel1, nd1, hD, ra, hf⟩ := hW
  by_cases hlt : i < ds.length
  · have hd : ds[i]? = some ds[i] := List.getElem?_eq_getElem hlt
    rw [List.drop_eq_getElem_cons hlt] at hf
    obtain ⟨⟨e2, S2⟩, hg, hf⟩ := Option.bind_eq_some_iff.mp hf
    obtain ⟨⟨b, S3⟩, ht, hf⟩ := Option.bind_eq_some_iff.mp hf
    refine .inr ⟨wk.go H i _ nx1.ext hd, fun H' => ds.length - (i + 1) = ds.length - (i + 1) ∧ i + 1 ≤ ds.length ∧ ∃ S f us acc, Nx H1 H' f1 f S1.length S.length ∧ Cells G H' f S ∧ (∀ n, n < S.length → f n ≠ Dl) ∧ H' Dl = some (.lst us) ∧ RepL H' us acc ∧ compD g t x (wipeE e vs) (ds.drop (i + 1)) S acc = some (ps, S'),
      fun H' hN => ⟨_, by omega, hN⟩, fun v H2 hy => ?_⟩
    obtain ⟨s2, p2⟩ := wk.yld H i _ v H2 nx1.ext hd hy
    have nx2 := nx1.trans (.of s2 f S.length)
    have rw2 : R G (L2.wipe σ vs) H2 (wipeE e vs) S f := (r1.nx nx2 (cel1.nx s2)).wipe vs
    have es := kg _ _ _ _ _ hg
    subst es
    refine ⟨_, S2, f, _, rw2, (rd_any p2).re, e2, hg, fun σ3 r3 k3 => ⟨wipe_same k3, e2, S2, f, r3, b, S3, ht, fun H4 f4 r4 n4 => ?_⟩⟩
    have hD2 : H2 Dl = some (.lst us) := s2 _ _ hD
    have hD4 : H4 Dl = some (.lst us) := n4.oth _ _ hD2 nd1
    have nx4 := nx2.trans n4
    have nd4 : ∀ n, n < S3.length → f4 n ≠ Dl := fun n hn z => by
      by_cases hL : n < S2.length
      · exact nd1 n hL ((n4.ag n hL).symm.trans z)
      · have q := n4.fr n (Nat.le_of_not_lt hL) hn
        rw [z, hD2] at q
        cases q
    have ra4 : RepL H4 us acc := RepL.ext ((Ext0.of s2).trans n4.ext) ra
    cases b with
    | false =>
      rw [if_neg Bool.false_ne_true] at hf
      refine iteF ?_
      exact ⟨rfl, hlt, S3, f4, us, acc, nx4, r4.cells, nd4, hD4, ra4, hf⟩
    | true =>
      rw [if_pos rfl] at hf
      refine iteT ?_
      obtain ⟨⟨d5, S5⟩, hx5, hf⟩ := Option.bind_eq_some_iff.mp hf
      match d5, hf with
      | .pu p, hf =>
        dsimp only at hf
        by_cases c : acc.length < lim
        · rw [if_pos c] at hf
          refine ⟨e2, S3, f4, r4, _, S5, hx5, fun y H5 f5 r5 n5 p5 => ?_⟩
          have hD5 : H5 Dl = some (.lst us) := n5.oth _ _ hD4 nd4
          have nd5 : ∀ n, n < S5.length → f5 n ≠ Dl := fun n hn z => by
            by_cases hL : n < S3.length
            · exact nd4 n hL ((n5.ag n hL).symm.trans z)
            · have q := n5.fr n (Nat.le_of_not_lt hL) hn
              rw [z, hD4] at q
              cases q
          refine ⟨us, hD5, by rw [ra4.length, ← lim_eq]; exact c, rfl, hlt, S5, f5, us ++ [y], acc ++ [p], (nx4.trans n5).grown nD, r5.cells.other hD5 trivial nd5, nd5, upd_same, ?_, hf⟩
          have xg := raw_ext (o' := .lst (us ++ [y])) hD5 trivial
          exact RepL.ext xg (RepL.append (RepL.ext n5.ext ra4) (.cons p5 .nil))
        · rw [if_neg c] at hf
          cases hf
  · have e3 : i = ds.length := by omega
    subst e3
    rw [List.drop_length] at hf
    cases hf
    exact .inl ⟨wk.stop H nx1.ext, hq H f us hD ra nx1 cel1 nd1⟩
def xLc (it : Ix) (g : Gt) (t : Tx) (x : Ex) (vs : List Nat) : Ex := fun e S => (it e S).bind fun r => (compD g t x (wipeE e vs) r.1 r.2 []).bind fun q => some (.pu (.list q.1), q.2)
theorem d_lc {elt tg iter : Expr} {ifs : List Expr} {scope : Scope} {own : List (Str × Nat)} {pos : Pos} {it : Ix} {g : Gt} {t : Tx} {x : Ex} (kg : KeepS g) (hc : X.calm = true) (hN : X.N.Nodup) (hi : DI X G tg iter it) (ok : BlkOk X.N X.env.scope scope own)
    (hg : ∀ (s : Shared) (H : Hp) (C : Addr) (cl : List (Str × Addr)) (fp : List Addr), DN (X.blk s H scope (compEnvC scope cl C X.env) fp) G (fun i => (own.map (·.2)).contains i) tg g) (ht : ∀ (s : Shared) (H : Hp) (C : Addr) (cl : List (Str × Addr)) (fp : List Addr), DTs (X.blk s H scope (compEnvC scope cl C X.env) fp) G ifs t)
    (he : ∀ (s : Shared) (H : Hp) (C : Addr) (cl : List (Str × Addr)) (fp : List Addr), DE (X.blk s H scope (compEnvC scope cl C X.env) fp) G elt x) (hs : ∀ x, foldedSetIterable iter X.env x = pure x := by intro _; rfl) :
    DE X G (.ListComp elt [⟨tg, iter, ifs, 0⟩] scope pos) (xLc it g t x (own.map (·.2))) := by
  refine pe_mono (pe_gh (pe_lc hc hN hi ok hg ht he hs)) fun σ H Q hw => ?_
  obtain ⟨e, S, f, r, d, S', hx, q⟩ := hw
  obtain ⟨⟨ds, S1⟩, h1, hx⟩ := Option.bind_eq_some_iff.mp hx
  obtain ⟨⟨ps, S2⟩, h2, hx⟩ := Option.bind_eq_some_iff.mp hx
  cases hx
  refine ⟨e, S, f, r, ds, S1, h1, fun J H1 f1 r1 n1 wk Dl nD => ?_⟩
  refine comp_ok kg r1 wk h2 nD (fun H => GQ Q (.ref Dl) H) fun H2 f2 us hD ra nx2 c2 nd2 => ?_
  have mu : Mut (some (.lst us)) := trivial
  refine .inr ⟨Dl, .lst us, rfl, hD, mu, fun od => ?_⟩
  have nx3 := nx2.grown (a := Dl) (o' := .frz od (.lst us)) nD
  exact q _ _ f2 (r1.nx nx3 (c2.other hD mu nd2)) (n1.trans nx3) (.lst ⟨od, upd_same⟩ (RepL.ext (raw_ext hD mu) ra))
/-- name = [..]: the name's own list -/
def sSetLc (i : Nat) (it : Ix) (g : Gt) (t : Tx) (x : Ex) (vs : List Nat) : Sx := fun e S => (it e S).bind fun r => (compD g t x (wipeE e vs) r.1 r.2 []).bind fun q => some (.nx (e.set i (some (.ow (.lst q.1)))) q.2)
theorem ds_setLc {i : Nat} {y : Str} {py : Pos} {elt tg iter : Expr} {ifs : List Expr} {scope : Scope} {own : List (Str × Nat)} {pos spos : Pos} {it : Ix} {g : Gt} {t : Tx} {x : Ex} (kg : KeepS g) (hc : X.calm = true) (hN : X.N.Nodup) (hy : X.N[i]? = some y) (hyl : X.env.scope.names.lookup y = some .local)
    (hsw : swapsWith (.ListComp elt [⟨tg, iter, ifs, 0⟩] scope pos) (some (.Name y py)) spos.line X.env = pure true) (hi : DI X G tg iter it) (ok : BlkOk X.N X.env.scope scope own)
    (hg : ∀ (s : Shared) (H : Hp) (C : Addr) (cl : List (Str × Addr)) (fp : List Addr), DN (X.blk s H scope (compEnvC scope cl C X.env) fp) G (fun i => (own.map (·.2)).contains i) tg g) (ht : ∀ (s : Shared) (H : Hp) (C : Addr) (cl : List (Str × Addr)) (fp : List Addr), DTs (X.blk s H scope (compEnvC scope cl C X.env) fp) G ifs t)
    (he : ∀ (s : Shared) (H : Hp) (C : Addr) (cl : List (Str × Addr)) (fp : List Addr), DE (X.blk s H scope (compEnvC scope cl C X.env) fp) G elt x) (hs : ∀ x, foldedSetIterable iter X.env x = pure x := by intro _; rfl) :
    DS X G (.Assign [.Name y py] (.ListComp elt [⟨tg, iter, ifs, 0⟩] scope pos) spos) (sSetLc i it g t x (own.map (·.2))) :=
  ⟨fun pins s σ H T I hw => (ps_setLc hc hN hy hyl hsw hi ok hg ht he hs).run pins s σ H T I (by
    have hil : i < σ.length := by rw [I.len]; exact (List.getElem?_eq_some_iff.mp hy).1
    obtain ⟨e, S, f, r, o, hx, q⟩ := hw
    obtain ⟨⟨ds, S1⟩, h1, hx⟩ := Option.bind_eq_some_iff.mp hx
    obtain ⟨⟨ps, S2⟩, h2, hx⟩ := Option.bind_eq_some_iff.mp hx
    cases hx
    refine ⟨e, S, f, r, ds, S1, h1, fun J H1 f1 r1 n1 wk Dl nD => ?_⟩
    refine comp_ok kg r1 wk h2 nD (fun H => gName i (.ref Dl) σ H T.nx) fun H2 f2 us hD ra nx2 c2 nd2 => ?_
    have r2 := r1.nx nx2 c2
    refine q _ H2 f2 (r2.adopt hil ⟨us, hD, ra⟩ (r1.free0 nD) nd2 fun j c b hj hb z => ?_) (n1.trans nx2).ext
    obtain ⟨b', q1, q2, _⟩ := r1.own j c hj
    rw [hb] at q1
    cases q1
    obtain ⟨u, hu, _⟩ := q2.raw
    rw [z, nD] at hu
    cases hu)⟩
end
end DL
/-! DL9: dicts: look up. -/
namespace DL
open PySem PySem.Spec PyProof.Rows L2
def flatK : P → Option Key
  | .int i => some (.inl i)
  | .str x => some (.inr x)
  | _ => none
theorem flatK_eq : ∀ {p : P} {k : Key}, flatK p = some k → p = keyP k
  | .int i, _, h => by cases h; rfl
  | .str x, _, h => by cases h; rfl
def flatKs : List P → Option (List Key)
  | [] => some []
  | p :: r => (flatK p).bind fun k => (flatKs r).bind fun ks => some (k :: ks)
theorem flatKs_eq : ∀ {ps : List P} {ks : List Key}, flatKs ps = some ks → ps = ks.map keyP
  | [], _, h => by cases h; rfl
  | p :: r, ks, h => by
    obtain ⟨k, h1, h⟩ := Option.bind_eq_some_iff.mp h
    obtain ⟨js, h2, h⟩ := Option.bind_eq_some_iff.mp h
    cases h
    rw [flatK_eq h1, flatKs_eq h2]
    rfl
theorem rep_key {H : Hp} {v : V} : ∀ {k : Key}, Rep H v (keyP k) → v = kV k
  | .inl i, h => by cases (show Rep H v (.int i) from h); rfl
  | .inr x, h => by cases (show Rep H v (.str x) from h); rfl
theorem rep_keys {H : Hp} : ∀ {vs : List V} {ks : List Key}, RepL H vs (ks.map keyP) → vs = ks.map kV
  | _, [], .nil => rfl
  | _, k :: ks, .cons h t => by rw [rep_key h, rep_keys t]; rfl
theorem eqv_key (a b : Key) : PyData.eqv (keyP a) (keyP b) = decide (a = b) := by
  cases a with
  | inl i => cases b with
    | inl j => rw [key_ll]; simp [keyP, PyData.eqv]
    | inr y => rw [key_lr]; simp [keyP, PyData.eqv]
  | inr x => cases b with
    | inl j => rw [key_rl]; simp [keyP, PyData.eqv]
    | inr y => rw [key_rr, ← Bool.beq_eq_decide_eq]; simp [keyP, PyData.eqv]
theorem eqv_keys : ∀ (as bs : List Key), PyData.eqvAll (as.map keyP) (bs.map keyP) = decide (as = bs)
  | [], [] => by simp [PyData.eqvAll]
  | [], b :: bs => by simp [PyData.eqvAll]
  | a :: as, [] => by simp [PyData.eqvAll]
  | a :: as, b :: bs => by
    show PyData.eqvAll (keyP a :: as.map keyP) (keyP b :: bs.map keyP) = _
    rw [PyData.eqvAll, eqv_key, eqv_keys as bs]
    by_cases h1 : a = b
    · by_cases h2 : as = bs
      · simp [h1, h2]
      · simp [h1, h2]
    · simp [h1]
theorem eqv_tkeys (as bs : List Key) : PyData.eqv (.tuple (as.map keyP)) (.tuple (bs.map keyP)) = decide (as = bs) := by
  rw [PyData.eqv, eqv_keys]
theorem eqv_kt (a : Key) (bs : List P) : PyData.eqv (keyP a) (.tuple bs) = false ∧ PyData.eqv (.tuple bs) (keyP a) = false := by
  cases a <;> simp [keyP, PyData.eqv]
def dlook {α : Type} (ps : List (P × α)) (p : P) : Option α := (ps.find? fun q => PyData.eqv q.1 p).map (·.2)
theorem dlook_cons {α : Type} {q : P × α} {ps : List (P × α)} {p : P} : dlook (q :: ps) p = if PyData.eqv q.1 p = true then some q.2 else dlook ps p := by
  unfold dlook
  rw [List.find?_cons]
  cases PyData.eqv q.1 p <;> rfl
def KP {α : Type} (F : V → α → Prop) (kvs : List (Key × V)) (ps : List (P × α)) : Prop := Paired (fun (kv : Key × V) (q : P × α) => q.1 = keyP kv.1 ∧ F kv.2 q.2) kvs ps
def TP' {α : Type} (F : V → α → Prop) (kvs : List (List Key × V)) (ps : List (P × α)) : Prop := Paired (fun (kv : List Key × V) (q : P × α) => q.1 = .tuple (kv.1.map keyP) ∧ F kv.2 q.2) kvs ps
theorem KP.of {α : Type} {F : V → α → Prop} : ∀ {kvs : List (Key × V)} {ps : List (P × α)}, Paired F ((qK kvs).map (·.2)) (ps.map (·.2)) → (qK kvs).map (·.1) = ps.map (·.1) → KP F kvs ps
  | [], [], _, _ => .nil
  | [], _ :: _, h, _ => by cases h
  | _ :: _, [], h, _ => by cases h
  | kv :: kvs, q :: ps, .cons h t, e => by
    injection e with e1 e2
    exact .cons ⟨e1.symm, h⟩ (KP.of t e2)
theorem TP'.of {α : Type} {F : V → α → Prop} : ∀ {kvs : List (List Key × V)} {ps : List (P × α)}, Paired F ((qT kvs).map (·.2)) (ps.map (·.2)) → (qT kvs).map (·.1) = ps.map (·.1) → TP' F kvs ps
  | [], [], _, _ => .nil
  | [], _ :: _, h, _ => by cases h
  | _ :: _, [], h, _ => by cases h
  | kv :: kvs, q :: ps, .cons h t, e => by
    injection e with e1 e2
    exact .cons ⟨e1.symm, h⟩ (TP'.of t e2)
theorem KP.to {α : Type} {F : V → α → Prop} : ∀ {kvs : List (Key × V)} {ps : List (P × α)}, KP F kvs ps → Paired F ((qK kvs).map (·.2)) (ps.map (·.2)) ∧ (qK kvs).map (·.1) = ps.map (·.1)
  | [], [], .nil => ⟨.nil, rfl⟩
  | kv :: kvs, q :: ps, .cons h t => ⟨.cons h.2 (KP.to t).1, by show keyP kv.1 :: (qK kvs).map (·.1) = q.1 :: ps.map (·.1); rw [h.1, (KP.to t).2]⟩
theorem TP'.to {α : Type} {F : V → α → Prop} : ∀ {kvs : List (List Key × V)} {ps : List (P × α)}, TP' F kvs ps → Paired F ((qT kvs).map (·.2)) (ps.map (·.2)) ∧ (qT kvs).map (·.1) = ps.map (·.1)
  | [], [], .nil => ⟨.nil, rfl⟩
  | kv :: kvs, q :: ps, .cons h t => ⟨.cons h.2 (TP'.to t).1, by show PyData.tuple (kv.1.map keyP) :: (qT kvs).map (·.1) = q.1 :: ps.map (·.1); rw [h.1, (TP'.to t).2]⟩
theorem KP.look {α : Type} {F : V → α → Prop} {k : Key} : ∀ {kvs : List (Key × V)} {ps : List (P × α)}, KP F kvs ps → (∀ d, dlook ps (keyP k) = some d → ∃ v, valV kvs k = some v ∧ F v d) ∧ (dlook ps (keyP k) = none → valV kvs k = none)
  | [], [], .nil => ⟨fun d h => (by cases h), fun _ => rfl⟩
  | kv :: kvs, q :: ps, .cons h t => by
    rw [dlook_cons, h.1, eqv_key]
    by_cases e : kv.1 = k
    · rw [if_pos (decide_eq_true e), valV_pos e]
      exact ⟨fun d hd => by cases hd; exact ⟨_, rfl, h.2⟩, fun hd => by cases hd⟩
    · rw [if_neg (by simpa using e), valV_neg e]
      exact KP.look t
theorem TP'.look {α : Type} {F : V → α → Prop} {k : List Key} : ∀ {kvs : List (List Key × V)} {ps : List (P × α)}, TP' F kvs ps → (∀ d, dlook ps (.tuple (k.map keyP)) = some d → ∃ v, valV kvs k = some v ∧ F v d) ∧ (dlook ps (.tuple (k.map keyP)) = none → valV kvs k = none)
  | [], [], .nil => ⟨fun d h => (by cases h), fun _ => rfl⟩
  | kv :: kvs, q :: ps, .cons h t => by
    rw [dlook_cons, h.1, eqv_tkeys]
    by_cases e : kv.1 = k
    · rw [if_pos (decide_eq_true e), valV_pos e]
      exact ⟨fun d hd => by cases hd; exact ⟨_, rfl, h.2⟩, fun hd => by cases hd⟩
    · rw [if_neg (by simpa using e), valV_neg e]
      exact TP'.look t
theorem KP.no {α : Type} {F : V → α → Prop} {xs : List P} : ∀ {kvs : List (Key × V)} {ps : List (P × α)}, KP F kvs ps → dlook ps (.tuple xs) = none
  | [], [], .nil => rfl
  | kv :: kvs, q :: ps, .cons h t => by
    rw [dlook_cons, h.1, if_neg (by rw [(eqv_kt _ _).1]; decide)]
    exact KP.no t
theorem TP'.no {α : Type} {F : V → α → Prop} {k : Key} : ∀ {kvs : List (List Key × V)} {ps : List (P × α)}, TP' F kvs ps → dlook ps (keyP k) = none
  | [], [], .nil => rfl
  | kv :: kvs, q :: ps, .cons h t => by
    rw [dlook_cons, h.1, if_neg (by rw [(eqv_kt _ _).2]; decide)]
    exact TP'.no t
def dicD : D → Sto → Option (List (P × D))
  | .pu (.dict ps), _ => some (ps.map fun q => (q.1, .pu q.2))
  | .bo _ (.dct ps), _ => some (ps.map fun q => (q.1, .pu q.2))
  | .nw (.dct ps), _ => some (ps.map fun q => (q.1, .pu q.2))
  | .rf n, S => match S[n]? with | some (.dct ps) => some ps | _ => none
  | _, _ => none
section
variable {X : Cx} {G : Gx} {σ : L2.St} {H : Hp} {e : Envi} {S : Sto} {f : Nat → Addr}
theorem reps_rd' {L : Nat} : ∀ {vs : List V} {ps : List (P × P)}, RepL H vs (ps.map (·.2)) → Paired (RD G.K H f L) vs ((ps.map fun q => (q.1, D.pu q.2)).map (·.2))
  | _, [], .nil => .nil
  | _, _ :: _, .cons h t => .cons h (reps_rd' t)
theorem keys_pu : ∀ ps : List (P × P), (ps.map fun q => (q.1, D.pu q.2)).map (·.1) = ps.map (·.1)
  | [] => rfl
  | q :: ps => congrArg (q.1 :: ·) (keys_pu ps)
theorem dic_ok (r : R G σ H e S f) {v : V} {d : D} {ps : List (P × D)} (h : RE G σ H e f S.length v d) (hs : dicD d S = some ps) : ∃ a, v = .ref a ∧ ((∃ kvs, Rd H a (.dK kvs) ∧ KP (RD G.K H f S.length) kvs ps) ∨ ∃ kvs, Rd H a (.dT kvs) ∧ TP' (RD G.K H f S.length) kvs ps) := by
  cases d with
  | pu p =>
    cases p with
    | dict xs =>
      cases hs
      cases (show Rep H v (.dict xs) from h) with
      | dct h1 h2 h3 h4 h5 =>
        subst h2 h3
        rcases h1 with ⟨o, kvs, h1, z⟩ | ⟨o, kvs, h1, z⟩
        · subst z
          exact ⟨_, rfl, .inl ⟨kvs, .inr ⟨o, h1⟩, KP.of (reps_rd' (G := G) h4) (by rw [keys_pu]; exact h5)⟩⟩
        · subst z
          exact ⟨_, rfl, .inr ⟨kvs, .inr ⟨o, h1⟩, TP'.of (reps_rd' (G := G) h4) (by rw [keys_pu]; exact h5)⟩⟩
    | _ => cases hs
  | wr p => cases hs
  | rf n =>
    obtain ⟨e1, l⟩ := (show v = .ref (f n) ∧ n < S.length from h)
    subst e1
    unfold dicD at hs
    dsimp only at hs
    cases hc : S[n]? with
    | none => rw [hc] at hs; cases hs
    | some c =>
      rw [hc] at hs
      cases c with
      | dct ps' =>
        cases hs
        obtain ⟨qs, h1, h2, h3⟩ := r.cel n _ hc
        rcases h1 with ⟨kvs, h1, z⟩ | ⟨kvs, h1, z⟩
        · subst z
          exact ⟨_, rfl, .inl ⟨kvs, .inl h1, KP.of h2 h3⟩⟩
        · subst z
          exact ⟨_, rfl, .inr ⟨kvs, .inl h1, TP'.of h2 h3⟩⟩
      | _ => cases hs
  | bo i c =>
    cases c with
    | lst _ => cases hs
    | dct xs =>
      cases hs
      obtain ⟨h1, h2⟩ := (show σ[i]? = some (some v) ∧ e[i]? = some (some (.ow (.dct xs))) from h)
      obtain ⟨a, h3, ⟨qs, h4, h5, h6⟩, _⟩ := r.own i _ h2
      rw [h1] at h3
      cases h3
      rcases h4 with ⟨kvs, h4, z⟩ | ⟨kvs, h4, z⟩
      · subst z
        exact ⟨_, rfl, .inl ⟨kvs, .inl h4, KP.of (reps_rd' (G := G) h5) (by rw [keys_pu]; exact h6)⟩⟩
      · subst z
        exact ⟨_, rfl, .inr ⟨kvs, .inl h4, TP'.of (reps_rd' (G := G) h5) (by rw [keys_pu]; exact h6)⟩⟩
  | nw c =>
    obtain ⟨a, e1, h4, _⟩ := (show ∃ a, v = .ref a ∧ OCok H a c ∧ _ from h)
    cases c with
    | lst _ => cases hs
    | dct xs =>
      cases hs
      obtain ⟨qs, h4, h5, h6⟩ := h4
      rcases h4 with ⟨kvs, h4, z⟩ | ⟨kvs, h4, z⟩
      · subst z
        exact ⟨_, e1, .inl ⟨kvs, .inl h4, KP.of (reps_rd' (G := G) h5) (by rw [keys_pu]; exact h6)⟩⟩
      · subst z
        exact ⟨_, e1, .inr ⟨kvs, .inl h4, TP'.of (reps_rd' (G := G) h5) (by rw [keys_pu]; exact h6)⟩⟩
def keyD : P → Option (Key ⊕ List Key)
  | .tuple xs => (flatKs xs).bind fun ks => some (.inr ks)
  | p => (flatK p).bind fun k => some (.inl k)
theorem key_cases : ∀ {p : P} {q : Key ⊕ List Key}, keyD p = some q → (∃ k, p = keyP k ∧ q = .inl k) ∨ ∃ ks, p = .tuple (ks.map keyP) ∧ q = .inr ks
  | .tuple xs, q, h => by
    obtain ⟨ks, h1, h⟩ := Option.bind_eq_some_iff.mp (show (flatKs xs).bind _ = _ from h)
    cases h
    exact .inr ⟨ks, by rw [flatKs_eq h1], rfl⟩
  | .int i, q, h => by cases h; exact .inl ⟨.inl i, rfl, rfl⟩
  | .str x, q, h => by cases h; exact .inl ⟨.inr x, rfl, rfl⟩
  | .none, _, h => by cases h
  | .bool _, _, h => by cases h
  | .list _, _, h => by cases h
  | .dict _, _, h => by cases h
def gGet : D → D → Sto → Option (D × Sto) := fun d i S => match dicD d S, i with
  | some ps, .pu p => (keyD p).bind fun _ => (dlook ps p).bind fun z => some (z, S)
  | _, _ => gIx d i S
end
end DL
/-! DLA: dicts: look up, stores. -/
namespace DL
open PySem PySem.Spec PyProof.Rows L2
section
variable {X : Cx} {G : Gx} {σ : L2.St} {H : Hp} {e : Envi} {S : Sto} {f : Nat → Addr}
theorem d_get {a b : Expr} {xa xb : Ex} {pos : Pos} (hK : X.K = G.K) (hu : X.A.units + 1 < cLine) (ha : DE X G a xa) (hb : DE X G b xb) (hs : PlainIx b) (hs2 : NoSl b) : DE X G (.Subscript a b pos) (x2 gGet xa xb) := by
  have h1 : PE X (.Subscript a b pos) _ := pe_gh (pe_ix ix_seq ha hb hs)
  have h2 := pe_dget (pos := pos) hu ha hb hs2
  refine ⟨fun pins s σ H Q I hw => ?_⟩
  obtain ⟨e, S, f, r, d, S', hx, q⟩ := hw
  obtain ⟨⟨d1, S1⟩, e1, hx⟩ := Option.bind_eq_some_iff.mp hx
  obtain ⟨⟨d2, S2⟩, e2, hx⟩ := Option.bind_eq_some_iff.mp hx
  have seq : gIx d1 d2 S2 = some (d, S') → wpAny (model X.prog X.w) X.A (eval (.Subscript a b pos) X.env) (fun v s' => ∃ x H', Inv X pins σ H' s' ∧ RelV x v ∧ Q x H') X.xe s := fun hg =>
    h1.run pins s σ H Q I (tE.b2 (v_ix hK) σ H Q ⟨e, S, f, r, d, S', by show (xa e S).bind _ = _; rw [e1]; show (xb e S1).bind _ = _; rw [show xb e S1 = some (d2, S2) from e2]; exact hg, q⟩)
  unfold gGet at hx
  dsimp only at hx
  cases hd : dicD d1 S2 with
  | none => rw [hd] at hx; exact seq hx
  | some ps =>
    rw [hd] at hx
    cases d2 with
    | pu p =>
      obtain ⟨ky, hk, hx⟩ := Option.bind_eq_some_iff.mp hx
      obtain ⟨z, hz, hx⟩ := Option.bind_eq_some_iff.mp hx
      cases hx
      refine h2.run pins s σ H Q I ⟨e, S, f, r, d1, S1, e1, fun v1 H1 f1 r1 n1 p1 => ⟨e, S1, f1, r1, _, _, e2, fun v2 H2 f2 r2 n2 p2 => ?_⟩⟩
      obtain ⟨a, ea, hc⟩ := dic_ok r2 (p1.nx n2) hd
      have rp : Rep H2 v2 p := p2
      rcases key_cases hk with ⟨k, ep, _⟩ | ⟨ks, ep, _⟩
      · subst ep
        rcases hc with ⟨kvs, hr, kp⟩ | ⟨kvs, hr, kp⟩
        · obtain ⟨v, hv, hF⟩ := kp.look.1 _ hz
          exact ⟨a, v, ea, .inl ⟨kvs, k, hr, rep_key rp, hv.symm⟩, q v H2 f2 r2 (n1.trans n2) hF.re⟩
        · rw [kp.no] at hz
          cases hz
      · subst ep
        rcases hc with ⟨kvs, hr, kp⟩ | ⟨kvs, hr, kp⟩
        · rw [kp.no] at hz
          cases hz
        · obtain ⟨v, hv, hF⟩ := kp.look.1 _ hz
          cases rp with
          | tup h3 h4 =>
            have e5 := rep_keys h4
            subst e5
            exact ⟨a, v, ea, .inr ⟨kvs, ks, _, hr, rfl, h3, hv.symm⟩, q v H2 f2 r2 (n1.trans n2) hF.re⟩
    | wr p => exact seq hx
    | rf n => exact seq hx
    | bo i c => exact seq hx
    | nw c => exact seq hx

/-! ### stores -/
theorem kt_empty {P : Program} {w : World} {H H' : Hp} {h : Heap} {a : Addr} (k : ObjOk P w H h a (.dK [])) : ObjOk P w H' h a (.dT []) := by
  obtain ⟨z, hd, vs, r, o, es, ep, h1, h2, h3, h4, h5, h6⟩ := k
  cases r
  have e0 : es.toList = [] := by
    generalize es.toList = l at h5
    cases h5
    rfl
  exact ⟨z, hd, [], .nil, o, es, ep, h1, h2, h3, e0, List.nodup_nil⟩
theorem tk_empty {P : Program} {w : World} {H H' : Hp} {h : Heap} {a : Addr} (k : ObjOk P w H h a (.dT [])) : ObjOk P w H' h a (.dK []) := by
  obtain ⟨z, hd, xs, r, o, es, ep, h1, h2, h3, h4, h5⟩ := k
  cases r
  have e0 : es = #[] := Array.toList_eq_nil_iff.mp h4
  subst e0
  exact ⟨z, hd, [], .nil, o, #[], ep, h1, h2, h3, (fun e he => by simp at he), .nil, List.nodup_nil⟩
/-- an empty dict is of either kind -/
def Kin (H : Hp) (a : Addr) (H1 : Hp) : Prop := H1 = H ∨ (H a = some (.dT []) ∧ H1 = upd H a (.dK [])) ∨ (H a = some (.dK []) ∧ H1 = upd H a (.dT []))
theorem Kin.inv {pins : List (Addr × Obj)} {s : Shared} {a : Addr} {H1 : Hp} (I : Inv X pins σ H s) (k : Kin H a H1) : Inv X pins σ H1 s := by
  rcases k with rfl | ⟨h, rfl⟩ | ⟨h, rfl⟩
  · exact I
  · have ok := I.hok _ _ h
    exact I.write (t' := s.toks) (h' := s.heap) (x := a) (e := a) (by rw [h]; trivial) (.inl rfl) (fun b u _ z => z) (by obtain ⟨_, _, _, _, o, _, _, h1, _⟩ := ok; exact ⟨o, h1⟩) (tk_empty ok)
  · have ok := I.hok _ _ h
    exact I.write (t' := s.toks) (h' := s.heap) (x := a) (e := a) (by rw [h]; trivial) (.inl rfl) (fun b u _ z => z) (by obtain ⟨_, _, _, _, o, _, _, h1, _⟩ := ok; exact ⟨o, h1⟩) (kt_empty ok)
def rSetD : V → V → V → Hp → (Hp → Prop) → Prop := fun o i v H Q => ∃ a H1 H2, o = .ref a ∧ Kin H a H1 ∧ DPut H1 a i v H2 ∧ Q H2
theorem set_dict (hu : X.A.units + 1 < cLine) : PSet X rSetD := by
  intro pins s σ H o i v ov iv u Q I ro ri rv h
  obtain ⟨a, H1, H2, rfl, hk, hp, q⟩ := h
  cases ro
  exact d_setItem hu (hk.inv I) hp ri rv fun s' I' => ⟨H2, I', q⟩
theorem set_any (hu : X.A.units + 1 < cLine) : PSet X (fun o i v H Q => rSetL o i v H Q ∨ rSetD o i v H Q) := by
  intro pins s σ H o i v ov iv u Q I ro ri rv h
  rcases h with h | h
  · exact set_list pins s σ H o i v ov iv u Q I ro ri rv h
  · exact set_dict hu pins s σ H o i v ov iv u Q I ro ri rv h
def isT : P → Bool
  | .tuple _ => true
  | _ => false
def kOk {α : Type} : List (P × α) → P → Bool
  | [], _ => true
  | q :: _, p => isT q.1 == isT p
def dput {α : Type} (ps : List (P × α)) (p : P) (z : α) : List (P × α) := if (ps.any fun q => PyData.eqv q.1 p) = true then ps.map (fun q => if PyData.eqv q.1 p = true then (q.1, z) else q) else ps ++ [(p, z)]
theorem isT_key (k : Key) : isT (keyP k) = false := by cases k <;> rfl
theorem KP.any {α : Type} {F : V → α → Prop} {k : Key} : ∀ {kvs : List (Key × V)} {ps : List (P × α)}, KP F kvs ps → (kvs.any fun kv => decide (kv.1 = k)) = ps.any fun q => PyData.eqv q.1 (keyP k)
  | [], [], .nil => rfl
  | kv :: kvs, q :: ps, .cons h t => by rw [List.any_cons, List.any_cons, KP.any t, h.1, eqv_key]
theorem TP'.any {α : Type} {F : V → α → Prop} {k : List Key} : ∀ {kvs : List (List Key × V)} {ps : List (P × α)}, TP' F kvs ps → (kvs.any fun kv => decide (kv.1 = k)) = ps.any fun q => PyData.eqv q.1 (.tuple (k.map keyP))
  | [], [], .nil => rfl
  | kv :: kvs, q :: ps, .cons h t => by rw [List.any_cons, List.any_cons, TP'.any t, h.1, eqv_tkeys]
theorem KP.map {α : Type} {F : V → α → Prop} {k : Key} {v : V} {d : α} (hv : F v d) : ∀ {kvs : List (Key × V)} {ps : List (P × α)}, KP F kvs ps → KP F (kvs.map fun kv => if kv.1 = k then (kv.1, v) else kv) (ps.map fun q => if PyData.eqv q.1 (keyP k) = true then (q.1, d) else q)
  | [], [], .nil => .nil
  | kv :: kvs, q :: ps, .cons h t => by
    refine .cons ?_ (KP.map hv t)
    dsimp only
    rw [h.1, eqv_key]
    by_cases e : kv.1 = k
    · rw [if_pos e, if_pos (decide_eq_true e)]
      exact ⟨rfl, hv⟩
    · rw [if_neg e, if_neg (by simpa using e)]
      exact h
theorem TP'.map {α : Type} {F : V → α → Prop} {k : List Key} {v : V} {d : α} (hv : F v d) : ∀ {kvs : List (List Key × V)} {ps : List (P × α)}, TP' F kvs ps → TP' F (kvs.map fun kv => if kv.1 = k then (kv.1, v) else kv) (ps.map fun q => if PyData.eqv q.1 (.tuple (k.map keyP)) = true then (q.1, d) else q)
  | [], [], .nil => .nil
  | kv :: kvs, q :: ps, .cons h t => by
    refine .cons ?_ (TP'.map hv t)
    dsimp only
    rw [h.1, eqv_tkeys]
    by_cases e : kv.1 = k
    · rw [if_pos e, if_pos (decide_eq_true e)]
      exact ⟨rfl, hv⟩
    · rw [if_neg e, if_neg (by simpa using e)]
      exact h
theorem KP.put {α : Type} {F : V → α → Prop} {k : Key} {v : V} {d : α} (hv : F v d) {kvs : List (Key × V)} {ps : List (P × α)} (h : KP F kvs ps) : KP F (putK kvs k v) (dput ps (keyP k) d) := by
  unfold putK dput
  rw [h.any]
  by_cases c : (ps.any fun q => PyData.eqv q.1 (keyP k)) = true
  · rw [if_pos c, if_pos c]
    exact h.map hv
  · rw [if_neg c, if_neg c]
    exact Paired.app h (.cons ⟨rfl, hv⟩ .nil)
theorem TP'.put {α : Type} {F : V → α → Prop} {k : List Key} {v : V} {d : α} (hv : F v d) {kvs : List (List Key × V)} {ps : List (P × α)} (h : TP' F kvs ps) : TP' F (putK kvs k v) (dput ps (.tuple (k.map keyP)) d) := by
  unfold putK dput
  rw [h.any]
  by_cases c : (ps.any fun q => PyData.eqv q.1 (.tuple (k.map keyP))) = true
  · rw [if_pos c, if_pos c]
    exact h.map hv
  · rw [if_neg c, if_neg c]
    exact Paired.app h (.cons ⟨rfl, hv⟩ .nil)
/-- a pair is put into a dict as it lies -/
theorem raw_put {α : Type} {F : V → α → Prop} {a : Addr} {qs : List (P × V)} {ps : List (P × α)} {p : P} {ky : Key ⊕ List Key} {y v : V} {d : α} (hraw : RawD H a qs) (h2 : Paired F (qs.map (·.2)) (ps.map (·.2))) (h3 : qs.map (·.1) = ps.map (·.1))
    (hk : keyD p = some ky) (ry : Rep H y p) (ok : kOk ps p = true) (hl : ps.length < sizeLine) (rv : F v d) :
    ∃ H1 o' qs', Kin H a H1 ∧ DPut H1 a y v (upd H a o') ∧ RawD (upd H a o') a qs' ∧ Paired F (qs'.map (·.2)) ((dput ps p d).map (·.2)) ∧ qs'.map (·.1) = (dput ps p d).map (·.1) := by
  rcases key_cases hk with ⟨k, ep, _⟩ | ⟨ks, ep, _⟩
  · subst ep
    have ey := rep_key ry
    subst ey
    rcases hraw with ⟨kvs, h, z⟩ | ⟨kvs, h, z⟩
    · subst z
      have kp := KP.of h2 h3
      have ll := Paired.length kp
      have kq := kp.put (k := k) rv
      exact ⟨H, .dK (putK kvs k v), qK (putK kvs k v), .inl rfl, DPut.k h (by omega), .inl ⟨_, upd_same, rfl⟩, kq.to.1, kq.to.2⟩
    · subst z
      have kp := TP'.of h2 h3
      cases kp with
      | cons h0 t0 =>
        exfalso
        simp only [kOk] at ok
        rw [h0.1, isT_key] at ok
        simp [isT] at ok
      | nil =>
        have kq : KP F (putK [] k v) (dput [] (keyP k) d) := KP.put (F := F) rv .nil
        have dp := DPut.k (H := upd H a (.dK [])) (a := a) (kvs := []) (k := k) (v := v) upd_same (by show 0 < sizeLine; rw [sizeLine_eq]; omega)
        rw [upd_upd] at dp
        exact ⟨upd H a (.dK []), .dK (putK [] k v), qK (putK [] k v), .inr (.inl ⟨h, rfl⟩), dp, .inl ⟨_, upd_same, rfl⟩, kq.to.1, kq.to.2⟩
  · subst ep
    cases ry with
    | tup hb hbs =>
      rename_i b vs
      have e5 := rep_keys hbs
      subst e5
      rcases hraw with ⟨kvs, h, z⟩ | ⟨kvs, h, z⟩
      · subst z
        have kp := KP.of h2 h3
        cases kp with
        | cons h0 t0 =>
          exfalso
          simp only [kOk] at ok
          rw [h0.1, isT_key] at ok
          simp [isT] at ok
        | nil =>
          have kq : TP' F (putK [] ks v) (dput [] (.tuple (ks.map keyP)) d) := TP'.put (F := F) rv .nil
          have nb : b ≠ a := ne_of hb h (fun z => by cases z)
          have dp := DPut.t (H := upd H a (.dT [])) (a := a) (b := b) (kvs := []) (k := ks) (v := v) upd_same (by rw [upd_ne nb]; exact hb) (by show 0 < sizeLine; rw [sizeLine_eq]; omega)
          rw [upd_upd] at dp
          exact ⟨upd H a (.dT []), .dT (putK [] ks v), qT (putK [] ks v), .inr (.inr ⟨h, rfl⟩), dp, .inr ⟨_, upd_same, rfl⟩, kq.to.1, kq.to.2⟩
      · subst z
        have kp := TP'.of h2 h3
        have ll := Paired.length kp
        have kq := kp.put (k := ks) rv
        exact ⟨H, .dT (putK kvs ks v), qT (putK kvs ks v), .inl rfl, DPut.t h hb (by omega), .inr ⟨_, upd_same, rfl⟩, kq.to.1, kq.to.2⟩
def putD (o : D) (p : P) (d : D) (e : Envi) (S : Sto) : Option (Envi × Sto) := match o with
  | .bo i (.dct _) => match e[i]?, d with
    | some (some (.ow (.dct ps))), .pu q => (keyD p).bind fun _ => if (kOk ps p && decide (ps.length < lim)) = true then some (e.set i (some (.ow (.dct (dput ps p q)))), S) else none
    | _, _ => none
  | .rf n => match S[n]? with
    | some (.dct ps) => (keyD p).bind fun _ => if (kOk ps p && decide (ps.length < lim)) = true then some (e, S.set n (.dct (dput ps p d))) else none
    | _ => none
  | _ => none
theorem RepL.pr : ∀ {vs : List V} {ps : List P}, RepL H vs ps → Paired (Rep H) vs ps
  | _, _, .nil => .nil
  | _, _, .cons h t => .cons h (RepL.pr t)
theorem RepL.un : ∀ {vs : List V} {ps : List P}, Paired (Rep H) vs ps → RepL H vs ps
  | _, _, .nil => .nil
  | _, _, .cons h t => .cons h (RepL.un t)
theorem putD_ok {x y v : V} {o d : D} {p : P} {e' : Envi} {S' : Sto} {Q : Hp → Prop} (r : R G σ H e S f) (po : RE G σ H e f S.length x o) (py : Rep H y p) (pd : RD G.K H f S.length v d) (hp : putD o p d e S = some (e', S'))
    (q : ∀ H', R G σ H' e' S' f → Ext0 H H' → Q H') : rSetD x y v H Q := by
  cases o with
  | pu _ => cases hp
  | wr _ => cases hp
  | nw _ => cases hp
  | rf n =>
    obtain ⟨e1, l⟩ := (show x = .ref (f n) ∧ n < S.length from po)
    subst e1
    unfold putD at hp
    dsimp only at hp
    cases hc : S[n]? with
    | none => rw [hc] at hp; cases hp
    | some c =>
      rw [hc] at hp
      cases c with
      | dct ps =>
        obtain ⟨ky, hk, hp⟩ := Option.bind_eq_some_iff.mp hp
        by_cases c : (kOk ps p && decide (ps.length < lim)) = true
        · rw [if_pos c] at hp
          cases hp
          rw [Bool.and_eq_true, decide_eq_true_eq] at c
          obtain ⟨qs, h1, h2, h3⟩ := r.cel n _ hc
          obtain ⟨H1, o', qs', k1, dp, raw, pr, ke⟩ := raw_put h1 h2 h3 hk py c.1 (by rw [← lim_eq]; exact c.2) pd
          obtain ⟨u, hu, mu⟩ := r.cell_mut hc rfl
          have x := raw_ext (o' := o') hu mu
          obtain ⟨r2, x2⟩ := r.cel_set (c := .dct (dput ps p d)) (o' := o') hc rfl ⟨qs', raw, Paired.mapP pr fun _ _ => RD.ext x, ke⟩
          exact ⟨f n, H1, _, rfl, k1, dp, q _ r2 x2⟩
        · rw [if_neg c] at hp
          cases hp
      | _ => cases hp
  | bo i c =>
    cases c with
    | lst _ => cases hp
    | dct ps0 =>
      obtain ⟨h1, h2⟩ := (show σ[i]? = some (some x) ∧ e[i]? = some (some (.ow (.dct ps0))) from po)
      unfold putD at hp
      dsimp only at hp
      rw [h2] at hp
      cases d with
      | pu pv =>
        obtain ⟨ky, hk, hp⟩ := Option.bind_eq_some_iff.mp hp
        by_cases c : (kOk ps0 p && decide (ps0.length < lim)) = true
        · rw [if_pos c] at hp
          cases hp
          rw [Bool.and_eq_true, decide_eq_true_eq] at c
          obtain ⟨a, h3, ⟨qs, h4, h5, h6⟩, _⟩ := r.own i _ h2
          have h1' := h1
          rw [h3] at h1
          cases h1
          obtain ⟨H1, o', qs', k1, dp, raw, pr, ke⟩ := raw_put h4 h5.pr h6 hk py c.1 (by rw [← lim_eq]; exact c.2) (show Rep H v pv from pd)
          obtain ⟨u, hu, mu⟩ := OCok.raw (c := .dct ps0) ⟨qs, h4, h5, h6⟩
          have x := raw_ext (o' := o') hu mu
          exact ⟨a, H1, _, rfl, k1, dp, q _ (r.own_set h2 h3 ⟨qs', raw, RepL.ext x (RepL.un pr), ke⟩) x⟩
        · rw [if_neg c] at hp
          cases hp
      | _ => cases hp
/-- o[i] = d -/
def putS (o i d : D) (e : Envi) (S : Sto) : Option (Envi × Sto) := match lstD o S, i with
  | some _, .pu (.int k) => putL o (fun ds => (ixN ds.length k).map fun j => ds.set j d) e S
  | _, .pu p => putD o p d e S
  | _, _ => none
def gSubT (xo xi : Ex) : Gt := fun d e S => (xo e S).bind fun o => (xi e o.2).bind fun i => if noBo [d] then putS o.1 i.1 d e i.2 else none
theorem putS_ok {x y v : V} {o i d : D} {e' : Envi} {S' : Sto} {Q : Hp → Prop} (r : R G σ H e S f) (po : RE G σ H e f S.length x o) (py : RE G σ H e f S.length y i) (pd : RD G.K H f S.length v d) (hp : putS o i d e S = some (e', S'))
    (q : ∀ H', R G σ H' e' S' f → Ext0 H H' → Q H') : rSetL x y v H Q ∨ rSetD x y v H Q := by
  unfold putS at hp
  split at hp
  · rename_i k hl
    cases (show Rep H y (.int k) from py)
    obtain ⟨a, vs, ds, ds', e1, h1, h2, h3, h4, h5⟩ := putL_ok r po hp
    cases hj : ixN ds.length k with
    | none => rw [hj] at h3; cases h3
    | some j =>
      rw [hj] at h3
      cases h3
      obtain ⟨r2, x2⟩ := h5 (vs.set j v) (Paired.setp pd j h2)
      exact .inl ⟨a, vs, k, j, e1, rfl, h1, by rw [Paired.length h2]; exact hj, q _ r2 x2⟩
  · exact .inr (putD_ok r po py pd hp q)
  · cases hp
theorem dg_sub {u : Nat → Bool} {o i : Expr} {xo xi : Ex} {pos : Pos} (hu : X.A.units + 1 < cLine) (ho : DE X G o xo) (hi : DE X G i xi)
    (ha : ∀ v, assign (.Subscript o i pos) X.env v = (do let ov ← holding [v] (eval o X.env); let iv ← holding [v, ov] (eval i X.env); standAt pos; holding [v, ov, iv] (setItem ov iv v); release [v, ov, iv] []) := by intro _; rfl) : DG X G u (.Subscript o i pos) (gSubT xo xi) :=
  pg_mono (pg_sub ho hi (set_any hu) ha) fun v σ H Q hw => by
    obtain ⟨e, S, f, d, r, p, e', S', hg, q⟩ := hw
    obtain ⟨⟨d1, S1⟩, e1, hg⟩ := Option.bind_eq_some_iff.mp hg
    obtain ⟨⟨d2, S2⟩, e2, hg⟩ := Option.bind_eq_some_iff.mp hg
    by_cases c : noBo [d] = true
    · rw [if_pos c] at hg
      refine ⟨e, S, f, r, d1, S1, e1, fun v1 H1 f1 r1 n1 p1 => ⟨e, S1, f1, r1, d2, S2, e2, fun v2 H2 f2 r2 n2 p2 => ?_⟩⟩
      have pd := RD.nx (n1.trans n2) (re_rd p c)
      exact putS_ok r2 (p1.nx n2) p2 pd hg fun H' r' x' => q σ H' f2 r' ((n1.trans n2).ext.trans x') (.refl _ _)
    · rw [if_neg c] at hg
      cases hg
end
end DL
/-! DLB: displays of dicts, defs. -/
namespace DL
open PySem PySem.Spec PyProof.Rows L2
section
variable {X : Cx} {G : Gx} {σ : L2.St} {H H1 : Hp} {e : Envi} {S S1 : Sto} {f f1 : Nat → Addr} {L L1 : Nat} {p : Addr}
/-! ### a thing that has been laid becomes a cell -/
theorem RD.putf {K : PySem.W.Frag} {v : V} : ∀ {d : D}, RD K H f L v d → RD K H (put1 f L p) (L + 1) v d
  | .pu _, h => h
  | .wr _, h => h
  | .rf n, ⟨h, l⟩ => ⟨by rw [put1_lt l]; exact h, Nat.lt_succ_of_lt l⟩
  | .bo _ _, h => h
  | .nw _, h => h
theorem MCok.putf {a : Addr} : ∀ {c : MC}, MCok G H f L a c → MCok G H (put1 f L p) (L + 1) a c
  | .lst _, ⟨vs, h, r⟩ => ⟨vs, h, Paired.mapP r fun _ _ => RD.putf⟩
  | .dct _, ⟨qs, h, r, e⟩ => ⟨qs, h, Paired.mapP r fun _ _ => RD.putf, e⟩
  | .obj _ _, ⟨C, dx, us, c, h, r, e⟩ => ⟨C, dx, us, c, h, Paired.mapP r fun _ _ => RD.putf, e⟩
  | .fz _, h => h
  | .tup _, ⟨vs, h, r⟩ => ⟨vs, h, Paired.mapP r fun _ _ => RD.putf⟩
  | .dead, h => h
theorem Cells.adopt {o o' : HO} {c : MC} (k : Cells G H f S) (h : H p = some o) (mu : Mut (some o)) (hn : ∀ n, n < S.length → f n ≠ p) (hc : MCok G (upd H p o') (put1 f S.length p) (S.length + 1) p c) : Cells G (upd H p o') (put1 f S.length p) (S ++ [c]) := by
  have k2 := k.other (o' := o') h mu hn
  refine ⟨fun n d hd => ?_, fun n m hn' hm e => ?_⟩
  · rw [len1]
    by_cases l : n < S.length
    · rw [List.getElem?_append_left l] at hd
      rw [put1_lt l]
      exact MCok.putf (k2.cel n d hd)
    · have e : n = S.length := by
        have := (List.getElem?_eq_some_iff.mp hd).1
        rw [len1] at this
        omega
      subst e
      rw [List.getElem?_append_right (Nat.le_refl _), Nat.sub_self] at hd
      cases hd
      rw [put1_at]
      exact hc
  · rw [len1] at hn' hm
    by_cases h1 : n < S.length
    · by_cases h2 : m < S.length
      · rw [put1_lt h1, put1_lt h2] at e
        exact k.inj n m h1 h2 e
      · have e2 : m = S.length := by omega
        subst e2
        rw [put1_lt h1, put1_at] at e
        exact absurd e (hn n h1)
    · have e1 : n = S.length := by omega
      subst e1
      by_cases h2 : m < S.length
      · rw [put1_lt h2, put1_at] at e
        exact absurd e.symm (hn m h2)
      · omega
theorem Nx.adopt {o' : HO} (x : Nx H H1 f f1 L L1) (h : H p = none) : Nx H (upd H1 p o') f (put1 f1 L1 p) L (L1 + 1) where
  ext := (x.grown (o' := o') h).ext
  ag := fun n hn => by rw [put1_lt (Nat.lt_of_lt_of_le hn x.le)]; exact x.ag n hn
  le := Nat.le_succ_of_le x.le
  oth := (x.grown (o' := o') h).oth
  fr := fun n h1 h2 => by
    by_cases l : n < L1
    · rw [put1_lt l]
      exact x.fr n h1 l
    · have e : n = L1 := by omega
      subst e
      rw [put1_at]
      exact h
  th := (x.grown (o' := o') h).th

/-! ### displays of dicts -/
def dmerge {α : Type} (acc more : List (P × α)) : List (P × α) := more.foldl (fun acc q => dput acc q.1 q.2) acc
theorem KP.merge {α : Type} {F : V → α → Prop} : ∀ {more : List (Key × V)} {ms : List (P × α)} {kvs : List (Key × V)} {ps : List (P × α)}, KP F more ms → KP F kvs ps → KP F (mergeK kvs more) (dmerge ps ms)
  | [], [], _, _, .nil, k => k
  | kv :: more, q :: ms, kvs, ps, .cons h t, k => by
    show KP F (mergeK (putK kvs kv.1 kv.2) more) (dmerge (dput ps q.1 q.2) ms)
    rw [h.1]
    exact KP.merge t (k.put h.2)
def DPs (X : Cx) (G : Gx) (pos : Pos) (keys : List (Option Expr)) (values : List Expr) (ks : List Key) (xa : Ax) : Prop :=
  ∃ trs, PPs X pos keys values trs ∧ ∀ σ H Q, (∃ e S f, R G σ H e S f ∧ ∃ ds S', xa e S = some (ds, S') ∧ ∀ vs H' f', R G σ H' e S' f' → Nx H H' f f' S.length S'.length → Paired (RE G σ H' e f' S'.length) vs ds → Q (List.zip (ks.map kV) vs) H') → tPairs trs σ H Q
theorem dps_nil {pos : Pos} : DPs X G pos [] [] [] aNil := ⟨[], pps_nil, fun σ H Q hw => by
  obtain ⟨e, S, f, r, ds, S', hx, q⟩ := hw
  cases hx
  exact q [] H f r (.refl _ _ _) .nil⟩
theorem dps_cons {pos : Pos} {k v : Expr} {keys : List (Option Expr)} {values : List Expr} {ky : Key} {ks : List Key} {x : Ex} {xa : Ax} (hk : PE X k (tC (kV ky))) (hv : DE X G v x) (h : DPs X G pos keys values ks xa) : DPs X G pos (some k :: keys) (v :: values) (ky :: ks) (aCons x xa) := by
  obtain ⟨trs, hp, m⟩ := h
  refine ⟨_, pps_cons hk hv hp, fun σ H Q hw => ?_⟩
  obtain ⟨e, S, f, r, ds, S', hx, q⟩ := hw
  obtain ⟨⟨d1, S1⟩, h1, hx⟩ := Option.bind_eq_some_iff.mp hx
  obtain ⟨⟨ds2, S2⟩, h2, hx⟩ := Option.bind_eq_some_iff.mp hx
  cases hx
  refine ⟨e, S, f, r, d1, S1, h1, fun v1 H1 f1 r1 n1 p1 => ?_⟩
  refine m σ H1 _ ⟨e, S1, f1, r1, ds2, S2, h2, fun vs H2 f2 r2 n2 p2 => ?_⟩
  exact q (v1 :: vs) H2 f2 r2 (n1.trans n2) (.cons (p1.nx n2) p2)
theorem zip_kvs : ∀ (ks : List Key) (vs : List V), List.zip (ks.map kV) vs = (List.zip ks vs).map fun kv => (kV kv.1, kv.2)
  | [], _ => by simp
  | _ :: _, [] => by simp
  | k :: ks, v :: vs => by simp only [List.map_cons, List.zip_cons_cons, zip_kvs ks vs]
theorem KP.zip {α : Type} {F : V → α → Prop} : ∀ {ks : List Key} {vs : List V} {ds : List α}, Paired F vs ds → KP F (List.zip ks vs) (List.zip (ks.map keyP) ds)
  | [], _, _, _ => .nil
  | _ :: _, _, _, .nil => .nil
  | k :: ks, _, _, .cons h t => .cons ⟨rfl, h⟩ (KP.zip t)
def xDisp (ks : List Key) (xa : Ax) : Ex := fun e S => (xa e S).bind fun r => if (noBo r.1 && decide (ks.length ≤ 15)) = true then some (.rf r.2.length, r.2 ++ [.dct (dmerge [] (List.zip (ks.map keyP) r.1))]) else none
theorem d_disp {pos : Pos} {keys : List (Option Expr)} {values : List Expr} {ks : List Key} {xa : Ax} (h : DPs X G pos keys values ks xa) (hall : keys.all (·.isSome) = true := by rfl) (hl : keys.length = values.length := by rfl) (h0 : keys ≠ [] := by exact List.cons_ne_nil _ _) (h15 : keys.length ≤ 15 := by decide) : DE X G (.Dict keys values pos) (xDisp ks xa) := by
  obtain ⟨trs, hp, m⟩ := h
  refine pe_mono (pe_disp hp hall hl h0 h15) fun σ H Q hw => ?_
  obtain ⟨e, S, f, r, d, S', hx, q⟩ := hw
  obtain ⟨⟨ds, S1⟩, h1, hx⟩ := Option.bind_eq_some_iff.mp hx
  dsimp only at hx
  by_cases c : (noBo ds && decide (ks.length ≤ 15)) = true
  · rw [if_pos c] at hx
    cases hx
    rw [Bool.and_eq_true, decide_eq_true_eq] at c
    intro p np
    have s0 := upd_new (o := .dK []) np
    refine m σ _ _ ⟨e, S, f, r.same s0, ds, S1, h1, fun vs H2 f2 r2 n2 p2 => ?_⟩
    have fp : ∀ n, n < S.length → f n ≠ p := fun n hn z => by
      obtain ⟨u, hu, _⟩ := r.cell_at hn
      rw [z, np] at hu
      cases hu
    have hp2 : H2 p = some (.dK []) := n2.oth p _ upd_same fp
    have fp2 : ∀ n, n < S1.length → f2 n ≠ p := fun n hn z => by
      by_cases l : n < S.length
      · rw [n2.ag n l] at z
        exact fp n l z
      · have q0 := n2.fr n (Nat.le_of_not_lt l) hn
        rw [z, upd_same] at q0
        cases q0
    refine ⟨hp2, List.zip ks vs, zip_kvs ks vs, by rw [List.length_zip]; omega, ?_⟩
    have n0 : Nx H H2 f f2 S.length S1.length := (Nx.of s0 f S.length).trans n2
    have kp : KP (RD G.K H2 f2 S1.length) (mergeK [] (List.zip ks vs)) (dmerge [] (List.zip (ks.map keyP) ds)) := KP.merge (KP.zip (re_rds p2 c.1)) .nil
    have kp' : KP (RD G.K (upd H2 p (.dK (mergeK [] (List.zip ks vs)))) (put1 f2 S1.length p) (S1.length + 1)) (mergeK [] (List.zip ks vs)) (dmerge [] (List.zip (ks.map keyP) ds)) :=
      Paired.mapP kp fun a b h => ⟨h.1, RD.putf (RD.ext (raw_ext hp2 trivial) h.2)⟩
    have cc := r2.cells.adopt (o' := .dK (mergeK [] (List.zip ks vs))) (c := .dct (dmerge [] (List.zip (ks.map keyP) ds))) hp2 trivial fp2 ⟨qK _, .inl ⟨_, upd_same, rfl⟩, kp'.to.1, kp'.to.2⟩
    have nn := n0.adopt (o' := .dK (mergeK [] (List.zip ks vs))) np
    refine q _ _ (put1 f2 S1.length p) (r.nx (by rw [len1]; exact nn) cc) (by rw [len1]; exact nn) ⟨by rw [put1_at], by rw [len1]; exact Nat.lt_succ_self _⟩
  · rw [if_neg c] at hx
    cases hx
end
end DL
/-! DLC: defs as mirrors; the law's end. -/
namespace DL
open PySem PySem.Spec PyProof.Rows L2

/-- the slots at the entry -/
def env0 (l : Nat) (ds : List D) : Envi := ds.map (fun d => some (.val d)) ++ List.replicate (l - ds.length) none
def runF (n l : Nat) (b : Sx) (ds : List D) (S : Sto) : Option (D × Sto) := if ds.length = n ∧ n ≤ l then (b (env0 l ds) S).bind fun o => match o with
    | .nx _ S' => some (.pu .none, S')
    | .rt d _ S' => if noBo [d] then some (d, S') else none
    | _ => none
  else none
def runP (n l : Nat) (b : Sx) (ps : List P) : Option P := (runF n l b (ps.map .pu) []).bind fun r => match r.1 with
  | .pu p => some p
  | _ => none
theorem runF_len {n l : Nat} {b : Sx} {ds : List D} {S : Sto} {r : D × Sto} (h : runF n l b ds S = some r) : ds.length = n := by
  unfold runF at h
  by_cases c : ds.length = n ∧ n ≤ l
  · exact c.1
  · rw [if_neg c] at h
    cases h
theorem runP_len {n l : Nat} {b : Sx} {ps : List P} {p : P} (h : runP n l b ps = some p) : ps.length = n := by
  obtain ⟨r, h1, _⟩ := Option.bind_eq_some_iff.mp h
  have := runF_len h1
  rwa [List.length_map] at this
theorem env0_val {l : Nat} {ds : List D} {i : Nat} {s : Sl} (h : (env0 l ds)[i]? = some (some s)) : ∃ d, ds[i]? = some d ∧ s = .val d := by
  unfold env0 at h
  by_cases c : i < ds.length
  · rw [List.getElem?_append_left (by rw [List.length_map]; exact c), List.getElem?_map] at h
    rw [List.getElem?_eq_getElem c] at h ⊢
    cases h
    exact ⟨_, rfl, rfl⟩
  · rw [List.getElem?_append_right (by rw [List.length_map]; omega), List.getElem?_replicate] at h
    split at h
    · cases h
    · cases h
theorem start_val {N : List Str} {vs : List V} {i : Nat} {v : V} (h : vs[i]? = some v) : (L2.start N vs)[i]? = some (some v) := by
  unfold L2.start
  have c := (List.getElem?_eq_some_iff.mp h).1
  rw [List.getElem?_append_left (by rw [List.length_map]; exact c), List.getElem?_map, h]
  rfl
theorem Cells.nil {G : Gx} {H : Hp} {f : Nat → Addr} : Cells G H f [] := ⟨fun n c h => (by cases h), fun n m h => absurd h (Nat.not_lt_zero _)⟩
/-- the state at a def's entry -/
theorem R.entry {G : Gx} {N : List Str} {vs : List V} {ds : List D} {S : Sto} (hl : ds.length ≤ N.length) (hp : Paired (RD G.K G.H0 G.f0 G.n0) vs ds) (hn : G.n0 = S.length) (c : Cells G G.H0 G.f0 S) : R G (L2.start N vs) G.H0 (env0 N.length ds) S G.f0 where
  ln := by
    have := Paired.length hp
    unfold env0 L2.start
    simp only [List.length_append, List.length_map, List.length_replicate]
    omega
  val := fun i d h => by
    obtain ⟨d', h1, h2⟩ := env0_val h
    cases h2
    obtain ⟨v, h3, h4⟩ := Paired.get2 hp h1
    exact ⟨v, start_val h3, by rw [← hn]; exact h4⟩
  own := fun i c h => by
    obtain ⟨d', h1, h2⟩ := env0_val h
    cases h2
  sep := fun i j c c' a hij h => by
    obtain ⟨d', h1, h2⟩ := env0_val h
    cases h2
  cel := c.cel
  inj := c.inj
  frm := fun b o h _ => h
  new := fun n h1 h2 => absurd h2 (by omega)
  old := fun n h => rfl
  le := by omega
  ext := .refl _
section
variable {Pg : Program} {w : World} {K : PySem.W.Frag} {mg : Str → Option Value} {base : Heap} {x qual : Str} {st : Stmt} {f : Addr} {fd : FuncData} {N ps : List Str} {k n : Nat} {b : Sx}
/-- a def's body as an evaluator -/
def Body (Pg : Program) (w : World) (K : PySem.W.Frag) (mg : Str → Option Value) (base : Heap) (qual : Str) (st : Stmt) (f : Addr) (N : List Str) (k : Nat) (cl : Str → Option Addr) (b : Sx) : Prop :=
  ∀ (cdv : Value) (A : Around) (outer : List Env) (s : Shared) (H : Hp) (E : XK) (G : Gx), G.K = K → G.cl = cl → Room k (A.deeper (envOfC qual (defScope st) s.heap.objs.size f cdv)) →
    DSs (cxOf CX0 Pg w K mg base N qual (defScope st) f cdv A outer s H E).nox G (defBody st) b
theorem fnF {cl : Str → Option Addr} (F : Fun K x qual st f fd) (S : FnScope N ps (defScope st)) (hn : ps.length = n) (hb : Body Pg w K mg base qual st f N k cl b) : FnOk Pg w K mg base CX0 (k + 1) f fd ps (SpF K cl n (runF n N.length b)) := by
  refine F.ok S (fun vs H Q E h => h.1.trans hn.symm) fun cdv A outer s H vs Q E hr h => ?_
  obtain ⟨hl, f0, S0, ds, d, S', hp, hc, hm, q⟩ := h
  refine ⟨_, hb cdv A outer s H E ⟨K, cl, H, S0.length, f0⟩ rfl rfl hr, ?_⟩
  unfold runF at hm
  by_cases c : ds.length = n ∧ n ≤ N.length
  · rw [if_pos c] at hm
    obtain ⟨o, h1, h2⟩ := Option.bind_eq_some_iff.mp hm
    have r0 : R ⟨K, cl, H, S0.length, f0⟩ (L2.start N vs) H (env0 N.length ds) S0 f0 := R.entry (G := ⟨K, cl, H, S0.length, f0⟩) (by omega) hp rfl hc
    refine ⟨_, S0, f0, r0, o, h1, ?_⟩
    cases o with
    | nx e1 S1 =>
      cases h2
      exact fun σ' H' f' r' x' => q .non H' f' r'.cells (r'.back) .non
    | rt d1 e1 S1 =>
      dsimp only at h2
      by_cases c2 : noBo [d1] = true
      · rw [if_pos c2] at h2
        cases h2
        exact fun v σ' H' f' r' x' p' => q v H' f' r'.cells (r'.back) (re_rd p' c2)
      · rw [if_neg c2] at h2
        cases h2
    | bk _ _ => cases h2
    | ct _ _ => cases h2
  · rw [if_neg c] at hm
    cases hm
theorem fnP {cl : Str → Option Addr} (F : Fun K x qual st f fd) (S : FnScope N ps (defScope st)) (hn : ps.length = n) (hb : Body Pg w K mg base qual st f N k cl b) : FnOk Pg w K mg base CX0 (k + 1) f fd ps (SpP n (runP n N.length b)) :=
  (fnF F S hn hb).imp fun vs H Q E h => by
    obtain ⟨hl, as, p, hp, hm, q⟩ := h
    obtain ⟨⟨d, S'⟩, h1, h2⟩ := Option.bind_eq_some_iff.mp hm
    cases d with
    | pu p' =>
      cases h2
      refine ⟨hl, fun _ => 0, [], as.map .pu, .pu p, S', reps_rd hp, Cells.nil, h1, fun v H' f' c nx rd => q v H' (fun b o h => nx.oth b o h fun n hn => absurd hn (Nat.not_lt_zero _)) rd⟩
    | wr _ => cases h2
    | rf _ => cases h2
    | bo _ _ => cases h2
    | nw _ => cases h2
/-- a def that is never called -/
theorem fn_none {sp : Sp} (h : ∀ vs H Q E, ¬ sp vs H Q E) : FnOk Pg w K mg base CX0 k f fd ps sp := ⟨fun vs H Q E z => (h _ _ _ _ z).elim, fun A outer s H args us vs Q E _ _ _ _ z => (h _ _ _ _ z).elim⟩
end
/-- the script: True comes out of it -/
def scriptOk (m : List D → Sto → Option (D × Sto)) : Prop := ∀ ns : List Int, ns.length ≤ 63 → (∃ S, m [.pu (.list (ns.map .int))] [] = some (.pu (.bool true), S)) ∧ ∃ S, m [.wr (.list (ns.map .int))] [] = some (.pu (.bool true), S)
theorem repw_ints {K : PySem.W.Frag} : ∀ is : List Int, RepWL K (is.map V.int) (is.map .int)
  | [] => .nil
  | i :: is => .cons (.int i) (repw_ints is)
end DL
/-! DLD: what a printed derivation names. -/
namespace DL
open PySem PySem.Spec PyProof.Rows L2
section
variable {X : Cx} {G : Gx}
/-- an own thing is frozen, if it is one -/
def sFq (i : Nat) (s : Sx) : Sx := fun e S => match e[i]? with
  | some (some (.ow c)) => s (e.set i (some (.val (.pu (frzP c))))) S
  | _ => s e S
theorem ds_fq (i : Nat) {sts : List Stmt} {s : Sx} (h : DSs X G sts s) : DSs X G sts (sFq i s) := by
  refine ⟨fun pins st σ H T I hw => ?_⟩
  obtain ⟨e, S, f, r, o, hx, q⟩ := hw
  unfold sFq at hx
  split at hx
  · rename_i c he
    obtain ⟨a, h1, h2, _⟩ := r.own i c he
    obtain ⟨u, hu, mu⟩ := h2.raw
    obtain ⟨od, I2⟩ := I.lock hu mu
    obtain ⟨r2, x2⟩ := r.freeze he h1 hu (od := od)
    exact h.run pins st σ _ T I2 ⟨_, S, f, r2, o, hx, q.pre x2⟩
  · exact h.run pins st σ H T I ⟨e, S, f, r, o, hx, q⟩
/-- a module's constant -/
structure KC (K : PySem.W.Frag) (mg : Str → Option Value) (x : Str) (p : P) : Prop where
  ex : ∃ v u, mg x = some u ∧ RelV v u ∧ RepW K v p
/-- a def of the text, as its callers see it -/
structure Callee (Pg : Program) (w : World) (K : PySem.W.Frag) (mg : Str → Option Value) (base : Heap) (k : Nat) (x : Str) (ps : List Str) (sp : Sp) : Prop where
  ex : ∃ g fd, FnOk Pg w K mg base CX0 k g fd ps sp ∧ mg x = some (.ref g) ∧ PySem.W.keepIn K (.ref g) = true ∧ Binds K fd ps []
section
variable {k n : Nat} {ps : List Str} {x : Str} {p pos : Pos} {a : Expr} {es : List Expr} {xa : Ax}
theorem d_cP {m : List P → Option P} (F : Callee X.prog X.w X.K X.mg X.base k x ps (SpP n m)) (hl : ∀ ps p, m ps = some p → ps.length = n) (hr : Room k X.A) 
    (ha : DA X G (a :: es) xa) (hg : Gl X x := by rfl) (hdb : (x == ("__debug__" : Str)) = false := by decide) (he : starEach (a :: es) X.env = (false, eval a X.env) :: starEach es X.env := by rfl) (hpl : (backTo pos (starEach es X.env)).any (·.1) = false := by rfl) : DE X G (.Call (.Name x p) (a :: es) [] pos) (xA (gCallP m) xa) := by
  obtain ⟨g, fd, F, hm, hk, hb⟩ := F
  exact d_callP F hl hr hg hm hk hb ha hdb he hpl
theorem d_cF {m : List D → Sto → Option (D × Sto)} (F : Callee X.prog X.w X.K X.mg X.base k x ps (SpF G.K G.cl n m)) (hl : ∀ ds S r, m ds S = some r → ds.length = n) (hr : Room k X.A)
    (ha : DA X G (a :: es) xa) (hg : Gl X x := by rfl) (hdb : (x == ("__debug__" : Str)) = false := by decide) (he : starEach (a :: es) X.env = (false, eval a X.env) :: starEach es X.env := by rfl) (hpl : (backTo pos (starEach es X.env)).any (·.1) = false := by rfl) : DE X G (.Call (.Name x p) (a :: es) [] pos) (xA (gCallF m) xa) := by
  obtain ⟨g, fd, F, hm, hk, hb⟩ := F
  exact d_callF F hl hr hg hm hk hb ha hdb he hpl
end
theorem Callee.mk' {Pg : Program} {w : World} {K : PySem.W.Frag} {mg : Str → Option Value} {base : Heap} {k : Nat} {x qual : Str} {ps : List Str} {sp : Sp} {st : Stmt} {g : Addr} {fd : FuncData} (F : Fun K x qual st g fd) (ok : FnOk Pg w K mg base CX0 k g fd ps sp) (hm : mg x = some (.ref g))
    (hb : ∀ (kV doc pm : Value) (an : Option Addr) (cdv ct : Value) (us : List Value), us.length = ps.length → bindArgs (PySem.W.fnOf x qual (defArgs st) (defBody st) (defScope st) .none kV doc pm an cdv ct) ⟨us, []⟩ = pure (ps.zip us)) : Callee Pg w K mg base k x ps sp :=
  ⟨g, fd, ok, hm, F.kp, F.binds hb⟩
end
end DL
/-! DLE: new things; defs that give them; a name's own thing lent for a moment. -/
namespace DL
open PySem PySem.Spec PyProof.Rows L2
section
variable {X : Cx} {G : Gx} {σ : L2.St} {H : Hp} {e : Envi} {S : Sto} {f : Nat → Addr}
theorem RE.fresh (r0 : R G σ H e S f) {H' : Hp} {a : Addr} {c : OC} (h : H a = none) (hc : OCok H' a c) : RE G σ H' e f S.length (.ref a) (.nw c) :=
  show ∃ b, V.ref a = .ref b ∧ OCok H' b c ∧ G.H0 b = none ∧ (∀ n, n < S.length → f n ≠ b) ∧ ∀ (j : Nat) (c' : OC), e[j]? = some (some (.ow c')) → σ[j]? ≠ some (some (.ref b)) from ⟨a, rfl, hc, r0.free0 h, fun n hn z => (by
    obtain ⟨u, hu, _⟩ := r0.cell_at hn
    rw [z, h] at hu
    cases hu), fun j c' hj z => by
    obtain ⟨b, h1, h2, _⟩ := r0.own j c' hj
    rw [z] at h1
    cases h1
    obtain ⟨u, hu, _⟩ := h2.raw
    rw [h] at hu
    cases hu⟩
theorem nw_fin {p : Addr} {vs : List V} {ps : List P} {Q : VK} (r0 : R G σ H e S f) (h : H p = none) (r : RepL H vs ps) (q : Fin G σ e H f S S (.nw (.lst ps)) Q) : GQ Q (.ref p) (upd H p (.lst vs)) :=
  .inl (q _ _ f (r0.same (upd_new h)) (.of (upd_new h) _ _) (RE.fresh r0 h ⟨vs, upd_same, RepL.ext (.of (upd_new h)) r⟩))
/-! ### list(x), [..], +, slices, comprehensions: new -/
def gListN : List D → Sto → Option (D × Sto)
  | [d], S => (seqD d S).bind fun q => (pusOf q.2).bind fun ps => some (.nw (.lst ps), S)
  | _, _ => none
theorem v_listN (hK : X.K = G.K) : VA G (fun xs H Q => ∃ p ys, xs = [.ref p] ∧ (SqL X.K H p ys ∨ SqT X.K H p ys) ∧ ∀ l, H l = none → Q (.ref l) (upd H l (.lst ys))) gListN := by
  intro σ H e S f vs ds d S' Q r0 rs hg q
  match ds, rs with
  | [dx], .cons (a := x) rx .nil =>
    obtain ⟨⟨k, is⟩, h1, hg⟩ := Option.bind_eq_some_iff.mp (show (seqD dx S).bind _ = _ from hg)
    obtain ⟨ps, h2, hg⟩ := Option.bind_eq_some_iff.mp hg
    cases hg
    have e2 := pusOf_eq h2
    dsimp only at e2
    subst e2
    obtain ⟨a, us, rfl, ht, hl, hp⟩ := seq_ok r0 rx h1
    rw [hK]
    exact ⟨a, us, rfl, sq_or ht hl, fun l nl => nw_fin r0 nl (rd_reps hp) q⟩
  | [], _ => cases hg
  | _ :: _ :: _, _ => simp [gListN] at hg
def gLstN (ds : List D) (S : Sto) : Option (D × Sto) := (pusOf ds).bind fun ps => if ps.length ≤ lim then some (.nw (.lst ps), S) else none
theorem d_lstN {es : List Expr} {xa : Ax} {pos : Pos} (h : DA X G es xa) : DE X G (.List es pos) (xA gLstN xa) := by
  refine pe_mono (pe_gh (pe_lst h)) fun σ H Q hh => ?_
  refine tE.bA (r := fun xs H Q => xs.length ≤ sizeLine ∧ ∀ p, H p = none → Q (.ref p) (upd H p (.lst xs))) ?_ σ H Q hh
  intro σ H e S f vs ds d S' Q r0 rs hg q
  obtain ⟨ps, h1, hg⟩ := Option.bind_eq_some_iff.mp hg
  by_cases c : ps.length ≤ lim
  · rw [if_pos c] at hg
    cases hg
    have e1 := pusOf_eq h1
    subst e1
    have rp := re_reps rs
    exact ⟨by rw [rp.length, ← lim_eq]; exact c, fun p hp => nw_fin r0 hp rp q⟩
  · rw [if_neg c] at hg
    cases hg
/-- list + list, new -/
def gCatN (a b : D) (S : Sto) : Option (D × Sto) := (lstD a S).bind fun xs => (lstD b S).bind fun ys => (pusOf xs).bind fun ps => (pusOf ys).bind fun qs => if ps.length + qs.length ≤ lim then some (.nw (.lst (ps ++ qs)), S) else none
/-- a list's slice, new -/
def gSlN (d : D) (lo hi : Option Int) (S : Sto) : Option (D × Sto) := (lstD d S).bind fun q => (pusOf (cutL q lo hi)).bind fun ps => some (.nw (.lst ps), S)
def xSlN (a : Ex) (lo hi : Ox) : Ex := fun e S => (a e S).bind fun r => (lo e r.2).bind fun l => (hi e l.2).bind fun h => gSlN r.1 l.1 h.1 h.2
/-- a comprehension's list, new -/
def xLcN (it : Ix) (g : Gt) (t : Tx) (x : Ex) (vs : List Nat) : Ex := fun e S => (it e S).bind fun r => (compD g t x (wipeE e vs) r.1 r.2 []).bind fun q => some (.nw (.lst q.1), q.2)
theorem d_lcN {elt tg iter : Expr} {ifs : List Expr} {scope : Scope} {own : List (Str × Nat)} {pos : Pos} {it : Ix} {g : Gt} {t : Tx} {x : Ex} (kg : KeepS g) (hc : X.calm = true) (hN : X.N.Nodup) (hi : DI X G tg iter it) (ok : BlkOk X.N X.env.scope scope own)
    (hg : ∀ (s : Shared) (H : Hp) (C : Addr) (cl : List (Str × Addr)) (fp : List Addr), DN (X.blk s H scope (compEnvC scope cl C X.env) fp) G (fun i => (own.map (·.2)).contains i) tg g) (ht : ∀ (s : Shared) (H : Hp) (C : Addr) (cl : List (Str × Addr)) (fp : List Addr), DTs (X.blk s H scope (compEnvC scope cl C X.env) fp) G ifs t)
    (he : ∀ (s : Shared) (H : Hp) (C : Addr) (cl : List (Str × Addr)) (fp : List Addr), DE (X.blk s H scope (compEnvC scope cl C X.env) fp) G elt x) (hs : ∀ x, foldedSetIterable iter X.env x = pure x := by intro _; rfl) :
    DE X G (.ListComp elt [⟨tg, iter, ifs, 0⟩] scope pos) (xLcN it g t x (own.map (·.2))) := by
  refine pe_mono (pe_lc hc hN hi ok hg ht he hs) fun σ H Q hw => ?_
  obtain ⟨e, S, f, r, d, S', hx, q⟩ := hw
  obtain ⟨⟨ds, S1⟩, h1, hx⟩ := Option.bind_eq_some_iff.mp hx
  obtain ⟨⟨ps, S2⟩, h2, hx⟩ := Option.bind_eq_some_iff.mp hx
  cases hx
  refine ⟨e, S, f, r, ds, S1, h1, fun J H1 f1 r1 n1 wk Dl nD => ?_⟩
  refine comp_ok kg r1 wk h2 nD (fun H => Q (.ref Dl) H) fun H2 f2 us hD ra nx2 c2 nd2 => ?_
  refine q _ H2 f2 (r1.nx nx2 c2) (n1.trans nx2) ⟨Dl, rfl, ⟨us, hD, ra⟩, r1.free0 nD, nd2, fun j c' hj z => ?_⟩
  obtain ⟨b, q1, q2, _⟩ := r1.own j c' hj
  rw [z] at q1
  cases q1
  obtain ⟨u, hu, _⟩ := q2.raw
  rw [nD] at hu
  cases hu

def gTupleA : List D → Sto → Option (D × Sto) := fun ds S => match ds with
    | [.wr _] => none
    | ds => gTuple ds S
theorem v_tupleA (hK : X.K = G.K) : VA G (fun xs H Q => ∃ p ys, xs = [.ref p] ∧ ((SqL X.K H p ys ∧ ∀ l, H l = none → Q (.ref l) (upd H l (.tup ys))) ∨ (SqT X.K H p ys ∧ Q (.ref p) H))) gTupleA := v_tuple hK
/-! ### defs that give new things -/
abbrev Rs := P ⊕ OC
/-- what comes is new -/
def gCallO (m : List P → Option Rs) (ds : List D) (S : Sto) : Option (D × Sto) := (pusOf ds).bind fun ps => (m ps).bind fun r => some (match r with | .inl p => .pu p | .inr c => .nw c, S)
/-- what comes is data -/
def gCallZ (m : List P → Option Rs) (ds : List D) (S : Sto) : Option (D × Sto) := (pusOf ds).bind fun ps => (m ps).bind fun r => some (match r with | .inl p => .pu p | .inr c => .pu (frzP c), S)
section
variable {k n : Nat} {ps : List Str} {x : Str} {p pos : Pos} {a : Expr} {es : List Expr} {xa : Ax} {m : List P → Option Rs}
end
def runO (n l : Nat) (b : Sx) (ps : List P) : Option Rs := if ps.length = n ∧ n ≤ l then (b (env0 l (ps.map .pu)) []).bind fun o => match o with
    | .nx _ _ => some (.inl .none)
    | .rt (.pu p) _ _ => some (.inl p)
    | .rt (.bo _ c) _ _ => some (.inr c)
    | .rt (.nw c) _ _ => some (.inr c)
    | _ => none
  else none
section
variable {Pg : Program} {w : World} {K : PySem.W.Frag} {mg : Str → Option Value} {base : Heap} {x qual : Str} {st : Stmt} {f : Addr} {fd : FuncData} {N ps : List Str} {k n : Nat} {b : Sx}
end
/-! ### a name's own thing lent -/
def scal : P → Bool
  | .none => true
  | .bool _ => true
  | .int _ => true
  | .str _ => true
  | _ => false
def flatD : D → Bool
  | .pu p => scal p
  | .wr _ => true
  | .rf _ => true
  | _ => false
def flatM : MC → Bool
  | .lst ds => ds.all flatD
  | .dct ps => ps.all fun q => flatD q.2
  | .obj _ fs => fs.all fun q => flatD q.2
  | .fz _ => false
  | .tup ds => ds.all flatD
  | .dead => true
def flatS (S : Sto) : Bool := S.all flatM
theorem scal_rep {H H' : Hp} {v : V} : ∀ {p : P}, scal p = true → Rep H v p → Rep H' v p
  | .none, _, h => by cases h; exact .non
  | .bool b, _, h => by cases h; exact .bl b
  | .int i, _, h => by cases h; exact .int i
  | .str x, _, h => by cases h; exact .str x
  | .list _, z, _ => by cases z
  | .tuple _, z, _ => by cases z
  | .dict _, z, _ => by cases z
theorem flat_rd {K : PySem.W.Frag} {H H' : Hp} {L : Nat} {v : V} : ∀ {d : D}, flatD d = true → RD K H f L v d → RD K H' f L v d
  | .pu _, z, h => scal_rep z h
  | .wr _, _, h => h
  | .rf _, _, h => h
  | .bo _ _, _, h => h
  | .nw _, _, h => h
theorem flat_mc {H H' : Hp} {L : Nat} {a : Addr} (k : H' a = H a) : ∀ {c : MC}, flatM c = true → MCok G H f L a c → MCok G H' f L a c
  | .lst ds, z, ⟨vs, h, r⟩ => ⟨vs, by rw [k]; exact h, flat_pr (List.all_eq_true.mp z) r⟩
  | .dct ps, z, ⟨qs, h, r, e⟩ => ⟨qs, by
      rcases h with ⟨kvs, h, y⟩ | ⟨kvs, h, y⟩
      · exact .inl ⟨kvs, by rw [k]; exact h, y⟩
      · exact .inr ⟨kvs, by rw [k]; exact h, y⟩, flat_pr (fun d hd => by
      obtain ⟨q, h1, h2⟩ := List.mem_map.mp hd
      rw [← h2]
      exact List.all_eq_true.mp z q h1) r, e⟩
  | .obj _ fs, z, ⟨C, dx, us, c, h, r, e⟩ => ⟨C, dx, us, c, by rw [k]; exact h, flat_pr (fun d hd => by
      obtain ⟨q, h1, h2⟩ := List.mem_map.mp hd
      rw [← h2]
      exact List.all_eq_true.mp z q h1) r, e⟩
  | .tup ds, z, ⟨vs, h, r⟩ => ⟨vs, by rw [k]; exact h, flat_pr (List.all_eq_true.mp z) r⟩
  | .dead, _, ⟨o, h⟩ => ⟨o, by rw [k]; exact h⟩
where flat_pr {H H' : Hp} {L : Nat} : ∀ {vs : List V} {ds : List D}, (∀ d ∈ ds, flatD d = true) → Paired (RD G.K H f L) vs ds → Paired (RD G.K H' f L) vs ds
  | _, _, _, .nil => .nil
  | _, _, z, .cons h t => .cons (flat_rd (z _ List.mem_cons_self) h) (flat_pr (fun d hd => z d (List.mem_cons_of_mem _ hd)) t)
open Classical in
noncomputable def xTf (i : Nat) (x : Ex) : Ex := fun e S => match e[i]? with
  | some (some (.ow c)) => (x (e.set i (some (.val (.pu (frzP c))))) S).bind fun r => match r.1 with
    | .pu p => if (scal p && flatS S) = true ∧ r.2 = S then some r else none
    | _ => none
  | _ => x e S
theorem d_tf (i : Nat) {a : Expr} {x : Ex} (h : DE X G a x) : DE X G a (xTf i x) := by
  refine ⟨fun pins s σ H Q I hw => ?_⟩
  obtain ⟨e, S, f, r, d, S', hx, q⟩ := hw
  unfold xTf at hx
  split at hx
  · rename_i c he
    obtain ⟨⟨d1, S1⟩, h1, hx⟩ := Option.bind_eq_some_iff.mp hx
    cases d1 with
    | pu p =>
      dsimp only at hx
      split at hx
      · rename_i cc
        cases hx
        obtain ⟨c1, c2⟩ := cc
        have c2 : S' = S := c2
        subst c2
        rw [Bool.and_eq_true] at c1
        obtain ⟨b, hσ, hoc, h0, hnc⟩ := r.own i c he
        obtain ⟨u, hu, mu⟩ := hoc.raw
        obtain ⟨od, I2⟩ := I.lock hu mu
        obtain ⟨r2, x2⟩ := r.freeze he hσ hu (od := od)
        refine thn (h.run pins s σ _ (fun v H2 => H2 b = some (.frz od u) ∧ Q v (upd H2 b u)) I2 ⟨_, S', f, r2, _, _, h1, fun v H2 f2 r3 n3 p3 => ⟨n3.ext.frzs b od u upd_same, ?_⟩⟩) fun w s2 hh => by
          obtain ⟨v, H2, I3, rv, hb, qq⟩ := hh
          exact ⟨v, _, I3.unlock hb (I.nofrz hu mu), rv, qq⟩
        have raw : ∀ c' o', H c' = some o' → c' ≠ b → (upd H b (.frz od u)) c' = some o' := fun c' o' z nb => by rw [upd_ne nb]; exact z
        have nx : Nx H (upd H2 b u) f f2 S'.length S'.length := by
          refine ⟨⟨fun c' xs z => ?_, fun c' o' w' z => ?_⟩, n3.ag, Nat.le_refl _, fun c' o' z nz => ?_, fun n l1 l2 => absurd l2 (Nat.not_lt.mpr l1), fun c' o' z => ?_⟩
          · have nb : c' ≠ b := fun y => by rw [y, hu] at z; cases z; exact mu
            rw [upd_ne nb]
            exact n3.ext.tups c' xs (raw c' _ z nb)
          · have nb : c' ≠ b := fun y => by rw [y, hu] at z; cases z; exact mu
            rw [upd_ne nb]
            exact n3.ext.frzs c' o' w' (raw c' _ z nb)
          · by_cases nb : c' = b
            · subst nb
              rw [upd_same, ← hu, z]
            · rw [upd_ne nb]
              exact n3.oth c' o' (raw c' o' z nb) nz
          · by_cases nb : c' = b
            · subst nb
              exact ⟨_, upd_same⟩
            · rw [upd_ne nb]
              exact n3.th c' o' (raw c' o' z nb)
        have fb : ∀ n, n < S'.length → f2 n ≠ b := fun n hn z => hnc n hn ((n3.ag n hn).symm.trans z)
        have cc : Cells G (upd H2 b u) f2 S' := ⟨fun n k hk => flat_mc (by rw [upd_ne (fb n (List.getElem?_eq_some_iff.mp hk).1)]) (List.all_eq_true.mp c1.2 k (List.mem_of_getElem? hk)) (r3.cel n k hk), r3.inj⟩
        exact q v _ f2 (r.nx nx cc) nx (scal_rep c1.1 p3)
      · cases hx
    | _ => cases hx
  · exact h.run pins s σ H Q I ⟨e, S, f, r, d, S', hx, q⟩
end
end DL
/-! DLF: t.index(x). -/
namespace DL
open PySem PySem.Spec PyProof.Rows L2
theorem hu65 {k : Nat} {A : Around} (r : Room k A) : A.units + 65 < cLine := by have := r.un; omega
section
variable {X : Cx} {G : Gx}
def gTIx (a b : D) (S : Sto) : Option (D × Sto) := match a with
  | .wr (.tuple ds) => (datD b).bind fun d => if (shp 9 (.tuple ds) && shp 9 d) = true then (ds.findIdx? fun z => PyData.eqv z d).map fun j => (.pu (.int (j : Nat)), S) else none
  | _ => none
end
end DL
/-! DLG: extend, max and min of three, xs[::-1], chains of three. -/
namespace DL
open PySem PySem.Spec PyProof.Rows L2
section
variable {X : Cx} {G : Gx} {σ : L2.St} {H : Hp} {e : Envi} {S : Sto} {f : Nat → Addr}
/-- a list that stands as it lies: its items -/
def rawD : D → Sto → Option (List D)
  | .nw (.lst xs), _ => some (xs.map .pu)
  | .bo _ (.lst xs), _ => some (xs.map .pu)
  | _, _ => none
theorem raw_rd (r : R G σ H e S f) {v : V} {d : D} {ds : List D} (h : RE G σ H e f S.length v d) (hs : rawD d S = some ds) : ∃ a vs, v = .ref a ∧ H a = some (.lst vs) ∧ Paired (RD G.K H f S.length) vs ds := by
  unfold rawD at hs
  split at hs
  · cases hs
    obtain ⟨a, e1, ⟨vs, h1, h2⟩, _⟩ := (show ∃ a, v = .ref a ∧ OCok H a (.lst _) ∧ _ from h)
    exact ⟨a, vs, e1, h1, reps_rd h2⟩
  · cases hs
    rename_i i xs
    obtain ⟨h1, h2⟩ := (show σ[i]? = some (some v) ∧ e[i]? = some (some (.ow (.lst xs))) from h)
    obtain ⟨a, h3, ⟨vs, h4, h5⟩, _⟩ := r.own i _ h2
    rw [h1] at h3
    cases h3
    exact ⟨a, vs, rfl, h4, reps_rd h5⟩
  · cases hs
def sExt (a x : Ex) : Sx := fun e S => (a e S).bind fun r => (lstD r.1 r.2).bind fun _ => (x e r.2).bind fun q => (rawD q.1 q.2).bind fun ys => (putL r.1 (fun ds => some (ds ++ ys)) e q.2).bind fun w => some (.nx w.1 w.2)
theorem ds_ext {o a : Expr} {xo xa : Ex} {apos cpos pos : Pos} (ho : DE X G o xo) (ha : DE X G a xa)
    (hbase : attributeBase o "extend" X.env (eval o X.env) = eval o X.env := by rfl)
    (hfew : ((backTo cpos (starEach [a] X.env)).all (fun x => !x.1) && (backToKw cpos (keywordEach [] X.env)).all (fun x => x.1.isSome) && decide (([a] : List Expr).length + ([] : List Keyword).length + (if ([] : List Keyword).isEmpty then 0 else 1) < 30)) = true := by rfl)
    (hline : (apos.endLine == cpos.line) = true := by rfl) (hs : starEach [a] X.env = (false, eval a X.env) :: starEach [] X.env := by rfl) (hplain : (backTo cpos (starEach [] X.env)).any (·.1) = false := by rfl) (hsw : swapsWith (.Call (.Attribute o "extend" apos) [a] [] cpos) none pos.line X.env = pure false := by rfl) :
    DS X G (.Expr (.Call (.Attribute o "extend" apos) [a] [] cpos) pos) (sExt xo xa) :=
  ps_mono (ps_expr (pe_bm PySem.F.plainAttrs_list PySem.F.slot_list_extend PySem.F.type_list_extend mt_extend ho (pa_cons ha pa_nil hs) hbase hfew hline hs hplain) hsw) fun T σ H hw => by
    obtain ⟨e, S, f, r, o, hx, q⟩ := hw
    obtain ⟨⟨d0, S0⟩, h0, hx⟩ := Option.bind_eq_some_iff.mp hx
    obtain ⟨l0, hl0, hx⟩ := Option.bind_eq_some_iff.mp hx
    obtain ⟨⟨d1, S1⟩, h1, hx⟩ := Option.bind_eq_some_iff.mp hx
    obtain ⟨ys, hy, hx⟩ := Option.bind_eq_some_iff.mp hx
    obtain ⟨⟨e2, S2⟩, h2, hx⟩ := Option.bind_eq_some_iff.mp hx
    cases hx
    refine ⟨e, S, f, r, d0, S0, h0, fun v0 H0 f0 r0 n0 p0 => ?_⟩
    refine ⟨?_, e, S0, f0, r0, d1, S1, h1, fun v1 H1 f1 r1 n1 p1 => ?_⟩
    · obtain ⟨a, xs, e1, e2, _⟩ := lst_rd r0 p0 hl0
      subst e1
      exact .inl ⟨rfl, xs, .inl e2⟩
    · obtain ⟨a, vs, ds, ds', e1, hv, hp, hg, hz, k⟩ := putL_ok r1 (p0.nx n1) h2
      cases hg
      obtain ⟨b, ws, e3, hb, hpb⟩ := raw_rd r1 p1 hy
      obtain ⟨r2, x2⟩ := k (vs ++ ws) (Paired.app hp hpb)
      rw [List.length_append, ← Paired.length hp, ← Paired.length hpb] at hz
      rw [e3]
      exact ⟨a, b, vs, ws, e1, rfl, hv, hb, hz, q _ _ f1 r2 ((n0.trans n1).ext.trans x2)⟩
/-! ### three -/
def a3 (p : P → P → P → Option P) : List D → Sto → Option (D × Sto)
  | [.pu a, .pu b, .pu c], S => (p a b c).bind fun z => some (.pu z, S)
  | _, _ => none
def mx (i j : Int) : Int := if i < j then j else i
def mn (i j : Int) : Int := if j < i then j else i
def pMax3 : P → P → P → Option P
  | .int i, .int j, .int k => some (.int (mx (mx i j) k))
  | _, _, _ => none
def pMin3 : P → P → P → Option P
  | .int i, .int j, .int k => some (.int (mn (mn i j) k))
  | _, _, _ => none
/-! ### backward -/
def gRev (d : D) (S : Sto) : Option (D × Sto) := (seqD d S).bind fun q => if q.1 then none else (pusOf q.2).bind fun ps => some (.pu (.list ps.reverse), S)
def gRevN (d : D) (S : Sto) : Option (D × Sto) := (seqD d S).bind fun q => if q.1 then none else (pusOf q.2).bind fun ps => some (.nw (.lst ps.reverse), S)
/-! ### a op b op c op d -/
def xChain3 (g g' g'' : D → D → Sto → Option (D × Sto)) (a b c d : Ex) : Ex := fun e S => (a e S).bind fun r => (b e r.2).bind fun q => (g r.1 q.1 q.2).bind fun z => match z.1 with
  | .pu (.bool k) => if k then (c e z.2).bind fun w => (g' q.1 w.1 w.2).bind fun y => match y.1 with
      | .pu (.bool k) => if k then (d e y.2).bind fun u => g'' w.1 u.1 u.2 else some (.pu (.bool false), y.2)
      | _ => none
    else some (.pu (.bool false), z.2)
  | _ => none
/-! ### x is True -/
def pBB (g : Bool → Bool → Bool) : P → P → Option P
  | .bool c, .bool d => some (.bool (g c d))
  | _, _ => none
end
end DL
/-! LW: what an evaluator comes to, from its head. -/
namespace DL
open PySem PySem.Spec PyProof.Rows L2
def W {α : Type} (o : Option α) (Q : α → Prop) : Prop := ∃ a, o = some a ∧ Q a
theorem W.imp {α : Type} {o : Option α} {Q R : α → Prop} (h : W o R) (k : ∀ a, R a → Q a) : W o Q := let ⟨a, h1, h2⟩ := h; ⟨a, h1, k a h2⟩
theorem W.and {α : Type} {o : Option α} {Q R : α → Prop} (h : W o Q) (k : W o R) : W o fun a => Q a ∧ R a := by
  obtain ⟨a, h1, h2⟩ := h
  obtain ⟨b, h3, h4⟩ := k
  rw [h1] at h3
  cases h3
  exact ⟨a, h1, h2, h4⟩
theorem w_some {α : Type} {a : α} {Q : α → Prop} : W (some a) Q ↔ Q a := ⟨fun ⟨_, h1, h2⟩ => (by cases h1; exact h2), fun h => ⟨a, rfl, h⟩⟩
theorem w_none {α : Type} {Q : α → Prop} : W none Q ↔ False := ⟨fun ⟨_, h1, _⟩ => (by cases h1), fun h => h.elim⟩
theorem w_bind {α β : Type} {o : Option α} {f : α → Option β} {Q : β → Prop} : W (o.bind f) Q ↔ W o fun a => W (f a) Q := by
  constructor
  · rintro ⟨b, h1, h2⟩
    obtain ⟨a, h3, h4⟩ := Option.bind_eq_some_iff.mp h1
    exact ⟨a, h3, b, h4, h2⟩
  · rintro ⟨a, rfl, b, h1, h2⟩
    exact ⟨b, h1, h2⟩
theorem w_map {α β : Type} {o : Option α} {f : α → β} {Q : β → Prop} : W (o.map f) Q ↔ W o fun a => Q (f a) := by
  cases o with
  | none => simp [w_none]
  | some a => simp [w_some]
theorem w_ite {α : Type} {c : Prop} [Decidable c] {a b : Option α} {Q : α → Prop} : W (if c then a else b) Q ↔ if c then W a Q else W b Q := by
  by_cases h : c
  · rw [if_pos h, if_pos h]
  · rw [if_neg h, if_neg h]
/-- a test's two ways -/
theorem both {c : Prop} [Decidable c] {A B : Prop} (h1 : c → A) (h2 : ¬c → B) : if c then A else B := by
  by_cases h : c
  · rw [if_pos h]; exact h1 h
  · rw [if_neg h]; exact h2 h
section
variable {e : Envi} {S : Sto} {G : Gx}
/-! ### expressions -/
def slv (i : Nat) (S : Sto) : Option (Option Sl) → Option (D × Sto)
  | some (some (.val d)) => some (d, S)
  | some (some (.ow c)) => some (.bo i c, S)
  | _ => none
theorem w_var {i : Nat} {Q : D × Sto → Prop} : W (xVar i e S) Q ↔ W (slv i S e[i]?) Q := by
  unfold xVar
  cases h : e[i]? with
  | none => exact Iff.rfl
  | some s => cases s with
    | none => exact Iff.rfl
    | some s => cases s <;> exact Iff.rfl
theorem w_slv {i : Nat} {d : D} {Q : D × Sto → Prop} : W (slv i S (some (some (.val d)))) Q ↔ Q (d, S) := w_some
theorem w_slo {i : Nat} {c : OC} {Q : D × Sto → Prop} : W (slv i S (some (some (.ow c)))) Q ↔ Q (.bo i c, S) := w_some
theorem w_P {p : P} {Q : D × Sto → Prop} : W (xP p e S) Q ↔ Q (.pu p, S) := w_some
theorem w_D {d : D} {Q : D × Sto → Prop} : W (xD d e S) Q ↔ Q (d, S) := w_some
theorem w_x1 {g : D → Sto → Option (D × Sto)} {a : Ex} {Q : D × Sto → Prop} : W (x1 g a e S) Q ↔ W (a e S) fun r => W (g r.1 r.2) Q := w_bind
theorem w_x2 {g : D → D → Sto → Option (D × Sto)} {a b : Ex} {Q : D × Sto → Prop} : W (x2 g a b e S) Q ↔ W (a e S) fun r => W (b e r.2) fun q => W (g r.1 q.1 q.2) Q := w_bind.trans (by simp only [w_bind])
theorem w_xA {g : List D → Sto → Option (D × Sto)} {a : Ax} {Q : D × Sto → Prop} : W (xA g a e S) Q ↔ W (a e S) fun r => W (g r.1 r.2) Q := w_bind
theorem w_nil {Q : List D × Sto → Prop} : W (aNil e S) Q ↔ Q ([], S) := w_some
theorem w_cons {a : Ex} {r : Ax} {Q : List D × Sto → Prop} : W (aCons a r e S) Q ↔ W (a e S) fun q => W (r e q.2) fun t => Q (q.1 :: t.1, t.2) := w_bind.trans (by simp only [w_bind, w_some])
theorem w_ite_x {t : Tx} {a b : Ex} {Q : D × Sto → Prop} : W (xIte t a b e S) Q ↔ W (t e S) fun r => if r.1 = true then W (a e r.2) Q else W (b e r.2) Q := w_bind.trans (by simp only [w_ite])
theorem w_isi {a : Ex} {Ts : List Ty} {Q : D × Sto → Prop} : W (xIsi a Ts e S) Q ↔ W (a e S) fun r => W (tyD r.1 r.2) fun t => Q (.pu (.bool (Ts.any t.is)), r.2) := w_bind.trans (by simp only [w_bind, w_some])
def boolD (Q : Bool → Sto → Prop) (S : Sto) : D → Prop
  | .pu (.bool b) => Q b S
  | _ => False
theorem w_tOfE {x : Ex} {Q : Bool × Sto → Prop} : W (tOfE x e S) Q ↔ W (x e S) fun r => boolD (fun b S => Q (b, S)) r.2 r.1 := by
  refine w_bind.trans ?_
  constructor
  · rintro ⟨⟨d, S1⟩, h, h2⟩
    refine ⟨_, h, ?_⟩
    cases d with
    | pu p => cases p with
      | bool b => obtain ⟨_, k1, k2⟩ := h2; cases k1; exact k2
      | _ => obtain ⟨_, k1, _⟩ := h2; cases k1
    | _ => obtain ⟨_, k1, _⟩ := h2; cases k1
  · rintro ⟨⟨d, S1⟩, h, h2⟩
    refine ⟨_, h, ?_⟩
    cases d with
    | pu p => cases p with
      | bool b => exact ⟨_, rfl, h2⟩
      | _ => exact h2.elim
    | _ => exact h2.elim
theorem w_bD {Q : Bool → Sto → Prop} {b : Bool} : boolD Q S (.pu (.bool b)) ↔ Q b S := Iff.rfl
theorem w_tNot {t : Tx} {Q : Bool × Sto → Prop} : W (tNotX t e S) Q ↔ W (t e S) fun r => Q (!r.1, r.2) := w_bind.trans (by simp only [w_some])
theorem w_tAnd {t u : Tx} {Q : Bool × Sto → Prop} : W (tAndX t u e S) Q ↔ W (t e S) fun r => if r.1 = true then W (u e r.2) Q else Q (false, r.2) := w_bind.trans (by simp only [w_ite, w_some])
theorem w_tOr {t u : Tx} {Q : Bool × Sto → Prop} : W (tOrX t u e S) Q ↔ W (t e S) fun r => if r.1 = true then Q (true, r.2) else W (u e r.2) Q := w_bind.trans (by simp only [w_ite, w_some])
theorem w_xBool {x : Ex} {f : Bool → Sto → Option (D × Sto)} {Q : D × Sto → Prop} : W ((x e S).bind fun r => match r.1 with | .pu (.bool c) => f c r.2 | _ => none) Q ↔ W (x e S) fun r => boolD (fun b S => W (f b S) Q) r.2 r.1 := by
  refine w_bind.trans ?_
  constructor
  · rintro ⟨⟨d, S1⟩, h, h2⟩
    refine ⟨_, h, ?_⟩
    cases d with
    | pu p => cases p with
      | bool b => exact h2
      | _ => obtain ⟨_, k1, _⟩ := h2; cases k1
    | _ => obtain ⟨_, k1, _⟩ := h2; cases k1
  · rintro ⟨⟨d, S1⟩, h, h2⟩
    refine ⟨_, h, ?_⟩
    cases d with
    | pu p => cases p with
      | bool b => exact h2
      | _ => exact h2.elim
    | _ => exact h2.elim
theorem w_and {a b : Ex} {Q : D × Sto → Prop} : W (xAndX a b e S) Q ↔ W (a e S) fun r => boolD (fun c S => if c = true then W (b e S) Q else Q (.pu (.bool false), S)) r.2 r.1 := (w_xBool (f := fun c S => if c then b e S else some (.pu (.bool false), S))).trans (by simp only [w_ite, w_some])
theorem w_or {a b : Ex} {Q : D × Sto → Prop} : W (xOrX a b e S) Q ↔ W (a e S) fun r => boolD (fun c S => if c = true then Q (.pu (.bool true), S) else W (b e S) Q) r.2 r.1 := (w_xBool (f := fun c S => if c then some (.pu (.bool true), S) else b e S)).trans (by simp only [w_ite, w_some])
/-! ### statements -/
def seqQ (b : Sx) (Q : Out → Prop) : Out → Prop
  | .nx e S => W (b e S) Q
  | .rt d e S => Q (.rt d e S)
  | .bk e S => Q (.bk e S)
  | .ct e S => Q (.ct e S)
theorem w_seq {a b : Sx} {Q : Out → Prop} : W (sSeq a b e S) Q ↔ W (a e S) (seqQ b Q) := by
  refine w_bind.trans ?_
  constructor
  · rintro ⟨o, h, h2⟩
    refine ⟨o, h, ?_⟩
    cases o with
    | nx e S => exact h2
    | _ => obtain ⟨_, k1, k2⟩ := h2; cases k1; exact k2
  · rintro ⟨o, h, h2⟩
    refine ⟨o, h, ?_⟩
    cases o with
    | nx e S => exact h2
    | _ => exact ⟨_, rfl, h2⟩
theorem w_qnx {b : Sx} {Q : Out → Prop} : seqQ b Q (.nx e S) ↔ W (b e S) Q := Iff.rfl
theorem w_qrt {b : Sx} {Q : Out → Prop} {d : D} : seqQ b Q (.rt d e S) ↔ Q (.rt d e S) := Iff.rfl
theorem w_qbk {b : Sx} {Q : Out → Prop} : seqQ b Q (.bk e S) ↔ Q (.bk e S) := Iff.rfl
theorem w_qct {b : Sx} {Q : Out → Prop} : seqQ b Q (.ct e S) ↔ Q (.ct e S) := Iff.rfl
theorem w_sNil {Q : Out → Prop} : W (sNil e S) Q ↔ Q (.nx e S) := w_some
theorem w_sBreak {Q : Out → Prop} : W (sBreak e S) Q ↔ Q (.bk e S) := w_some
theorem w_sCont {Q : Out → Prop} : W (sCont e S) Q ↔ Q (.ct e S) := w_some
theorem w_sDrop {x : Ex} {Q : Out → Prop} : W (sDrop x e S) Q ↔ W (x e S) fun r => Q (.nx e r.2) := w_bind.trans (by simp only [w_some])
theorem w_asg {x : Ex} {g : Gt} {Q : Out → Prop} : W (sAsg x g e S) Q ↔ W (x e S) fun r => W (g r.1 e r.2) fun q => Q (.nx q.1 q.2) := w_bind.trans (by simp only [w_bind, w_some])
theorem w_set {i : Nat} {x : Ex} {Q : Out → Prop} : W (sSet i x e S) Q ↔ W (x e S) fun r => W (gNm i r.1 e r.2) fun q => Q (.nx q.1 q.2) := w_asg
theorem w_ret {x : Ex} {Q : Out → Prop} : W (sRet x e S) Q ↔ W (x e S) fun r => Q (.rt r.1 e r.2) := w_bind.trans (by simp only [w_some])
theorem w_retN {Q : Out → Prop} : W (sRetN e S) Q ↔ Q (.rt (.pu .none) e S) := w_some
theorem w_if {t : Tx} {a b : Sx} {Q : Out → Prop} : W (sIf t a b e S) Q ↔ W (t e S) fun r => if r.1 = true then W (a e r.2) Q else W (b e r.2) Q := w_bind.trans (by simp only [w_ite])
theorem w_for {it : Ix} {g : Gt} {b : Sx} {Q : Out → Prop} : W (sFor it g b e S) Q ↔ W (it e S) fun r => W (forD (fun d e S => (g d e S).bind fun q => b q.1 q.2) r.1 e r.2) Q := w_bind
def fqE (i : Nat) (e : Envi) : Option (Option Sl) → Envi
  | some (some (.ow c)) => e.set i (some (.val (.pu (frzP c))))
  | _ => e
theorem w_fq {i : Nat} {s : Sx} {Q : Out → Prop} : W (sFq i s e S) Q ↔ W (s (fqE i e e[i]?) S) Q := by
  unfold sFq
  cases h : e[i]? with
  | none => exact Iff.rfl
  | some z => cases z with
    | none => exact Iff.rfl
    | some z => cases z <;> exact Iff.rfl
theorem w_fqo {i : Nat} {c : OC} : fqE i e (some (some (.ow c))) = e.set i (some (.val (.pu (frzP c)))) := rfl
theorem w_fqv {i : Nat} {d : D} : fqE i e (some (some (.val d))) = e := rfl
theorem w_nmP {i : Nat} {p : P} {Q : Envi × Sto → Prop} : W (gNm i (.pu p) e S) Q ↔ Q (e.set i (some (.val (.pu p))), S) := w_some
theorem w_nmW {i : Nat} {p : P} {Q : Envi × Sto → Prop} : W (gNm i (.wr p) e S) Q ↔ Q (e.set i (some (.val (.wr p))), S) := w_some
theorem w_nmR {i n : Nat} {Q : Envi × Sto → Prop} : W (gNm i (.rf n) e S) Q ↔ Q (e.set i (some (.val (.rf n))), S) := w_some
theorem w_gnNil {Q : Envi × Sto → Prop} : W (gnNil [] e S) Q ↔ Q (e, S) := w_some
theorem w_gtNil {Q : Envi × Sto → Prop} : W (gtNil [] e S) Q ↔ Q (e, S) := w_some
theorem w_gnCons {g : Gt} {r : Gts} {d : D} {ds : List D} {Q : Envi × Sto → Prop} : W (gnCons g r (d :: ds) e S) Q ↔ W (g d e S) fun q => W (r ds q.1 S) Q := by
  show W ((g d e S).bind fun q => r ds q.1 S) Q ↔ _
  exact w_bind
theorem w_gtCons {g : Gt} {r : Gts} {d : D} {ds : List D} {Q : Envi × Sto → Prop} : W (gtCons g r (d :: ds) e S) Q ↔ W (gtCons.pusW ds) fun _ => W (g d e S) fun q => W (r ds q.1 q.2) Q := w_bind.trans (by simp only [w_bind])
theorem w_pwN {Q : Unit → Prop} : W (gtCons.pusW []) Q ↔ Q () := w_some
theorem w_pwP {p : P} {ds : List D} {Q : Unit → Prop} : W (gtCons.pusW (.pu p :: ds)) Q ↔ W (gtCons.pusW ds) Q := Iff.rfl
theorem w_pwW {p : P} {ds : List D} {Q : Unit → Prop} : W (gtCons.pusW (.wr p :: ds)) Q ↔ W (gtCons.pusW ds) Q := Iff.rfl
theorem w_gtLst {n : Nat} {g : Gts} {d : D} {Q : Envi × Sto → Prop} : W (gtLst n g d e S) Q ↔ W (seqD d S) fun q => q.2.length = n ∧ W (g q.2 e S) Q := by
  unfold gtLst
  cases h : seqD d S with
  | none => simp only [w_none]
  | some q =>
    obtain ⟨k, ds⟩ := q
    dsimp only
    rw [w_ite, w_some]
    by_cases c : ds.length = n
    · rw [if_pos c]
      exact ⟨fun h => ⟨c, h⟩, fun h => h.2⟩
    · rw [if_neg c]
      exact ⟨fun h => (w_none.mp h).elim, fun h => (c h.1).elim⟩
theorem w_gSubT {xo xi : Ex} {d : D} {Q : Envi × Sto → Prop} : W (gSubT xo xi d e S) Q ↔ W (xo e S) fun o => W (xi e o.2) fun i => noBo [d] = true ∧ W (putS o.1 i.1 d e i.2) Q := by
  refine w_bind.trans ?_
  simp only [w_bind, w_ite, w_none]
  constructor
  · exact fun h => h.imp fun a h => h.imp fun b h => by
      by_cases c : noBo [d] = true
      · rw [if_pos c] at h; exact ⟨c, h⟩
      · rw [if_neg c] at h; exact h.elim
  · exact fun h => h.imp fun a h => h.imp fun b h => by rw [if_pos h.1]; exact h.2
/-! ### operations -/
theorem w_s1 {p : P → Option P} {a : P} {Q : D × Sto → Prop} : W (s1 p (.pu a) S) Q ↔ W (p a) fun c => Q (.pu c, S) := w_bind.trans (by simp only [w_some])
theorem w_s2 {p : P → P → Option P} {a b : P} {Q : D × Sto → Prop} : W (s2 p (.pu a) (.pu b) S) Q ↔ W (p a b) fun c => Q (.pu c, S) := w_bind.trans (by simp only [w_some])
theorem w_pI {C : Int → Int → Bool} {g : Int → Int → Int} {i j : Int} {Q : P → Prop} : W (pI C g (.int i) (.int j)) Q ↔ C i j = true ∧ Q (.int (g i j)) := by
  show W (if C i j = true then some (PyData.int (g i j)) else none) Q ↔ _
  rw [w_ite, w_some, w_none]
  by_cases c : C i j = true
  · rw [if_pos c]; exact ⟨fun h => ⟨c, h⟩, fun h => h.2⟩
  · rw [if_neg c]; exact ⟨fun h => h.elim, fun h => (c h.1).elim⟩
theorem w_pIB {g : Int → Int → Bool} {i j : Int} {Q : P → Prop} : W (pIB g (.int i) (.int j)) Q ↔ Q (.bool (g i j)) := w_some
theorem w_pNeg {i : Int} {Q : P → Prop} : W (pNeg (.int i)) Q ↔ Q (.int (-i)) := w_some
theorem w_pAbs {i : Int} {Q : P → Prop} : W (pAbs (.int i)) Q ↔ Q (.int (i.natAbs : Nat)) := by
  rw [show ((i.natAbs : Nat) : Int) = if i < 0 then -i else i by split <;> omega]
  exact w_some
theorem w_pDm {i j : Int} {Q : P → Prop} : W (pDivmod (.int i) (.int j)) Q ↔ (0 < j ∧ j < 1073741824) ∧ Q (.tuple [.int (i / j), .int (i % j)]) := by
  show W (if 0 < j ∧ j < 1073741824 then _ else none) Q ↔ _
  rw [w_ite, w_some, w_none]
  by_cases c : 0 < j ∧ j < 1073741824
  · rw [if_pos c]; exact ⟨fun h => ⟨c, h⟩, fun h => h.2⟩
  · rw [if_neg c]; exact ⟨fun h => h.elim, fun h => (c h.1).elim⟩
theorem w_a1 {p : P → Option P} {a : P} {Q : D × Sto → Prop} : W (a1 p [.pu a] S) Q ↔ W (p a) fun c => Q (.pu c, S) := w_bind.trans (by simp only [w_some])
theorem w_a2 {p : P → P → Option P} {a b : P} {Q : D × Sto → Prop} : W (a2 p [.pu a, .pu b] S) Q ↔ W (p a b) fun c => Q (.pu c, S) := w_bind.trans (by simp only [w_some])
theorem w_add {i j : Int} {Q : D × Sto → Prop} : W (gAdd (.pu (.int i)) (.pu (.int j)) S) Q ↔ Q (.pu (.int (i + j)), S) := w_some
theorem w_not {c : Bool} {Q : D × Sto → Prop} : W (gNot (.pu (.bool c)) S) Q ↔ Q (.pu (.bool (!c)), S) := w_some
theorem w_ixL {xs : List P} {k : Int} {Q : D × Sto → Prop} : W (gIx (.pu (.list xs)) (.pu (.int k)) S) Q ↔ W (atI (xs.map D.pu) k) fun z => Q (z, S) := w_bind.trans (by simp only [seqD, w_some, w_bind])
theorem w_ixT {xs : List P} {k : Int} {Q : D × Sto → Prop} : W (gIx (.pu (.tuple xs)) (.pu (.int k)) S) Q ↔ W (atI (xs.map D.pu) k) fun z => Q (z, S) := w_bind.trans (by simp only [seqD, w_some, w_bind])
theorem w_ixB {i : Nat} {xs : List P} {k : Int} {Q : D × Sto → Prop} : W (gIx (.bo i (.lst xs)) (.pu (.int k)) S) Q ↔ W (atI (xs.map D.pu) k) fun z => Q (z, S) := w_bind.trans (by simp only [seqD, w_some, w_bind])
theorem w_ixWL {xs : List P} {k : Int} {Q : D × Sto → Prop} : W (gIx (.wr (.list xs)) (.pu (.int k)) S) Q ↔ W (atI (xs.map wrD) k) fun z => Q (z, S) := w_bind.trans (by simp only [seqD, w_some, w_bind])
theorem w_ixWT {xs : List P} {k : Int} {Q : D × Sto → Prop} : W (gIx (.wr (.tuple xs)) (.pu (.int k)) S) Q ↔ W (atI (xs.map wrD) k) fun z => Q (z, S) := w_bind.trans (by simp only [seqD, w_some, w_bind])
theorem w_getT {xs : List P} {i : D} {Q : D × Sto → Prop} : W (gGet (.pu (.tuple xs)) i S) Q ↔ W (gIx (.pu (.tuple xs)) i S) Q := Iff.rfl
theorem w_getL {xs : List P} {i : D} {Q : D × Sto → Prop} : W (gGet (.pu (.list xs)) i S) Q ↔ W (gIx (.pu (.list xs)) i S) Q := Iff.rfl
theorem w_getB {k : Nat} {xs : List P} {i : D} {Q : D × Sto → Prop} : W (gGet (.bo k (.lst xs)) i S) Q ↔ W (gIx (.bo k (.lst xs)) i S) Q := Iff.rfl
theorem w_getW {p : P} {i : D} {Q : D × Sto → Prop} : W (gGet (.wr p) i S) Q ↔ W (gIx (.wr p) i S) Q := Iff.rfl
theorem w_getD {n : Nat} {ps : List (P × D)} {p : P} {Q : D × Sto → Prop} (h : S[n]? = some (.dct ps)) : W (gGet (.rf n) (.pu p) S) Q ↔ W (keyD p) fun _ => W (dlook ps p) fun z => Q (z, S) := by
  have hd : dicD (.rf n) S = some ps := by
    show (match S[n]? with | some (.dct ps) => some ps | _ => none) = _
    rw [h]
  unfold gGet
  rw [hd]
  exact w_bind.trans (by simp only [w_bind, w_some])
theorem w_getR {n : Nat} {ds : List D} {k : Int} {Q : D × Sto → Prop} (h : S[n]? = some (.lst ds)) : W (gGet (.rf n) (.pu (.int k)) S) Q ↔ W (atI ds k) fun z => Q (z, S) := by
  have hd : dicD (.rf n) S = none := by
    show (match S[n]? with | some (.dct ps) => some ps | _ => none) = _
    rw [h]
  unfold gGet
  rw [hd]
  show W (gIx (.rf n) (.pu (.int k)) S) Q ↔ _
  refine w_bind.trans ?_
  simp only [seqD, h, w_some, w_bind]
theorem w_keyS {x : Str} {Q : Key ⊕ List Key → Prop} : W (keyD (.str x)) Q ↔ Q (.inl (.inr x)) := w_some
theorem w_keyI {x : Int} {Q : Key ⊕ List Key → Prop} : W (keyD (.int x)) Q ↔ Q (.inl (.inl x)) := w_some
theorem w_lkN {α : Type} {p : P} {Q : α → Prop} : W (dlook [] p) Q ↔ False := w_none
theorem w_lkC {α : Type} {q : P × α} {ps : List (P × α)} {p : P} {Q : α → Prop} : W (dlook (q :: ps) p) Q ↔ if PyData.eqv q.1 p = true then Q q.2 else W (dlook ps p) Q := by rw [dlook_cons, w_ite, w_some]
theorem w_lenL {xs : List P} {Q : D × Sto → Prop} : W (gLen [.pu (.list xs)] S) Q ↔ Q (.pu (.int xs.length), S) := by
  show W ((seqD (.pu (.list xs)) S).bind fun q => some (D.pu (.int q.2.length), S)) Q ↔ _
  simp only [w_bind, seqD, w_some, List.length_map]
theorem w_lenT {xs : List P} {Q : D × Sto → Prop} : W (gLen [.pu (.tuple xs)] S) Q ↔ Q (.pu (.int xs.length), S) := by
  show W ((seqD (.pu (.tuple xs)) S).bind fun q => some (D.pu (.int q.2.length), S)) Q ↔ _
  simp only [w_bind, seqD, w_some, List.length_map]
theorem w_lenB {i : Nat} {xs : List P} {Q : D × Sto → Prop} : W (gLen [.bo i (.lst xs)] S) Q ↔ Q (.pu (.int xs.length), S) := by
  show W ((seqD (.bo i (.lst xs)) S).bind fun q => some (D.pu (.int q.2.length), S)) Q ↔ _
  simp only [w_bind, seqD, w_some, List.length_map]
theorem w_lenR {n : Nat} {ds : List D} {Q : D × Sto → Prop} (h : S[n]? = some (.lst ds)) : W (gLen [.rf n] S) Q ↔ Q (.pu (.int ds.length), S) := by
  refine w_bind.trans ?_
  simp only [seqD, h, w_some]
theorem w_puN {Q : List P → Prop} : W (pusOf []) Q ↔ Q [] := w_some
theorem w_puC {p : P} {ds : List D} {Q : List P → Prop} : W (pusOf (.pu p :: ds)) Q ↔ W (pusOf ds) fun ps => Q (p :: ps) := w_bind.trans (by simp only [w_some])
theorem pus_map : ∀ ps : List P, pusOf (ps.map D.pu) = some ps
  | [] => rfl
  | p :: ps => by
    show (pusOf (ps.map D.pu)).bind _ = _
    rw [pus_map ps]
    rfl
theorem w_puM {ps : List P} {Q : List P → Prop} : W (pusOf (ps.map D.pu)) Q ↔ Q ps := by rw [pus_map]; exact w_some
theorem w_limQ {n : Nat} {r : D × Sto} {Q : D × Sto → Prop} : W (if n ≤ lim then some r else none) Q ↔ n ≤ lim ∧ Q r := by
  rw [w_ite, w_some, w_none]
  by_cases c : n ≤ lim
  · rw [if_pos c]; exact ⟨fun h => ⟨c, h⟩, fun h => h.2⟩
  · rw [if_neg c]; exact ⟨fun h => h.elim, fun h => (c h.1).elim⟩
theorem w_tup {ds : List D} {Q : D × Sto → Prop} : W (gTup ds S) Q ↔ W (pusOf ds) fun ps => ps.length ≤ lim ∧ Q (.pu (.tuple ps), S) := w_bind.trans (by simp only [w_limQ])
theorem w_lst {ds : List D} {Q : D × Sto → Prop} : W (gLst ds S) Q ↔ W (pusOf ds) fun ps => ps.length ≤ lim ∧ Q (.pu (.list ps), S) := w_bind.trans (by simp only [w_limQ])
theorem w_list {d : D} {Q : D × Sto → Prop} : W (gList [d] S) Q ↔ W (seqD d S) fun q => W (pusOf q.2) fun ps => Q (.pu (.list ps), S) := w_bind.trans (by simp only [w_bind, w_some])
theorem w_listC {d : D} {Q : D × Sto → Prop} : W (gListC [d] S) Q ↔ W (seqD d S) fun q => Q (.rf S.length, S ++ [.lst q.2]) := w_bind.trans (by simp only [w_some])
theorem w_lstC {ds : List D} {Q : D × Sto → Prop} : W (gLstC ds S) Q ↔ (noBo ds && decide (ds.length ≤ lim)) = true ∧ Q (.rf S.length, S ++ [.lst ds]) := by
  unfold gLstC
  rw [w_ite, w_some, w_none]
  by_cases c : (noBo ds && decide (ds.length ≤ lim)) = true
  · rw [if_pos c]; exact ⟨fun h => ⟨c, h⟩, fun h => h.2⟩
  · rw [if_neg c]; exact ⟨fun h => h.elim, fun h => (c h.1).elim⟩
theorem w_seL {xs : List P} {Q : Bool × List D → Prop} : W (seqD (.pu (.list xs)) S) Q ↔ Q (false, xs.map .pu) := w_some
theorem w_seT {xs : List P} {Q : Bool × List D → Prop} : W (seqD (.pu (.tuple xs)) S) Q ↔ Q (true, xs.map .pu) := w_some
theorem w_seWL {xs : List P} {Q : Bool × List D → Prop} : W (seqD (.wr (.list xs)) S) Q ↔ Q (false, xs.map wrD) := w_some
theorem w_seWT {xs : List P} {Q : Bool × List D → Prop} : W (seqD (.wr (.tuple xs)) S) Q ↔ Q (true, xs.map wrD) := w_some
theorem w_seB {i : Nat} {xs : List P} {Q : Bool × List D → Prop} : W (seqD (.bo i (.lst xs)) S) Q ↔ Q (false, xs.map .pu) := w_some
theorem w_eq {n : Bool} {a b : P} {Q : D × Sto → Prop} : W (gEq n (.pu a) (.pu b) S) Q ↔ (shp 9 a && shp 9 b) = true ∧ Q (.pu (.bool (if n = true then !PyData.eqv a b else PyData.eqv a b)), S) := by
  show W (if (shp 9 a && shp 9 b) = true then _ else none) Q ↔ _
  rw [w_ite, w_some, w_none]
  by_cases c : (shp 9 a && shp 9 b) = true
  · rw [if_pos c]; exact ⟨fun h => ⟨c, h⟩, fun h => h.2⟩
  · rw [if_neg c]; exact ⟨fun h => h.elim, fun h => (c h.1).elim⟩
theorem w_callF {m : List D → Sto → Option (D × Sto)} {ds : List D} {Q : D × Sto → Prop} : W (gCallF m ds S) Q ↔ noBo ds = true ∧ W (m ds S) Q := by
  unfold gCallF
  rw [w_ite, w_none]
  by_cases c : noBo ds = true
  · rw [if_pos c]; exact ⟨fun h => ⟨c, h⟩, fun h => h.2⟩
  · rw [if_neg c]; exact ⟨fun h => h.elim, fun h => (c h.1).elim⟩
theorem w_callP {m : List P → Option P} {ds : List D} {Q : D × Sto → Prop} : W (gCallP m ds S) Q ↔ W (pusOf ds) fun ps => W (m ps) fun p => Q (.pu p, S) := w_bind.trans (by simp only [w_bind, w_some])
/-! ### defs -/
def endQ (Q : D × Sto → Prop) : Out → Prop
  | .nx _ S => Q (.pu .none, S)
  | .rt d _ S => noBo [d] = true ∧ Q (d, S)
  | _ => False
theorem w_runF {n l : Nat} {b : Sx} {ds : List D} {Q : D × Sto → Prop} : W (runF n l b ds S) Q ↔ (ds.length = n ∧ n ≤ l) ∧ W (b (env0 l ds) S) (endQ Q) := by
  unfold runF
  rw [w_ite, w_none]
  by_cases c : ds.length = n ∧ n ≤ l
  · rw [if_pos c, w_bind]
    refine ⟨fun h => ⟨c, h.imp fun o h => ?_⟩, fun h => h.2.imp fun o h => ?_⟩
    · cases o with
      | nx e S => obtain ⟨_, k1, k2⟩ := h; cases k1; exact k2
      | rt d e S =>
        dsimp only at h
        rw [w_ite, w_some, w_none] at h
        by_cases c2 : noBo [d] = true
        · rw [if_pos c2] at h; exact ⟨c2, h⟩
        · rw [if_neg c2] at h; exact h.elim
      | _ => obtain ⟨_, k1, _⟩ := h; cases k1
    · cases o with
      | nx e S => exact ⟨_, rfl, h⟩
      | rt d e S =>
        dsimp only
        rw [if_pos h.1]
        exact ⟨_, rfl, h.2⟩
      | _ => exact h.elim
  · rw [if_neg c]; exact ⟨fun h => h.elim, fun h => (c h.1).elim⟩
theorem w_eqn {Q : D × Sto → Prop} : endQ Q (.nx e S) ↔ Q (.pu .none, S) := Iff.rfl
theorem w_eqr {Q : D × Sto → Prop} {d : D} : endQ Q (.rt d e S) ↔ noBo [d] = true ∧ Q (d, S) := Iff.rfl
def endP (Q : P → Prop) : Out → Prop
  | .nx _ _ => Q .none
  | .rt (.pu p) _ _ => Q p
  | _ => False
theorem w_runP {n l : Nat} {b : Sx} {ps : List P} {Q : P → Prop} : W (runP n l b ps) Q ↔ (ps.length = n ∧ n ≤ l) ∧ W (b (env0 l (ps.map .pu)) []) (endP Q) := by
  unfold runP
  rw [w_bind, w_runF, List.length_map]
  refine and_congr_right fun _ => ⟨fun h => h.imp fun o h => ?_, fun h => h.imp fun o h => ?_⟩
  · cases o with
    | nx e S => obtain ⟨_, k1, k2⟩ := h; cases k1; exact k2
    | rt d e S =>
      cases d with
      | pu p => obtain ⟨_, _, k1, k2⟩ := h; cases k1; exact k2
      | _ => obtain ⟨_, _, k1, _⟩ := h; cases k1
    | _ => exact h
  · cases o with
    | nx e S => exact ⟨_, rfl, h⟩
    | rt d e S =>
      cases d with
      | pu p => exact ⟨rfl, _, rfl, h⟩
      | _ => exact h.elim
    | _ => exact h
theorem w_epn {Q : P → Prop} : endP Q (.nx e S) ↔ Q .none := Iff.rfl
theorem w_epr {Q : P → Prop} {p : P} : endP Q (.rt (.pu p) e S) ↔ Q p := Iff.rfl
/-! ### loops -/
def loopQ (I : Envi → Sto → Prop) (Q : Out → Prop) : Out → Prop
  | .nx e S => I e S
  | .ct e S => I e S
  | .bk e S => Q (.nx e S)
  | .rt d e S => Q (.rt d e S)
theorem w_lqn {I : Envi → Sto → Prop} {Q : Out → Prop} : loopQ I Q (.nx e S) ↔ I e S := Iff.rfl
theorem w_lqc {I : Envi → Sto → Prop} {Q : Out → Prop} : loopQ I Q (.ct e S) ↔ I e S := Iff.rfl
theorem w_lqb {I : Envi → Sto → Prop} {Q : Out → Prop} : loopQ I Q (.bk e S) ↔ Q (.nx e S) := Iff.rfl
theorem w_lqr {I : Envi → Sto → Prop} {Q : Out → Prop} {d : D} : loopQ I Q (.rt d e S) ↔ Q (.rt d e S) := Iff.rfl
theorem for_step {b : D → Envi → Sto → Option Out} {d : D} {ds : List D} {Q : Out → Prop} : W (forD b (d :: ds) e S) Q ↔ W (b d e S) (loopQ (fun e S => W (forD b ds e S) Q) Q) := by
  refine w_bind.trans ?_
  refine ⟨fun h => h.imp fun o h => ?_, fun h => h.imp fun o h => ?_⟩
  · cases o with
    | nx e S => exact h
    | ct e S => exact h
    | _ => obtain ⟨_, k1, k2⟩ := h; cases k1; exact k2
  · cases o with
    | nx e S => exact h
    | ct e S => exact h
    | _ => exact ⟨_, rfl, h⟩
theorem for_nil {b : D → Envi → Sto → Option Out} {Q : Out → Prop} : W (forD b [] e S) Q ↔ Q (.nx e S) := w_some
/-- an invariant, turn by turn -/
theorem for_inv {b : D → Envi → Sto → Option Out} {Q : Out → Prop} (I : Nat → Envi → Sto → Prop) : ∀ (ds : List D) (j : Nat) (e : Envi) (S : Sto), I j e S → (∀ i d e S, ds[i]? = some d → I (j + i) e S → W (b d e S) (loopQ (I (j + i + 1)) Q)) → (∀ e S, I (j + ds.length) e S → Q (.nx e S)) → W (forD b ds e S) Q
  | [], j, e, S, h, _, q => for_nil.mpr (q e S h)
  | d :: ds, j, e, S, h, st, q => for_step.mpr ((st 0 d e S rfl h).imp fun o h => by
    have next : ∀ e S, I (j + 1) e S → W (forD b ds e S) Q := fun e S h => for_inv I ds (j + 1) e S h (fun i d e S hd hi => by
      have e1 : j + 1 + i = j + (i + 1) := by omega
      rw [e1] at hi ⊢
      exact st (i + 1) d e S (by simpa using hd) hi) fun e S hi => q e S (by
      have e1 : j + (d :: ds).length = j + 1 + ds.length := by rw [List.length_cons]; omega
      rw [e1]; exact hi)
    cases o with
    | nx e S => exact next e S h
    | ct e S => exact next e S h
    | bk e S => exact h
    | rt d e S => exact h)
theorem rng_get {lo : Int} {n i : Nat} {d : D} (h : (rngD lo n)[i]? = some d) : i < n ∧ d = .pu (.int (lo + i)) := by
  unfold rngD at h
  rw [List.getElem?_map] at h
  by_cases c : i < n
  · rw [List.getElem?_range c] at h
    cases h
    exact ⟨c, rfl⟩
  · rw [List.getElem?_eq_none (by rw [List.length_range]; omega)] at h
    cases h
theorem rng_len {lo : Int} {n : Nat} : (rngD lo n).length = n := by unfold rngD; rw [List.length_map, List.length_range]
def rgQ (Q : List D × Sto → Prop) (S : Sto) : List D → Prop
  | [.pu (.int j)] => rOk j = true ∧ Q (rngD 0 j.toNat, S)
  | _ => False
theorem w_rg {Q : List D × Sto → Prop} {j : Int} : rgQ Q S [.pu (.int j)] ↔ rOk j = true ∧ Q (rngD 0 j.toNat, S) := Iff.rfl
theorem w_rng1 {a : Ax} {Q : List D × Sto → Prop} : W (iRange1 a e S) Q ↔ W (a e S) fun r => rgQ Q r.2 r.1 := by
  refine w_bind.trans ⟨fun h => h.imp fun r h => ?_, fun h => h.imp fun r h => ?_⟩
  · obtain ⟨ds, S1⟩ := r
    dsimp only at h ⊢
    split at h
    · rw [w_ite, w_none, w_some] at h
      rename_i j
      by_cases c : rOk j = true
      · rw [if_pos c] at h; exact ⟨c, h⟩
      · rw [if_neg c] at h; exact h.elim
    · exact (w_none.mp h).elim
  · obtain ⟨ds, S1⟩ := r
    dsimp only at h ⊢
    unfold rgQ at h
    split at h
    · try dsimp only
      rw [if_pos h.1]; exact ⟨_, rfl, h.2⟩
    · exact h.elim
end
section
variable {e : Envi} {S : Sto} {G : Gx}
/-! ### slices, displays, comprehensions -/
theorem w_sl {a : Ex} {lo hi : Ox} {Q : D × Sto → Prop} : W (xSl a lo hi e S) Q ↔ W (a e S) fun r => W (lo e r.2) fun l => W (hi e l.2) fun h => W (gSl r.1 l.1 h.1 h.2) Q := by
  show W ((a e S).bind fun r => (lo e r.2).bind fun l => (hi e l.2).bind fun h => gSl r.1 l.1 h.1 h.2) Q ↔ _
  rw [w_bind]
  refine ⟨fun h => h.imp fun r h => ?_, fun h => h.imp fun r h => ?_⟩
  · exact (w_bind.mp h).imp fun l h => w_bind.mp h
  · exact w_bind.mpr (h.imp fun l h => w_bind.mpr h)
theorem w_oN {Q : Option Int × Sto → Prop} : W (oNone e S) Q ↔ Q (none, S) := w_some
def intQ (Q : Int → Sto → Prop) (S : Sto) : D → Prop
  | .pu (.int i) => Q i S
  | _ => False
theorem w_iQ {Q : Int → Sto → Prop} {i : Int} : intQ Q S (.pu (.int i)) ↔ Q i S := Iff.rfl
theorem w_oS {x : Ex} {Q : Option Int × Sto → Prop} : W (oSome x e S) Q ↔ W (x e S) fun r => intQ (fun i S => Q (some i, S)) r.2 r.1 := by
  refine w_bind.trans ⟨fun h => h.imp fun r h => ?_, fun h => h.imp fun r h => ?_⟩
  · obtain ⟨d, S1⟩ := r
    dsimp only at h ⊢
    split at h
    · obtain ⟨_, k1, k2⟩ := h; cases k1; exact k2
    · obtain ⟨_, k1, _⟩ := h; cases k1
  · obtain ⟨d, S1⟩ := r
    dsimp only at h ⊢
    unfold intQ at h
    split at h
    · exact ⟨_, rfl, h⟩
    · exact h.elim
theorem cutL_map {α β : Type} (f : α → β) (xs : List α) (lo hi : Option Int) : cutL (xs.map f) lo hi = (cutL xs lo hi).map f := by
  unfold cutL
  rw [List.length_map, List.map_take, List.map_drop]
theorem w_gSlL {xs : List P} {lo hi : Option Int} {Q : D × Sto → Prop} : W (gSl (.pu (.list xs)) lo hi S) Q ↔ Q (.pu (.list (cutL xs lo hi)), S) := by
  show W ((some (false, xs.map D.pu)).bind fun q : Bool × List D => _) Q ↔ _
  show W ((pusOf (cutL (xs.map D.pu) lo hi)).bind fun ps => some (D.pu (.list ps), S)) Q ↔ _
  rw [cutL_map, pus_map]
  exact w_some
theorem w_gSlB {i : Nat} {xs : List P} {lo hi : Option Int} {Q : D × Sto → Prop} : W (gSl (.bo i (.lst xs)) lo hi S) Q ↔ Q (.pu (.list (cutL xs lo hi)), S) := by
  show W ((pusOf (cutL (xs.map D.pu) lo hi)).bind fun ps => some (D.pu (.list ps), S)) Q ↔ _
  rw [cutL_map, pus_map]
  exact w_some
theorem wrD_ints (ns : List Int) : (ns.map PyData.int).map wrD = (ns.map PyData.int).map D.pu := by
  rw [List.map_map, List.map_map]
  rfl
theorem w_gSlW {ns : List Int} {lo hi : Option Int} {Q : D × Sto → Prop} : W (gSl (.wr (.list (ns.map .int))) lo hi S) Q ↔ Q (.pu (.list (cutL (ns.map .int) lo hi)), S) := by
  show W ((pusOf (cutL ((ns.map PyData.int).map wrD) lo hi)).bind fun ps => some (D.pu (.list ps), S)) Q ↔ _
  rw [wrD_ints, cutL_map, pus_map]
  exact w_some
theorem w_disp {ks : List Key} {xa : Ax} {Q : D × Sto → Prop} : W (xDisp ks xa e S) Q ↔ W (xa e S) fun r => (noBo r.1 && decide (ks.length ≤ 15)) = true ∧ Q (.rf r.2.length, r.2 ++ [.dct (dmerge [] (List.zip (ks.map keyP) r.1))]) := by
  refine w_bind.trans ⟨fun h => h.imp fun r h => ?_, fun h => h.imp fun r h => ?_⟩
  · by_cases c : (noBo r.1 && decide (ks.length ≤ 15)) = true
    · rw [if_pos c] at h; exact ⟨c, w_some.mp h⟩
    · rw [if_neg c] at h; exact (w_none.mp h).elim
  · rw [if_pos h.1]; exact w_some.mpr h.2
theorem w_lc {it : Ix} {g : Gt} {t : Tx} {x : Ex} {vs : List Nat} {Q : D × Sto → Prop} : W (xLc it g t x vs e S) Q ↔ W (it e S) fun r => W (compD g t x (wipeE e vs) r.1 r.2 []) fun q => Q (.pu (.list q.1), q.2) := by
  refine w_bind.trans ⟨fun h => h.imp fun r h => ?_, fun h => h.imp fun r h => ?_⟩
  · exact (w_bind.mp h).imp fun q h => w_some.mp h
  · exact w_bind.mpr (h.imp fun q h => w_some.mpr h)
theorem w_setLc {i : Nat} {it : Ix} {g : Gt} {t : Tx} {x : Ex} {vs : List Nat} {Q : Out → Prop} : W (sSetLc i it g t x vs e S) Q ↔ W (it e S) fun r => W (compD g t x (wipeE e vs) r.1 r.2 []) fun q => Q (.nx (e.set i (some (.ow (.lst q.1)))) q.2) := by
  refine w_bind.trans ⟨fun h => h.imp fun r h => ?_, fun h => h.imp fun r h => ?_⟩
  · exact (w_bind.mp h).imp fun q h => w_some.mp h
  · exact w_bind.mpr (h.imp fun q h => w_some.mpr h)
def puQ (Q : P → Sto → Prop) (S : Sto) : D → Prop
  | .pu p => Q p S
  | _ => False
theorem w_puQ {Q : P → Sto → Prop} {p : P} : puQ Q S (.pu p) ↔ Q p S := Iff.rfl
section
variable {g : Gt} {t : Tx} {x : Ex} {acc : List P}
theorem comp_nil {Q : List P × Sto → Prop} : W (compD g t x e [] S acc) Q ↔ Q (acc, S) := w_some
theorem comp_cons {d : D} {ds : List D} {Q : List P × Sto → Prop} : W (compD g t x e (d :: ds) S acc) Q ↔ W (g d e S) fun q => W (t q.1 q.2) fun b => if b.1 = true then W (x q.1 b.2) fun r => puQ (fun p S => acc.length < lim ∧ W (compD g t x e ds S (acc ++ [p])) Q) r.2 r.1 else W (compD g t x e ds b.2 acc) Q := by
  rw [compD]
  refine w_bind.trans ⟨fun h => h.imp fun q h => ?_, fun h => h.imp fun q h => ?_⟩
  · refine (w_bind.mp h).imp fun b h => ?_
    by_cases c : b.1 = true
    · rw [if_pos c] at h ⊢
      refine (w_bind.mp h).imp fun r h => ?_
      obtain ⟨d, S1⟩ := r
      cases d with
      | pu p =>
        dsimp only at h
        by_cases c2 : acc.length < lim
        · rw [if_pos c2] at h; exact ⟨c2, h⟩
        · rw [if_neg c2] at h; exact (w_none.mp h).elim
      | _ => exact (w_none.mp h).elim
    · rw [if_neg c] at h ⊢
      exact h
  · refine w_bind.mpr (h.imp fun b h => ?_)
    by_cases c : b.1 = true
    · rw [if_pos c] at h ⊢
      refine w_bind.mpr (h.imp fun r h => ?_)
      obtain ⟨d, S1⟩ := r
      cases d with
      | pu p =>
        dsimp only
        rw [if_pos h.1]
        exact h.2
      | _ => exact h.elim
    · rw [if_neg c] at h ⊢
      exact h
end
theorem w_yes {Q : Bool × Sto → Prop} : W (tYesX e S) Q ↔ Q (true, S) := w_some
theorem w_itN {x : Ex} {Q : List D × Sto → Prop} : W (iSeq x e S) Q ↔ W (x e S) fun r => W (itemsD r.1) fun q => Q (q.2, r.2) := w_bind.trans (by simp only [w_bind, w_some])
theorem w_imL {xs : List P} {Q : Bool × List D → Prop} : W (itemsD (.pu (.list xs))) Q ↔ Q (false, xs.map .pu) := w_some
theorem w_imT {xs : List P} {Q : Bool × List D → Prop} : W (itemsD (.pu (.tuple xs))) Q ↔ Q (true, xs.map .pu) := w_some
theorem w_imWL {xs : List P} {Q : Bool × List D → Prop} : W (itemsD (.wr (.list xs))) Q ↔ Q (false, xs.map wrD) := w_some
theorem w_imWT {xs : List P} {Q : Bool × List D → Prop} : W (itemsD (.wr (.tuple xs))) Q ↔ Q (true, xs.map wrD) := w_some
def zpQ (Q : List D × Sto → Prop) (S : Sto) : List D → Prop
  | [.pu (.tuple xs), .pu (.tuple ys)] => Q (zipD xs ys, S)
  | [.pu (.list xs), .pu (.list ys)] => Q (zipD xs ys, S)
  | _ => False
theorem w_zqT {Q : List D × Sto → Prop} {xs ys : List P} : zpQ Q S [.pu (.tuple xs), .pu (.tuple ys)] ↔ Q (zipD xs ys, S) := Iff.rfl
theorem w_zqL {Q : List D × Sto → Prop} {xs ys : List P} : zpQ Q S [.pu (.list xs), .pu (.list ys)] ↔ Q (zipD xs ys, S) := Iff.rfl
theorem w_bls {g : List Bool → Bool} {xs : List P} {Q : D × Sto → Prop} : W (gBls g [.pu (.list xs)] S) Q ↔ W (blsOf (xs.map D.pu)) fun bs => Q (.pu (.bool (g bs)), S) := by
  show W ((blsOf (xs.map D.pu)).bind fun is => some (D.pu (.bool (g is)), S)) Q ↔ _
  exact w_bind.trans (by simp only [w_some])
theorem ints_map : ∀ is : List Int, intsOf ((is.map PyData.int).map D.pu) = some is
  | [] => rfl
  | i :: is => by
    show (intsOf ((is.map PyData.int).map D.pu)).bind _ = _
    rw [ints_map is]
    rfl
theorem w_tyN {Q : Ty → Prop} : W (tyD (.pu .none) S) Q ↔ Q .non := w_some
theorem w_tyB {b : Bool} {Q : Ty → Prop} : W (tyD (.pu (.bool b)) S) Q ↔ Q .bool := w_some
theorem w_tyI {i : Int} {Q : Ty → Prop} : W (tyD (.pu (.int i)) S) Q ↔ Q .int := w_some
theorem w_tyS {x : Str} {Q : Ty → Prop} : W (tyD (.pu (.str x)) S) Q ↔ Q .str := w_some
theorem w_tyL {xs : List P} {Q : Ty → Prop} : W (tyD (.pu (.list xs)) S) Q ↔ Q .list := w_some
theorem w_tyT {xs : List P} {Q : Ty → Prop} : W (tyD (.pu (.tuple xs)) S) Q ↔ Q .tuple := w_some
theorem w_tyD {xs : List (P × P)} {Q : Ty → Prop} : W (tyD (.pu (.dict xs)) S) Q ↔ Q .dict := w_some
theorem w_isNN {n : Bool} {Q : D × Sto → Prop} : W (gIsN n (.pu .none) (.pu .none) S) Q ↔ Q (.pu (.bool (!n)), S) := w_some
theorem w_isNI {n : Bool} {i : Int} {Q : D × Sto → Prop} : W (gIsN n (.pu (.int i)) (.pu .none) S) Q ↔ Q (.pu (.bool n), S) := w_some
theorem w_isNB {n : Bool} {i : Bool} {Q : D × Sto → Prop} : W (gIsN n (.pu (.bool i)) (.pu .none) S) Q ↔ Q (.pu (.bool n), S) := w_some
theorem w_isNS {n : Bool} {i : Str} {Q : D × Sto → Prop} : W (gIsN n (.pu (.str i)) (.pu .none) S) Q ↔ Q (.pu (.bool n), S) := w_some
theorem w_isNT {n : Bool} {i : List P} {Q : D × Sto → Prop} : W (gIsN n (.pu (.tuple i)) (.pu .none) S) Q ↔ Q (.pu (.bool n), S) := w_some
theorem w_isNL {n : Bool} {i : List P} {Q : D × Sto → Prop} : W (gIsN n (.pu (.list i)) (.pu .none) S) Q ↔ Q (.pu (.bool n), S) := w_some
theorem eqR {n : Bool} {k : Nat} {ps : List P} {b : P} {Q : D × Sto → Prop} (h : S[k]? = some (.lst (ps.map D.pu))) : W (gEq n (.rf k) (.pu b) S) Q ↔ (shp 9 (.list ps) && shp 9 b) = true ∧ Q (.pu (.bool (if n = true then !PyData.eqv (.list ps) b else PyData.eqv (.list ps) b)), S) := by
  have e1 : datS (.rf k) S = some (.list ps) := by
    unfold datS
    dsimp only
    rw [h]
    dsimp only
    rw [pus_map]
    rfl
  unfold gEq
  rw [e1]
  show W (if (shp 9 (.list ps) && shp 9 b) = true then _ else none) Q ↔ _
  rw [w_ite, w_some, w_none]
  by_cases c : (shp 9 (.list ps) && shp 9 b) = true
  · rw [if_pos c]; exact ⟨fun h => ⟨c, h⟩, fun h => h.2⟩
  · rw [if_neg c]; exact ⟨fun h => h.elim, fun h => (c h.1).elim⟩
end
theorem w_evB {a b : Bool} : PyData.eqv (.bool a) (.bool b) = (a == b) := by simp [PyData.eqv]
theorem w_evI {a b : Int} : PyData.eqv (.int a) (.int b) = decide (a = b) := by simp only [PyData.eqv]; rfl
theorem w_shI {i : Int} : shp 9 (.int i) = true := rfl
theorem w_shB {i : Bool} : shp 9 (.bool i) = true := rfl
theorem w_shN : shp 9 .none = true := rfl
theorem w_wrI {i : Int} : wrD (.int i) = .pu (.int i) := rfl
theorem w_wrT {xs : List P} : wrD (.tuple xs) = .wr (.tuple xs) := rfl
theorem w_wrL {xs : List P} : wrD (.list xs) = .wr (.list xs) := rfl
theorem w_at0 {α : Type} {a : α} {r : List α} {Q : α → Prop} : W (atI (a :: r) 0) Q ↔ Q a := by
  have e : atI (a :: r) 0 = some a := by
    unfold atI ixN
    rw [if_pos (by decide), if_pos (by rw [List.length_cons]; omega)]
    rfl
  rw [e, w_some]
theorem w_at1 {α : Type} {a b : α} {r : List α} {Q : α → Prop} : W (atI (a :: b :: r) 1) Q ↔ Q b := by
  have e : atI (a :: b :: r) 1 = some b := by
    unfold atI ixN
    rw [if_pos (by decide), if_pos (by rw [List.length_cons, List.length_cons]; omega)]
    rfl
  rw [e, w_some]
theorem w_at2 {α : Type} {a b c : α} {r : List α} {Q : α → Prop} : W (atI (a :: b :: c :: r) 2) Q ↔ Q c := by
  have e : atI (a :: b :: c :: r) 2 = some c := by
    unfold atI ixN
    rw [if_pos (by decide), if_pos (by rw [List.length_cons, List.length_cons, List.length_cons]; omega)]
    rfl
  rw [e, w_some]
section
variable {e : Envi} {S : Sto} {G : Gx}
/-! ### new things -/
theorem w_nmN {i : Nat} {c : OC} {Q : Envi × Sto → Prop} : W (gNm i (.nw c) e S) Q ↔ i < e.length ∧ Q (e.set i (some (.ow c)), S) := by
  show W (if i < e.length then some (e.set i (some (.ow c)), S) else none) Q ↔ _
  rw [w_ite, w_some, w_none]
  by_cases c : i < e.length
  · rw [if_pos c]; exact ⟨fun h => ⟨c, h⟩, fun h => h.2⟩
  · rw [if_neg c]; exact ⟨fun h => h.elim, fun h => (c h.1).elim⟩
theorem w_listN {d : D} {Q : D × Sto → Prop} : W (gListN [d] S) Q ↔ W (seqD d S) fun q => W (pusOf q.2) fun ps => Q (.nw (.lst ps), S) := by
  show W ((seqD d S).bind fun q => (pusOf q.2).bind fun ps => some (D.nw (.lst ps), S)) Q ↔ _
  rw [w_bind]
  exact ⟨fun h => h.imp fun q h => (w_bind.mp h).imp fun p h => w_some.mp h, fun h => h.imp fun q h => w_bind.mpr (h.imp fun p h => w_some.mpr h)⟩
theorem w_limR {n : Nat} {r : D × Sto} {Q : D × Sto → Prop} : W (if n ≤ lim then some r else none) Q ↔ n ≤ lim ∧ Q r := w_limQ
theorem w_lstN {ds : List D} {Q : D × Sto → Prop} : W (gLstN ds S) Q ↔ W (pusOf ds) fun ps => ps.length ≤ lim ∧ Q (.nw (.lst ps), S) := by
  refine w_bind.trans ⟨fun h => h.imp fun q h => w_limQ.mp h, fun h => h.imp fun q h => w_limQ.mpr h⟩
theorem w_seN {xs : List P} {Q : Bool × List D → Prop} : W (seqD (.nw (.lst xs)) S) Q ↔ Q (false, xs.map .pu) := w_some
theorem w_lsL {xs : List P} {Q : List D → Prop} : W (lstD (.pu (.list xs)) S) Q ↔ Q (xs.map .pu) := w_some
theorem w_lsB {i : Nat} {xs : List P} {Q : List D → Prop} : W (lstD (.bo i (.lst xs)) S) Q ↔ Q (xs.map .pu) := w_some
theorem w_lsN {xs : List P} {Q : List D → Prop} : W (lstD (.nw (.lst xs)) S) Q ↔ Q (xs.map .pu) := w_some
theorem w_catN {a b : D} {Q : D × Sto → Prop} : W (gCatN a b S) Q ↔ W (lstD a S) fun xs => W (lstD b S) fun ys => W (pusOf xs) fun ps => W (pusOf ys) fun qs => ps.length + qs.length ≤ lim ∧ Q (.nw (.lst (ps ++ qs)), S) := by
  unfold gCatN
  rw [w_bind]
  refine ⟨fun h => h.imp fun q h => (w_bind.mp h).imp fun p h => (w_bind.mp h).imp fun p h => (w_bind.mp h).imp fun p h => w_limQ.mp h, fun h => h.imp fun q h => w_bind.mpr (h.imp fun p h => w_bind.mpr (h.imp fun p h => w_bind.mpr (h.imp fun p h => w_limQ.mpr h)))⟩
theorem w_addL {xs ys : List P} {Q : D × Sto → Prop} : W (gAdd (.pu (.list xs)) (.pu (.list ys)) S) Q ↔ xs.length + ys.length ≤ lim ∧ Q (.pu (.list (xs ++ ys)), S) := by
  show W ((lstD (.pu (.list xs)) S).bind fun xs => (lstD (.pu (.list ys)) S).bind fun ys => (pusOf xs).bind fun ps => (pusOf ys).bind fun qs => if ps.length + qs.length ≤ lim then some (D.pu (.list (ps ++ qs)), S) else none) Q ↔ _
  rw [w_bind, w_lsL, w_bind, w_lsL, pus_map, Option.bind_some, pus_map, Option.bind_some, w_limQ]
theorem w_addT {xs ys : List P} {Q : D × Sto → Prop} : W (gAdd (.pu (.tuple xs)) (.pu (.tuple ys)) S) Q ↔ (xs ≠ [] ∧ ys ≠ [] ∧ xs.length + ys.length ≤ lim) ∧ Q (.pu (.tuple (xs ++ ys)), S) := by
  show W (if xs ≠ [] ∧ ys ≠ [] ∧ xs.length + ys.length ≤ lim then _ else none) Q ↔ _
  rw [w_ite, w_some, w_none]
  by_cases c : xs ≠ [] ∧ ys ≠ [] ∧ xs.length + ys.length ≤ lim
  · rw [if_pos c]; exact ⟨fun h => ⟨c, h⟩, fun h => h.2⟩
  · rw [if_neg c]; exact ⟨fun h => h.elim, fun h => (c h.1).elim⟩
theorem w_slN {a : Ex} {lo hi : Ox} {Q : D × Sto → Prop} : W (xSlN a lo hi e S) Q ↔ W (a e S) fun r => W (lo e r.2) fun l => W (hi e l.2) fun h => W (gSlN r.1 l.1 h.1 h.2) Q := by
  show W ((a e S).bind fun r => (lo e r.2).bind fun l => (hi e l.2).bind fun h => gSlN r.1 l.1 h.1 h.2) Q ↔ _
  rw [w_bind]
  refine ⟨fun h => h.imp fun r h => ?_, fun h => h.imp fun r h => ?_⟩
  · exact (w_bind.mp h).imp fun l h => w_bind.mp h
  · exact w_bind.mpr (h.imp fun l h => w_bind.mpr h)
theorem w_gSlN {d : D} {lo hi : Option Int} {Q : D × Sto → Prop} : W (gSlN d lo hi S) Q ↔ W (lstD d S) fun q => W (pusOf (cutL q lo hi)) fun ps => Q (.nw (.lst ps), S) := by
  refine w_bind.trans ⟨fun h => h.imp fun q h => (w_bind.mp h).imp fun p h => w_some.mp h, fun h => h.imp fun q h => w_bind.mpr (h.imp fun p h => w_some.mpr h)⟩
theorem w_lcN {it : Ix} {g : Gt} {t : Tx} {x : Ex} {vs : List Nat} {Q : D × Sto → Prop} : W (xLcN it g t x vs e S) Q ↔ W (it e S) fun r => W (compD g t x (wipeE e vs) r.1 r.2 []) fun q => Q (.nw (.lst q.1), q.2) := by
  refine w_bind.trans ⟨fun h => h.imp fun r h => ?_, fun h => h.imp fun r h => ?_⟩
  · exact (w_bind.mp h).imp fun q h => w_some.mp h
  · exact w_bind.mpr (h.imp fun q h => w_some.mpr h)
def rsN : Rs → D
  | .inl p => .pu p
  | .inr c => .nw c
def rsZ : Rs → D
  | .inl p => .pu p
  | .inr c => .pu (frzP c)
theorem w_rsN1 {p : P} : rsN (.inl p) = .pu p := rfl
theorem w_rsN2 {c : OC} : rsN (.inr c) = .nw c := rfl
theorem w_rsZ1 {p : P} : rsZ (.inl p) = .pu p := rfl
theorem w_rsZ2 {xs : List P} : rsZ (.inr (.lst xs)) = .pu (.list xs) := rfl
theorem w_callO {m : List P → Option Rs} {ds : List D} {Q : D × Sto → Prop} : W (gCallO m ds S) Q ↔ W (pusOf ds) fun ps => W (m ps) fun r => Q (rsN r, S) := by
  refine w_bind.trans ⟨fun h => h.imp fun q h => (w_bind.mp h).imp fun p h => ?_, fun h => h.imp fun q h => w_bind.mpr (h.imp fun p h => ?_)⟩
  · cases p <;> exact w_some.mp h
  · cases p <;> exact w_some.mpr h
theorem w_callZ {m : List P → Option Rs} {ds : List D} {Q : D × Sto → Prop} : W (gCallZ m ds S) Q ↔ W (pusOf ds) fun ps => W (m ps) fun r => Q (rsZ r, S) := by
  refine w_bind.trans ⟨fun h => h.imp fun q h => (w_bind.mp h).imp fun p h => ?_, fun h => h.imp fun q h => w_bind.mpr (h.imp fun p h => ?_)⟩
  · cases p <;> exact w_some.mp h
  · cases p <;> exact w_some.mpr h
def endO (Q : Rs → Prop) : Out → Prop
  | .nx _ _ => Q (.inl .none)
  | .rt (.pu p) _ _ => Q (.inl p)
  | .rt (.bo _ c) _ _ => Q (.inr c)
  | .rt (.nw c) _ _ => Q (.inr c)
  | _ => False
theorem w_eO1 {Q : Rs → Prop} : endO Q (.nx e S) ↔ Q (.inl .none) := Iff.rfl
theorem w_eO2 {Q : Rs → Prop} {p : P} : endO Q (.rt (.pu p) e S) ↔ Q (.inl p) := Iff.rfl
theorem w_eO3 {Q : Rs → Prop} {i : Nat} {c : OC} : endO Q (.rt (.bo i c) e S) ↔ Q (.inr c) := Iff.rfl
theorem w_eO4 {Q : Rs → Prop} {c : OC} : endO Q (.rt (.nw c) e S) ↔ Q (.inr c) := Iff.rfl
theorem w_runO {n l : Nat} {b : Sx} {ps : List P} {Q : Rs → Prop} : W (runO n l b ps) Q ↔ (ps.length = n ∧ n ≤ l) ∧ W (b (env0 l (ps.map .pu)) []) (endO Q) := by
  unfold runO
  rw [w_ite, w_none]
  by_cases c : ps.length = n ∧ n ≤ l
  · rw [if_pos c, w_bind]
    refine ⟨fun h => ⟨c, h.imp fun o h => ?_⟩, fun h => h.2.imp fun o h => ?_⟩
    · cases o with
      | nx e S => (obtain ⟨_, k1, k2⟩ := h; cases k1; exact k2)
      | rt d e S =>
        cases d with
        | pu p => (obtain ⟨_, k1, k2⟩ := h; cases k1; exact k2)
        | bo i c => (obtain ⟨_, k1, k2⟩ := h; cases k1; exact k2)
        | nw c => (obtain ⟨_, k1, k2⟩ := h; cases k1; exact k2)
        | _ => (obtain ⟨_, k1, _⟩ := h; cases k1)
      | _ => (obtain ⟨_, k1, _⟩ := h; cases k1)
    · cases o with
      | nx e S => exact ⟨_, rfl, h⟩
      | rt d e S =>
        cases d with
        | pu p => exact ⟨_, rfl, h⟩
        | bo i c => exact ⟨_, rfl, h⟩
        | nw c => exact ⟨_, rfl, h⟩
        | _ => exact h.elim
      | _ => exact h.elim
  · rw [if_neg c]; exact ⟨fun h => h.elim, fun h => (c h.1).elim⟩
theorem tf_own {i : Nat} {c : OC} {x : Ex} {Q : D × Sto → Prop} (h : e[i]? = some (some (.ow c))) (hS : flatS S = true) (hx : W (x (e.set i (some (.val (.pu (frzP c))))) S) fun r => ∃ p, r = (.pu p, S) ∧ scal p = true ∧ Q r) : W (xTf i x e S) Q := by
  unfold xTf
  rw [h]
  refine w_bind.mpr (hx.imp fun r hr => ?_)
  obtain ⟨p, rfl, h1, h2⟩ := hr
  dsimp only
  rw [if_pos ⟨by rw [h1, hS]; rfl, rfl⟩]
  exact w_some.mpr h2
/-! ### append, op=, pairs, while, more -/
theorem w_app {a x : Ex} {Q : Out → Prop} : W (sApp a x e S) Q ↔ W (a e S) fun r => W (lstD r.1 r.2) fun _ => W (x e r.2) fun q => noBo [q.1] = true ∧ W (putL r.1 (fun ds => some (ds ++ [q.1])) e q.2) fun w => Q (.nx w.1 w.2) := by
  refine w_bind.trans ⟨fun h => h.imp fun q h => (w_bind.mp h).imp fun p h => (w_bind.mp h).imp fun p h => ?_, fun h => h.imp fun q h => w_bind.mpr (h.imp fun p h => w_bind.mpr (h.imp fun p h => ?_))⟩
  · by_cases c : noBo [p.1] = true
    · rw [if_pos c] at h; exact ⟨c, (w_bind.mp h).imp fun _ h => w_some.mp h⟩
    · rw [if_neg c] at h; exact (w_none.mp h).elim
  · rw [if_pos h.1]; exact w_bind.mpr (h.2.imp fun _ h => w_some.mpr h)
def plE (i : Nat) (f : List D → Option (List D)) (e : Envi) (S : Sto) : Option (Option Sl) → Option (Envi × Sto)
  | some (some (.ow (.lst xs))) => (f (xs.map .pu)).bind fun ds => (pusOf ds).bind fun ps => if ps.length ≤ lim then some (e.set i (some (.ow (.lst ps))), S) else none
  | _ => none
theorem w_putB {i : Nat} {ys : List P} {f : List D → Option (List D)} {Q : Envi × Sto → Prop} : W (putL (.bo i (.lst ys)) f e S) Q ↔ W (plE i f e S e[i]?) Q := by
  have h : putL (.bo i (.lst ys)) f e S = plE i f e S e[i]? := by
    unfold putL plE
    rfl
  rw [h]
theorem w_plA {i : Nat} {xs : List P} {p : P} {Q : Envi × Sto → Prop} : W (plE i (fun ds => some (ds ++ [.pu p])) e S (some (some (.ow (.lst xs))))) Q ↔ xs.length + 1 ≤ lim ∧ Q (e.set i (some (.ow (.lst (xs ++ [p])))), S) := by
  show W ((some (xs.map D.pu ++ [D.pu p])).bind fun ds => (pusOf ds).bind fun ps => if ps.length ≤ lim then some (e.set i (some (.ow (.lst ps))), S) else none) Q ↔ _
  rw [Option.bind_some, show xs.map D.pu ++ [D.pu p] = (xs ++ [p]).map D.pu by rw [List.map_append]; rfl, pus_map, Option.bind_some, List.length_append, List.length_singleton]
  rw [w_ite, w_some, w_none]
  by_cases c : xs.length + 1 ≤ lim
  · rw [if_pos c]; exact ⟨fun h => ⟨c, h⟩, fun h => h.2⟩
  · rw [if_neg c]; exact ⟨fun h => h.elim, fun h => (c h.1).elim⟩
theorem w_aug {i : Nat} {g : D → D → Sto → Option (D × Sto)} {x : Ex} {Q : Out → Prop} : W (sAug i g x e S) Q ↔ W (xVar i e S) fun r => W (x e r.2) fun q => W (g r.1 q.1 q.2) fun z => W (gNm i z.1 e z.2) fun w => Q (.nx w.1 w.2) := by
  refine w_bind.trans ⟨fun h => h.imp fun q h => (w_bind.mp h).imp fun p h => (w_bind.mp h).imp fun p h => (w_bind.mp h).imp fun _ h => w_some.mp h, fun h => h.imp fun q h => w_bind.mpr (h.imp fun p h => w_bind.mpr (h.imp fun p h => w_bind.mpr (h.imp fun _ h => w_some.mpr h)))⟩
def parQ (i j : Nat) (e : Envi) (Q : Out → Prop) (S : Sto) : List D → Prop
  | [d, d'] => noBo [d, d'] = true ∧ Q (.nx ((e.set i (some (.val d))).set j (some (.val d'))) S)
  | _ => False
theorem w_pq {i j : Nat} {Q : Out → Prop} {d d' : D} : parQ i j e Q S [d, d'] ↔ noBo [d, d'] = true ∧ Q (.nx ((e.set i (some (.val d))).set j (some (.val d'))) S) := Iff.rfl
theorem w_par {i j : Nat} {a : Ax} {Q : Out → Prop} : W (sPar i j a e S) Q ↔ W (a e S) fun r => parQ i j e Q r.2 r.1 := by
  refine w_bind.trans ⟨fun h => h.imp fun r h => ?_, fun h => h.imp fun r h => ?_⟩
  · obtain ⟨ds, S1⟩ := r
    match ds, h with
    | [d, d'], h =>
      dsimp only at h
      by_cases c : noBo [d, d'] = true
      · rw [if_pos c] at h; exact ⟨c, w_some.mp h⟩
      · rw [if_neg c] at h; exact (w_none.mp h).elim
    | [], h => exact (w_none.mp h).elim
    | [_], h => exact (w_none.mp h).elim
    | _ :: _ :: _ :: _, h => exact (w_none.mp h).elim
  · obtain ⟨ds, S1⟩ := r
    match ds, h with
    | [d, d'], h =>
      dsimp only
      rw [if_pos h.1]; exact w_some.mpr h.2
/-- turns that bring a measure down -/
theorem while_inv {t : Tx} {b : Sx} {Q : Out → Prop} (I : Nat → Envi → Sto → Prop) (st : ∀ k e S, I k e S → W (t e S) fun r => if r.1 = true then W (b e r.2) (loopQ (fun e S => ∃ j, j < k ∧ I j e S) Q) else Q (.nx e r.2)) (k : Nat) (e : Envi) (S : Sto) (h : I k e S) : W (sWhile t b e S) Q := by
  suffices hh : ∀ k e S, I k e S → ∃ n, W (whN t b n e S) Q by
    obtain ⟨n, o, h1, h2⟩ := hh k e S h
    exact ⟨o, sWhile_of h1, h2⟩
  intro k
  induction k using Nat.strongRecOn with
  | ind k ih =>
    intro e S h
    obtain ⟨⟨c, S1⟩, h1, h2⟩ := st k e S h
    dsimp only at h2
    cases c with
    | false =>
      rw [if_neg Bool.false_ne_true] at h2
      refine ⟨1, .nx e S1, ?_, h2⟩
      show (t e S).bind _ = _
      rw [h1]
      rfl
    | true =>
      rw [if_pos rfl] at h2
      obtain ⟨o, h3, h4⟩ := h2
      have go : ∀ {e' : Envi} {S' : Sto}, (∃ j, j < k ∧ I j e' S') → (∀ n, whN t b (n + 1) e S = whN t b n e' S') → ∃ n, W (whN t b n e S) Q := fun {e' S'} hj hn => by
        obtain ⟨j, hj, hI⟩ := hj
        obtain ⟨n, hw⟩ := ih j hj _ _ hI
        exact ⟨n + 1, by rw [hn n]; exact hw⟩
      cases o with
      | nx e' S' => exact go h4 fun n => by rw [whN, h1]; simp only [Option.bind_some, if_true, h3]
      | ct e' S' => exact go h4 fun n => by rw [whN, h1]; simp only [Option.bind_some, if_true, h3]
      | bk e' S' => exact ⟨1, .nx e' S', by rw [whN, h1]; simp only [Option.bind_some, if_true, h3], h4⟩
      | rt d e' S' => exact ⟨1, .rt d e' S', by rw [whN, h1]; simp only [Option.bind_some, if_true, h3], h4⟩
theorem w_chain {g g' : D → D → Sto → Option (D × Sto)} {a b c : Ex} {Q : D × Sto → Prop} : W (xChain g g' a b c e S) Q ↔ W (a e S) fun r => W (b e r.2) fun q => W (g r.1 q.1 q.2) fun z => boolD (fun k S => if k = true then W (c e S) fun y => W (g' q.1 y.1 y.2) Q else Q (.pu (.bool false), S)) z.2 z.1 := by
  refine w_bind.trans ⟨fun h => h.imp fun q h => (w_bind.mp h).imp fun p h => (w_bind.mp h).imp fun z h => ?_, fun h => h.imp fun q h => w_bind.mpr (h.imp fun p h => w_bind.mpr (h.imp fun z h => ?_))⟩
  · obtain ⟨d, S1⟩ := z
    cases d with
    | pu p => cases p with
      | bool k =>
        cases k with
        | true => exact w_bind.mp h
        | false => obtain ⟨_, k1, k2⟩ := h; cases k1; exact k2
      | _ => exact (w_none.mp h).elim
    | _ => exact (w_none.mp h).elim
  · obtain ⟨d, S1⟩ := z
    cases d with
    | pu p => cases p with
      | bool k =>
        cases k with
        | true => exact w_bind.mpr h
        | false => exact ⟨_, rfl, h⟩
      | _ => exact h.elim
    | _ => exact h.elim
theorem w_ints {C : List Int → Bool} {g : List Int → Int} {xs : List P} {Q : D × Sto → Prop} : W (gInts C g [.pu (.list xs)] S) Q ↔ W (intsOf (xs.map D.pu)) fun is => C is = true ∧ Q (.pu (.int (g is)), S) := by
  show W ((intsOf (xs.map D.pu)).bind fun is => if C is then some (D.pu (.int (g is)), S) else none) Q ↔ _
  refine w_bind.trans ⟨fun h => h.imp fun q h => ?_, fun h => h.imp fun q h => ?_⟩
  · by_cases c : C q = true
    · rw [if_pos c] at h; exact ⟨c, w_some.mp h⟩
    · rw [if_neg c] at h; exact (w_none.mp h).elim
  · rw [if_pos h.1]; exact w_some.mpr h.2
theorem w_inN {Q : List Int → Prop} : W (intsOf []) Q ↔ Q [] := w_some
theorem w_inC {i : Int} {ds : List D} {Q : List Int → Prop} : W (intsOf (.pu (.int i) :: ds)) Q ↔ W (intsOf ds) fun is => Q (i :: is) := by
  show W ((intsOf ds).bind fun is => some (i :: is)) Q ↔ _
  exact w_bind.trans ⟨fun h => h.imp fun q h => w_some.mp h, fun h => h.imp fun q h => w_some.mpr h⟩
theorem w_inM {is : List Int} {Q : List Int → Prop} : W (intsOf ((is.map PyData.int).map D.pu)) Q ↔ Q is := by rw [ints_map]; exact w_some
theorem w_pIntI {i : Int} {Q : P → Prop} : W (pInt (.int i)) Q ↔ Q (.int i) := w_some
theorem w_pIntB {b : Bool} {Q : P → Prop} : W (pInt (.bool b)) Q ↔ Q (.int (if b then 1 else 0)) := w_some
theorem w_tupL {xs : List P} {Q : D × Sto → Prop} : W (gTupleA [.pu (.list xs)] S) Q ↔ Q (.pu (.tuple xs), S) := by
  show W ((seqD (.pu (.list xs)) S).bind fun q => (pusOf q.2).bind fun ps => some (D.pu (.tuple ps), S)) Q ↔ _
  rw [w_bind, w_seL, pus_map, Option.bind_some, w_some]
theorem w_tupT {xs : List P} {Q : D × Sto → Prop} : W (gTupleA [.pu (.tuple xs)] S) Q ↔ Q (.pu (.tuple xs), S) := by
  show W ((seqD (.pu (.tuple xs)) S).bind fun q => (pusOf q.2).bind fun ps => some (D.pu (.tuple ps), S)) Q ↔ _
  rw [w_bind, w_seT, pus_map, Option.bind_some, w_some]
theorem w_tupB {i : Nat} {xs : List P} {Q : D × Sto → Prop} : W (gTupleA [.bo i (.lst xs)] S) Q ↔ Q (.pu (.tuple xs), S) := by
  show W ((seqD (.bo i (.lst xs)) S).bind fun q => (pusOf q.2).bind fun ps => some (D.pu (.tuple ps), S)) Q ↔ _
  rw [w_bind, w_seB, pus_map, Option.bind_some, w_some]
def rg2Q (Q : List D × Sto → Prop) (S : Sto) : List D → Prop
  | [.pu (.int i), .pu (.int j)] => (rOk i && rOk j) = true ∧ Q (rngD i (j - i).toNat, S)
  | _ => False
theorem w_rg2 {Q : List D × Sto → Prop} {i j : Int} : rg2Q Q S [.pu (.int i), .pu (.int j)] ↔ (rOk i && rOk j) = true ∧ Q (rngD i (j - i).toNat, S) := Iff.rfl
theorem w_rng2 {a : Ax} {Q : List D × Sto → Prop} : W (iRange2 a e S) Q ↔ W (a e S) fun r => rg2Q Q r.2 r.1 := by
  refine w_bind.trans ⟨fun h => h.imp fun r h => ?_, fun h => h.imp fun r h => ?_⟩
  · obtain ⟨ds, S1⟩ := r
    dsimp only at h ⊢
    split at h
    · rename_i i j
      by_cases c : (rOk i && rOk j) = true
      · rw [if_pos c] at h; exact ⟨c, w_some.mp h⟩
      · rw [if_neg c] at h; exact (w_none.mp h).elim
    · exact (w_none.mp h).elim
  · obtain ⟨ds, S1⟩ := r
    dsimp only at h ⊢
    unfold rg2Q at h
    split at h
    · try dsimp only
      rw [if_pos h.1]; exact ⟨_, rfl, h.2⟩
    · exact h.elim
end
theorem w_evT {xs ys : List P} : PyData.eqv (.tuple xs) (.tuple ys) = PyData.eqvAll xs ys := by simp only [PyData.eqv]
theorem w_evL {xs ys : List P} : PyData.eqv (.list xs) (.list ys) = PyData.eqvAll xs ys := by simp only [PyData.eqv]
theorem w_evA0 : PyData.eqvAll [] [] = true := by simp only [PyData.eqvAll]
theorem w_evA1 {x y : P} {xs ys : List P} : PyData.eqvAll (x :: xs) (y :: ys) = (PyData.eqv x y && PyData.eqvAll xs ys) := by simp only [PyData.eqvAll]
/-- a comprehension over data: each item by its turn -/
theorem comp_on' {e : Envi} {S : Sto} {g : Gt} {t : Tx} {x : Ex} {α : Type} {gg hh : α → P} : ∀ (xs : List α) (acc : List P), (∀ a ∈ xs, ∀ Q : P → Sto → Prop, Q (hh a) S → W (g (.pu (gg a)) e S) fun q => W (t q.1 q.2) fun b => b.1 = true ∧ W (x q.1 b.2) fun r => puQ Q r.2 r.1) → acc.length + xs.length ≤ lim →
    ∀ Q : List P × Sto → Prop, Q (acc ++ xs.map hh, S) → W (compD g t x e ((xs.map gg).map .pu) S acc) Q
  | [], acc, _, _, Q, q => by rw [List.map_nil, List.append_nil] at q; exact comp_nil.mpr q
  | a :: xs, acc, st, hl, Q, q => by
    rw [List.length_cons] at hl
    rw [List.map_cons, List.map_cons, comp_cons]
    refine (st a List.mem_cons_self (fun p' S' => acc.length < lim ∧ W (compD g t x e ((xs.map gg).map .pu) S' (acc ++ [p'])) Q) ⟨by omega, ?_⟩).imp fun q' h => h.imp fun b h => by rw [if_pos h.1]; exact h.2
    refine comp_on' xs (acc ++ [hh a]) (fun d hd => st d (List.mem_cons_of_mem _ hd)) (by rw [List.length_append, List.length_singleton]; omega) Q ?_
    rw [List.append_assoc]
    exact q
theorem comp_on {e : Envi} {S : Sto} {g : Gt} {t : Tx} {x : Ex} {α : Type} (gg hh : α → P) (xs : List α) (st : ∀ a ∈ xs, ∀ Q : P → Sto → Prop, Q (hh a) S → W (g (.pu (gg a)) e S) fun q => W (t q.1 q.2) fun b => b.1 = true ∧ W (x q.1 b.2) fun r => puQ Q r.2 r.1) (hl : xs.length ≤ lim) {Q : List P × Sto → Prop} (q : Q (xs.map hh, S)) : W (compD g t x e ((xs.map gg).map .pu) S []) Q :=
  comp_on' xs [] st (by simpa using hl) Q q
/-- the same with a test: the items that pass -/
theorem comp_if' {e : Envi} {S : Sto} {g : Gt} {t : Tx} {x : Ex} {α : Type} {gg hh : α → P} {c : α → Bool} : ∀ (xs : List α) (acc : List P), (∀ a ∈ xs, ∀ Q : P → Sto → Prop, ∀ N : Sto → Prop, (c a = true → Q (hh a) S) → (c a = false → N S) → W (g (.pu (gg a)) e S) fun q => W (t q.1 q.2) fun b => if b.1 = true then W (x q.1 b.2) fun r => puQ Q r.2 r.1 else N b.2) → acc.length + xs.length ≤ lim →
    ∀ Q : List P × Sto → Prop, Q (acc ++ (xs.filter c).map hh, S) → W (compD g t x e ((xs.map gg).map .pu) S acc) Q
  | [], acc, _, _, Q, q => by rw [List.filter_nil, List.map_nil, List.append_nil] at q; exact comp_nil.mpr q
  | a :: xs, acc, st, hl, Q, q => by
    rw [List.length_cons] at hl
    rw [List.map_cons, List.map_cons, comp_cons]
    have rest := fun d hd => st d (List.mem_cons_of_mem a hd)
    refine st a List.mem_cons_self (fun p' S' => acc.length < lim ∧ W (compD g t x e ((xs.map gg).map .pu) S' (acc ++ [p'])) Q) (fun S' => W (compD g t x e ((xs.map gg).map .pu) S' acc) Q) (fun hc => ⟨by omega, ?_⟩) fun hc => ?_
    · refine comp_if' xs (acc ++ [hh a]) rest (by rw [List.length_append, List.length_singleton]; omega) Q ?_
      rw [List.filter_cons, if_pos hc, List.map_cons] at q
      rw [List.append_assoc]
      exact q
    · refine comp_if' xs acc rest (by omega) Q ?_
      rw [List.filter_cons, if_neg (by rw [hc]; decide)] at q
      exact q
theorem comp_if {e : Envi} {S : Sto} {g : Gt} {t : Tx} {x : Ex} {α : Type} (gg hh : α → P) (c : α → Bool) (xs : List α) (st : ∀ a ∈ xs, ∀ Q : P → Sto → Prop, ∀ N : Sto → Prop, (c a = true → Q (hh a) S) → (c a = false → N S) → W (g (.pu (gg a)) e S) fun q => W (t q.1 q.2) fun b => if b.1 = true then W (x q.1 b.2) fun r => puQ Q r.2 r.1 else N b.2) (hl : xs.length ≤ lim) {Q : List P × Sto → Prop} (q : Q ((xs.filter c).map hh, S)) : W (compD g t x e ((xs.map gg).map .pu) S []) Q :=
  comp_if' xs [] st (by simpa using hl) Q q
theorem w_tix {ds : List P} {d : P} {S : Sto} {Q : D × Sto → Prop} : W (gTIx (.wr (.tuple ds)) (.pu d) S) Q ↔ (shp 9 (.tuple ds) && shp 9 d) = true ∧ W (ds.findIdx? fun z => PyData.eqv z d) fun j => Q (.pu (.int (j : Nat)), S) := by
  show W (if (shp 9 (.tuple ds) && shp 9 d) = true then (ds.findIdx? fun z => PyData.eqv z d).map fun j => (D.pu (.int (j : Nat)), S) else none) Q ↔ _
  rw [w_ite, w_none, w_map]
  by_cases c : (shp 9 (.tuple ds) && shp 9 d) = true
  · rw [if_pos c]; exact ⟨fun h => ⟨c, h⟩, fun h => h.2⟩
  · rw [if_neg c]; exact ⟨fun h => h.elim, fun h => (c h.1).elim⟩
section
variable {e : Envi} {S : Sto}
theorem w_a3 {p : P → P → P → Option P} {a b c : P} {Q : D × Sto → Prop} : W (a3 p [.pu a, .pu b, .pu c] S) Q ↔ W (p a b c) fun z => Q (.pu z, S) := by
  show W ((p a b c).bind fun z => some (D.pu z, S)) Q ↔ _
  exact w_bind.trans ⟨fun h => h.imp fun _ h => w_some.mp h, fun h => h.imp fun _ h => w_some.mpr h⟩
theorem w_pMax3 {i j k : Int} {Q : P → Prop} : W (pMax3 (.int i) (.int j) (.int k)) Q ↔ Q (.int (mx (mx i j) k)) := w_some
theorem w_pMin3 {i j k : Int} {Q : P → Prop} : W (pMin3 (.int i) (.int j) (.int k)) Q ↔ Q (.int (mn (mn i j) k)) := w_some
theorem w_rev {xs : List P} {Q : D × Sto → Prop} : W (gRev (.pu (.list xs)) S) Q ↔ Q (.pu (.list xs.reverse), S) := by
  show W ((pusOf (xs.map D.pu)).bind fun ps => some (D.pu (.list ps.reverse), S)) Q ↔ _
  rw [pus_map, Option.bind_some, w_some]
theorem w_revN {xs : List P} {Q : D × Sto → Prop} : W (gRevN (.pu (.list xs)) S) Q ↔ Q (.nw (.lst xs.reverse), S) := by
  show W ((pusOf (xs.map D.pu)).bind fun ps => some (D.nw (.lst ps.reverse), S)) Q ↔ _
  rw [pus_map, Option.bind_some, w_some]
theorem w_revB {i : Nat} {xs : List P} {Q : D × Sto → Prop} : W (gRev (.bo i (.lst xs)) S) Q ↔ Q (.pu (.list xs.reverse), S) := by
  show W ((pusOf (xs.map D.pu)).bind fun ps => some (D.pu (.list ps.reverse), S)) Q ↔ _
  rw [pus_map, Option.bind_some, w_some]
theorem w_ext {a x : Ex} {Q : Out → Prop} : W (sExt a x e S) Q ↔ W (a e S) fun r => W (lstD r.1 r.2) fun _ => W (x e r.2) fun q => W (rawD q.1 q.2) fun ys => W (putL r.1 (fun ds => some (ds ++ ys)) e q.2) fun w => Q (.nx w.1 w.2) := by
  refine w_bind.trans ⟨fun h => h.imp fun q h => (w_bind.mp h).imp fun p h => (w_bind.mp h).imp fun p h => (w_bind.mp h).imp fun p h => (w_bind.mp h).imp fun p h => w_some.mp h, fun h => h.imp fun q h => w_bind.mpr (h.imp fun p h => w_bind.mpr (h.imp fun p h => w_bind.mpr (h.imp fun p h => w_bind.mpr (h.imp fun p h => w_some.mpr h))))⟩
theorem w_rawN {xs : List P} {Q : List D → Prop} : W (rawD (.nw (.lst xs)) S) Q ↔ Q (xs.map .pu) := w_some
theorem w_rawB {i : Nat} {xs : List P} {Q : List D → Prop} : W (rawD (.bo i (.lst xs)) S) Q ↔ Q (xs.map .pu) := w_some
theorem w_plE {i : Nat} {xs ys : List P} {Q : Envi × Sto → Prop} : W (plE i (fun ds => some (ds ++ ys.map D.pu)) e S (some (some (.ow (.lst xs))))) Q ↔ xs.length + ys.length ≤ lim ∧ Q (e.set i (some (.ow (.lst (xs ++ ys)))), S) := by
  show W ((some (xs.map D.pu ++ ys.map D.pu)).bind fun ds => (pusOf ds).bind fun ps => if ps.length ≤ lim then some (e.set i (some (.ow (.lst ps))), S) else none) Q ↔ _
  rw [Option.bind_some, ← List.map_append, pus_map, Option.bind_some, List.length_append]
  rw [w_ite, w_some, w_none]
  by_cases c : xs.length + ys.length ≤ lim
  · rw [if_pos c]; exact ⟨fun h => ⟨c, h⟩, fun h => h.2⟩
  · rw [if_neg c]; exact ⟨fun h => h.elim, fun h => (c h.1).elim⟩
end
section
variable {e : Envi} {S : Sto} {g : Gt} {t : Tx} {x : Ex}
theorem w_intsB {i : Nat} {C : List Int → Bool} {f : List Int → Int} {xs : List P} {Q : D × Sto → Prop} : W (gInts C f [.bo i (.lst xs)] S) Q ↔ W (intsOf (xs.map D.pu)) fun is => C is = true ∧ Q (.pu (.int (f is)), S) := w_ints
theorem w_at3 {α : Type} {a b c d : α} {r : List α} {Q : α → Prop} : W (atI (a :: b :: c :: d :: r) 3) Q ↔ Q d := by
  have e : atI (a :: b :: c :: d :: r) 3 = some d := by
    unfold atI ixN
    rw [if_pos (by decide), if_pos (by rw [List.length_cons, List.length_cons, List.length_cons, List.length_cons]; omega)]
    rfl
  rw [e, w_some]
theorem all_map {α : Type} {f : α → P} {Pr : P → Prop} (h : ∀ p, Pr p → ∃ a, p = f a) : ∀ ps : List P, (∀ p ∈ ps, Pr p) → ∃ as : List α, ps = as.map f ∧ as.length = ps.length
  | [], _ => ⟨[], rfl, rfl⟩
  | p :: ps, hp => by
    obtain ⟨a, rfl⟩ := h p (hp p List.mem_cons_self)
    obtain ⟨as, rfl, h2⟩ := all_map h ps fun z hz => hp z (List.mem_cons_of_mem _ hz)
    exact ⟨a :: as, rfl, by rw [List.length_cons, h2, List.length_cons]⟩
end
theorem w_pBB {g : Bool → Bool → Bool} {c d : Bool} {Q : P → Prop} : W (pBB g (.bool c) (.bool d)) Q ↔ Q (.bool (g c d)) := w_some
section
variable {e : Envi} {S : Sto}
theorem w_putBS {i : Nat} {ys : List P} {k : Int} {d : D} {Q : Envi × Sto → Prop} : W (putS (.bo i (.lst ys)) (.pu (.int k)) d e S) Q ↔ W (plE i (fun ds => (ixN ds.length k).map fun j => ds.set j d) e S e[i]?) Q := by
  have h : putS (.bo i (.lst ys)) (.pu (.int k)) d e S = plE i (fun ds => (ixN ds.length k).map fun j => ds.set j d) e S e[i]? := by
    unfold putS
    show putL _ _ _ _ = _
    unfold putL plE
    rfl
  rw [h]
theorem w_chain3 {g g' g'' : D → D → Sto → Option (D × Sto)} {a b c d : Ex} {Q : D × Sto → Prop} : W (xChain3 g g' g'' a b c d e S) Q ↔ W (a e S) fun r => W (b e r.2) fun q => W (g r.1 q.1 q.2) fun z => boolD (fun k S => if k = true then W (c e S) fun y => W (g' q.1 y.1 y.2) fun v => boolD (fun k S => if k = true then W (d e S) fun u => W (g'' y.1 u.1 u.2) Q else Q (.pu (.bool false), S)) v.2 v.1 else Q (.pu (.bool false), S)) z.2 z.1 := by
  refine w_bind.trans ⟨fun h => h.imp fun q h => (w_bind.mp h).imp fun p h => (w_bind.mp h).imp fun z h => ?_, fun h => h.imp fun q h => w_bind.mpr (h.imp fun p h => w_bind.mpr (h.imp fun z h => ?_))⟩
  · obtain ⟨d, S1⟩ := z
    cases d with
    | pu p => cases p with
      | bool k =>
        cases k with
        | true =>
          refine (w_bind.mp h).imp fun y h => (w_bind.mp h).imp fun v h => ?_
          obtain ⟨d, S1⟩ := v
          cases d with
          | pu p => cases p with
            | bool k =>
              cases k with
              | true => exact w_bind.mp h
              | false => obtain ⟨_, k1, k2⟩ := h; cases k1; exact k2
            | _ => exact (w_none.mp h).elim
          | _ => exact (w_none.mp h).elim
        | false => obtain ⟨_, k1, k2⟩ := h; cases k1; exact k2
      | _ => exact (w_none.mp h).elim
    | _ => exact (w_none.mp h).elim
  · obtain ⟨d, S1⟩ := z
    cases d with
    | pu p => cases p with
      | bool k =>
        cases k with
        | true =>
          refine w_bind.mpr (h.imp fun y h => w_bind.mpr (h.imp fun v h => ?_))
          obtain ⟨d, S1⟩ := v
          cases d with
          | pu p => cases p with
            | bool k =>
              cases k with
              | true => exact w_bind.mpr h
              | false => exact ⟨_, rfl, h⟩
            | _ => exact h.elim
          | _ => exact h.elim
        | false => exact ⟨_, rfl, h⟩
      | _ => exact h.elim
    | _ => exact h.elim
end
end DL
/-! DLH: x in l, x in t, of data. -/
namespace DL
open PySem PySem.Spec PyProof.Rows L2
section
variable {X : Cx} {G : Gx}
def rInA (neg : Bool) (K : PySem.W.Frag) : R2 := fun x y H Q => ∃ d ds, Dp K H x d ∧ (Dp K H y (.list ds) ∨ Dp K H y (.tuple ds)) ∧ SeqAt.shaped d = true ∧ SeqAt.shaped (.list ds) = true ∧ Q (.bl (if neg then !ds.any (fun z => PyData.eqv z d) else ds.any fun z => PyData.eqv z d)) H
theorem op_inA (hu : X.A.units + 65 < cLine) : OpR X (compareOp .In) (rInA false X.K) := by
  intro pins s σ H x y v u Q I rx ry h
  obtain ⟨d, ds, hd, he, sd, se, q⟩ := h
  obtain ⟨as, r1⟩ := Dp.reads I d x v hd rx
  rcases he with he | he
  · obtain ⟨bs, r2⟩ := Dp.reads I (.list ds) y u he ry
    exact SeqAt.in_list_reads r2 r1 (SeqAt.canLay_of_shaped se) (SeqAt.canLay_of_shaped sd) (room_in_shaped sd hu) ⟨.bl _, H, I, rfl, q⟩
  · obtain ⟨bs, r2⟩ := Dp.reads I (.tuple ds) y u he ry
    exact SeqAt.in_tuple_reads r2 r1 (SeqAt.canLay_of_shaped se) (SeqAt.canLay_of_shaped sd) (room_in_shaped sd hu) ⟨.bl _, H, I, rfl, q⟩
theorem op_notInA (hu : X.A.units + 65 < cLine) : OpR X (compareOp .NotIn) (rInA true X.K) := by
  intro pins s σ H x y v u Q I rx ry h
  obtain ⟨d, ds, hd, he, sd, se, q⟩ := h
  obtain ⟨as, r1⟩ := Dp.reads I d x v hd rx
  rcases he with he | he
  · obtain ⟨bs, r2⟩ := Dp.reads I (.list ds) y u he ry
    exact SeqAt.notIn_list_reads r2 r1 (SeqAt.canLay_of_shaped se) (SeqAt.canLay_of_shaped sd) (room_in_shaped sd hu) ⟨.bl _, H, I, rfl, q⟩
  · obtain ⟨bs, r2⟩ := Dp.reads I (.tuple ds) y u he ry
    exact SeqAt.notIn_tuple_reads r2 r1 (SeqAt.canLay_of_shaped se) (SeqAt.canLay_of_shaped sd) (room_in_shaped sd hu) ⟨.bl _, H, I, rfl, q⟩
/-- the items of a list or a tuple -/
def itsP : P → Option (List P)
  | .list ds => some ds
  | .tuple ds => some ds
  | _ => none
def gIn (neg : Bool) (d1 d2 : D) (S : Sto) : Option (D × Sto) := (datS d1 S).bind fun a => (datS d2 S).bind fun b => (itsP b).bind fun ds => if shp 9 a && shp 9 b then some (.pu (.bool (if neg then !ds.any (fun z => PyData.eqv z a) else ds.any fun z => PyData.eqv z a)), S) else none
theorem v_inG {neg : Bool} (hK : X.K = G.K) : V2 G (rInA neg X.K) (gIn neg) := by
  intro σ H e S f x y dx dy d S' Q r0 rx ry hg q
  obtain ⟨a, h1, hg⟩ := Option.bind_eq_some_iff.mp hg
  obtain ⟨b, h2, hg⟩ := Option.bind_eq_some_iff.mp hg
  obtain ⟨ds, h3, hg⟩ := Option.bind_eq_some_iff.mp hg
  by_cases c : (shp 9 a && shp 9 b) = true
  · rw [if_pos c] at hg
    cases hg
    rw [Bool.and_eq_true] at c
    rw [hK]
    have dy' := dat_dp r0 ry h2 (shp_ok _ _ c.2).1
    have sb := shp_shaped c.2
    have hy : (Dp G.K H y (.list ds) ∨ Dp G.K H y (.tuple ds)) ∧ SeqAt.shaped (.list ds) = true := by
      cases b with
      | list xs => cases h3; exact ⟨.inl dy', sb⟩
      | tuple xs => cases h3; exact ⟨.inr dy', sb⟩
      | _ => cases h3
    exact ⟨a, ds, dat_dp r0 rx h1 (shp_ok _ _ c.1).1, hy.1, shp_shaped c.1, hy.2, .inl (q _ H f r0 (.refl _ _ _) (.bl _))⟩
  · rw [if_neg c] at hg
    cases hg
theorem v_in (hK : X.K = G.K) : V2 G (rInA false X.K) (gIn false) := v_inG hK
theorem v_notIn (hK : X.K = G.K) : V2 G (rInA true X.K) (gIn true) := v_inG hK
/-- + with tuples of any length -/
def gAdA (a b : D) (S : Sto) : Option (D × Sto) := match a, b with
  | .pu (.tuple xs), .pu (.tuple ys) => if xs.length + ys.length ≤ lim then some (.pu (.tuple (xs ++ ys)), S) else none
  | a, b => gAdd a b S
theorem RepL.rep {H : Hp} {vs : List V} {xs : List P} (h : RepL H vs xs) : ∀ k : Nat, RepL H (List.replicate k vs).flatten (List.replicate k xs).flatten
  | 0 => .nil
  | k + 1 => by
    rw [List.replicate_succ, List.replicate_succ, List.flatten_cons, List.flatten_cons]
    exact RepL.append h (RepL.rep h k)
/-- [..] * k: the list is nobody's -/
def gRepL (a b : D) (S : Sto) : Option (D × Sto) := match a, b with
  | .nw (.lst xs), .pu (.int k) => if 0 ≤ k ∧ k ≤ 100000 ∧ xs.length * k.toNat ≤ lim then some (.pu (.list (List.replicate k.toNat xs).flatten), S) else none
  | _, _ => none
def gRepN (a b : D) (S : Sto) : Option (D × Sto) := match a, b with
  | .nw (.lst xs), .pu (.int k) => if 0 ≤ k ∧ k ≤ 100000 ∧ xs.length * k.toNat ≤ lim then some (.nw (.lst (List.replicate k.toNat xs).flatten), S) else none
  | _, _ => none
theorem v_repN : V2 G rRep gRepN := by
  intro σ H e S f x y dx dy d S' Q r0 rx ry hg q
  unfold gRepN at hg
  split at hg
  · rename_i xs k
    by_cases c : 0 ≤ k ∧ k ≤ 100000 ∧ xs.length * k.toNat ≤ lim
    · rw [if_pos c] at hg
      cases hg
      obtain ⟨a, e1, ⟨vs, h4, h5⟩, _⟩ := (show ∃ a, x = .ref a ∧ OCok H a (.lst xs) ∧ _ from rx)
      cases (show Rep H y (.int k) from ry)
      have la := h5.length
      exact ⟨a, k, vs, e1, rfl, h4, by omega, by omega, by rw [← lim_eq, la]; exact c.2.2, fun p np => nw_fin r0 np (RepL.rep h5 _) q⟩
    · rw [if_neg c] at hg
      cases hg
  · cases hg
/-- (..) * k -/
def gRepT (a b : D) (S : Sto) : Option (D × Sto) := match a, b with
  | .pu (.tuple xs), .pu (.int k) => if xs ≠ [] ∧ 2 ≤ k ∧ k ≤ 1000 ∧ xs.length ≤ 1000 then some (.pu (.tuple (List.replicate k.toNat xs).flatten), S) else none
  | _, _ => none
end
end DL
/-! DLI: list(reversed(x)). -/
namespace RV
open PySem PySem.Spec PyProof.Rows L2
section
variable {prog : Program} {w : World} {A : Around} {E : Value → Shared → Prop} {s : Shared}
end
section
variable {X : Cx}
end
end RV
namespace DL
open PySem PySem.Spec PyProof.Rows L2
section
variable {X : Cx} {G : Gx}
end
/-! ### min, max of a tuple -/
section
variable {X : Cx} {G : Gx}
def gIntsA (C : List Int → Bool) (g : List Int → Int) : List D → Sto → Option (D × Sto)
  | [d], S => (seqD d S).bind fun q => (intsOf q.2).bind fun is => if C is then some (.pu (.int (g is)), S) else none
  | _, _ => none
end
end DL
/-! LWH: what the newer rules come to. -/
namespace DL
open PySem PySem.Spec PyProof.Rows L2
section
variable {e : Envi} {S : Sto}
theorem w_inT {neg : Bool} {a : P} {ds : List P} {Q : D × Sto → Prop} : W (gIn neg (.pu a) (.pu (.tuple ds)) S) Q ↔ (shp 9 a && shp 9 (.tuple ds)) = true ∧ Q (.pu (.bool (if neg then !ds.any (fun z => PyData.eqv z a) else ds.any fun z => PyData.eqv z a)), S) := by
  show W (if (shp 9 a && shp 9 (.tuple ds)) = true then _ else none) Q ↔ _
  rw [w_ite, w_some, w_none]
  by_cases c : (shp 9 a && shp 9 (.tuple ds)) = true
  · rw [if_pos c]; exact ⟨fun h => ⟨c, h⟩, fun h => h.2⟩
  · rw [if_neg c]; exact ⟨fun h => h.elim, fun h => (c h.1).elim⟩
theorem w_inL {neg : Bool} {a : P} {ds : List P} {Q : D × Sto → Prop} : W (gIn neg (.pu a) (.pu (.list ds)) S) Q ↔ (shp 9 a && shp 9 (.list ds)) = true ∧ Q (.pu (.bool (if neg then !ds.any (fun z => PyData.eqv z a) else ds.any fun z => PyData.eqv z a)), S) := by
  show W (if (shp 9 a && shp 9 (.list ds)) = true then _ else none) Q ↔ _
  rw [w_ite, w_some, w_none]
  by_cases c : (shp 9 a && shp 9 (.list ds)) = true
  · rw [if_pos c]; exact ⟨fun h => ⟨c, h⟩, fun h => h.2⟩
  · rw [if_neg c]; exact ⟨fun h => h.elim, fun h => (c h.1).elim⟩
theorem w_adT {xs ys : List P} {Q : D × Sto → Prop} : W (gAdA (.pu (.tuple xs)) (.pu (.tuple ys)) S) Q ↔ xs.length + ys.length ≤ lim ∧ Q (.pu (.tuple (xs ++ ys)), S) := by
  show W (if xs.length + ys.length ≤ lim then _ else none) Q ↔ _
  rw [w_ite, w_some, w_none]
  by_cases c : xs.length + ys.length ≤ lim
  · rw [if_pos c]; exact ⟨fun h => ⟨c, h⟩, fun h => h.2⟩
  · rw [if_neg c]; exact ⟨fun h => h.elim, fun h => (c h.1).elim⟩
theorem w_adI {i j : Int} {Q : D × Sto → Prop} : W (gAdA (.pu (.int i)) (.pu (.int j)) S) Q ↔ Q (.pu (.int (i + j)), S) := w_some
theorem w_repL {xs : List P} {k : Int} {Q : D × Sto → Prop} : W (gRepL (.nw (.lst xs)) (.pu (.int k)) S) Q ↔ (0 ≤ k ∧ k ≤ 100000 ∧ xs.length * k.toNat ≤ lim) ∧ Q (.pu (.list (List.replicate k.toNat xs).flatten), S) := by
  show W (if 0 ≤ k ∧ k ≤ 100000 ∧ xs.length * k.toNat ≤ lim then _ else none) Q ↔ _
  rw [w_ite, w_some, w_none]
  by_cases c : 0 ≤ k ∧ k ≤ 100000 ∧ xs.length * k.toNat ≤ lim
  · rw [if_pos c]; exact ⟨fun h => ⟨c, h⟩, fun h => h.2⟩
  · rw [if_neg c]; exact ⟨fun h => h.elim, fun h => (c h.1).elim⟩
theorem w_repN {xs : List P} {k : Int} {Q : D × Sto → Prop} : W (gRepN (.nw (.lst xs)) (.pu (.int k)) S) Q ↔ (0 ≤ k ∧ k ≤ 100000 ∧ xs.length * k.toNat ≤ lim) ∧ Q (.nw (.lst (List.replicate k.toNat xs).flatten), S) := by
  show W (if 0 ≤ k ∧ k ≤ 100000 ∧ xs.length * k.toNat ≤ lim then _ else none) Q ↔ _
  rw [w_ite, w_some, w_none]
  by_cases c : 0 ≤ k ∧ k ≤ 100000 ∧ xs.length * k.toNat ≤ lim
  · rw [if_pos c]; exact ⟨fun h => ⟨c, h⟩, fun h => h.2⟩
  · rw [if_neg c]; exact ⟨fun h => h.elim, fun h => (c h.1).elim⟩
theorem w_repT {xs : List P} {k : Int} {Q : D × Sto → Prop} : W (gRepT (.pu (.tuple xs)) (.pu (.int k)) S) Q ↔ (xs ≠ [] ∧ 2 ≤ k ∧ k ≤ 1000 ∧ xs.length ≤ 1000) ∧ Q (.pu (.tuple (List.replicate k.toNat xs).flatten), S) := by
  show W (if xs ≠ [] ∧ 2 ≤ k ∧ k ≤ 1000 ∧ xs.length ≤ 1000 then _ else none) Q ↔ _
  rw [w_ite, w_some, w_none]
  by_cases c : xs ≠ [] ∧ 2 ≤ k ∧ k ≤ 1000 ∧ xs.length ≤ 1000
  · rw [if_pos c]; exact ⟨fun h => ⟨c, h⟩, fun h => h.2⟩
  · rw [if_neg c]; exact ⟨fun h => h.elim, fun h => (c h.1).elim⟩
theorem w_gSlT {xs : List P} {lo hi : Option Int} {Q : D × Sto → Prop} : W (gSl (.pu (.tuple xs)) lo hi S) Q ↔ ¬ (HT.sIx xs.length 0 lo = 0 ∧ HT.sIx xs.length xs.length hi = xs.length) ∧ Q (.pu (.tuple (cutL xs lo hi)), S) := by
  have e1 : pusOf (cutL (xs.map D.pu) lo hi) = some (cutL xs lo hi) := by
    rw [show cutL (xs.map D.pu) lo hi = (cutL xs lo hi).map D.pu by unfold cutL; rw [List.map_take, List.map_drop, List.length_map], pus_map]
  show W ((pusOf (cutL (xs.map D.pu) lo hi)).bind fun ps => if HT.sIx (xs.map D.pu).length 0 lo = 0 ∧ HT.sIx (xs.map D.pu).length (xs.map D.pu).length hi = (xs.map D.pu).length then none else some (D.pu (.tuple ps), S)) Q ↔ _
  rw [e1, Option.bind_some, List.length_map, w_ite, w_some, w_none]
  by_cases c : HT.sIx xs.length 0 lo = 0 ∧ HT.sIx xs.length xs.length hi = xs.length
  · rw [if_pos c]; exact ⟨fun h => h.elim, fun h => (h.1 c).elim⟩
  · rw [if_neg c]; exact ⟨fun h => ⟨c, h⟩, fun h => h.2⟩
theorem w_iaT {C : List Int → Bool} {g : List Int → Int} {xs : List P} {Q : D × Sto → Prop} : W (gIntsA C g [.pu (.tuple xs)] S) Q ↔ W (intsOf (xs.map D.pu)) fun is => C is = true ∧ Q (.pu (.int (g is)), S) := by
  show W ((intsOf (xs.map D.pu)).bind fun is => if C is then some (D.pu (.int (g is)), S) else none) Q ↔ _
  refine w_bind.trans ⟨fun h => h.imp fun q h => ?_, fun h => h.imp fun q h => ?_⟩
  · by_cases c : C q = true
    · rw [if_pos c] at h; exact ⟨c, w_some.mp h⟩
    · rw [if_neg c] at h; exact (w_none.mp h).elim
  · rw [if_pos h.1]; exact w_some.mpr h.2
theorem w_iaL {C : List Int → Bool} {g : List Int → Int} {xs : List P} {Q : D × Sto → Prop} : W (gIntsA C g [.pu (.list xs)] S) Q ↔ W (intsOf (xs.map D.pu)) fun is => C is = true ∧ Q (.pu (.int (g is)), S) := by
  show W ((intsOf (xs.map D.pu)).bind fun is => if C is then some (D.pu (.int (g is)), S) else none) Q ↔ _
  refine w_bind.trans ⟨fun h => h.imp fun q h => ?_, fun h => h.imp fun q h => ?_⟩
  · by_cases c : C q = true
    · rw [if_pos c] at h; exact ⟨c, w_some.mp h⟩
    · rw [if_neg c] at h; exact (w_none.mp h).elim
  · rw [if_pos h.1]; exact w_some.mpr h.2
end
end DL
/-! DLS: str(x) in the law's own def, which is called by the claim alone. -/
namespace DL
open PySem PySem.Spec PyProof.Rows L2
section
variable {Pg : Program} {w : World} {K : PySem.W.Frag} {mg : Str → Option Value} {base : Heap} {x qual : Str} {st : Stmt} {f : Addr} {fd : FuncData} {N ps : List Str} {k n : Nat} {b : Sx} {sp : Sp}
end
/-! ### str(x) -/
mutual
/-- how many parts it has -/
def parts : P → Nat
  | .list xs => partsL xs + 1
  | .tuple xs => partsL xs + 1
  | .none => 1
  | .bool _ => 1
  | .int _ => 1
  | .str _ => 1
  | .dict _ => 1
def partsL : List P → Nat
  | [] => 0
  | x :: r => parts x + partsL r
end
section
variable {X : Cx} {G : Gx}
end
end DL
/-! DLJ: range downwards, reversed(list) as walks. -/
namespace DL
open PySem PySem.Spec PyProof.Rows L2
section
variable {X : Cx} {G : Gx}
/-- hi, hi - 1, .. (n of them) -/
def dwnD (hi : Int) (n : Nat) : List D := (List.range n).map fun (i : Nat) => .pu (.int (hi - i))
end
end DL
/-! DLK: d[k] of a module's written dict. -/
namespace DL
open PySem PySem.Spec PyProof.Rows L2
section
variable {X : Cx} {G : Gx}
def xKd (ps : List (Str × P)) (b : Ex) : Ex := fun e S => (b e S).bind fun r => match r.1 with
  | .pu (.str z) => (ps.lookup z).bind fun p => some (wrD p, r.2)
  | _ => none
end
end DL
/-! LWJ: what str, range downwards, enumerate, reversed come to. -/
namespace DL
open PySem PySem.Spec PyProof.Rows L2
section
variable {e : Envi} {S : Sto}
def rgdQ (Q : List D × Sto → Prop) (S : Sto) : List D → Prop
  | [.pu (.int i), .pu (.int j), .pu (.int c)] => (rOk i && rOk j && decide (c = -1)) = true ∧ Q (dwnD i (i - j).toNat, S)
  | _ => False
theorem w_rgd {Q : List D × Sto → Prop} {i j c : Int} : rgdQ Q S [.pu (.int i), .pu (.int j), .pu (.int c)] ↔ (rOk i && rOk j && decide (c = -1)) = true ∧ Q (dwnD i (i - j).toNat, S) := Iff.rfl
def enQ (Q : List D × Sto → Prop) (S : Sto) : List D → Prop
  | [.pu (.list ps)] => Q (numD 0 ps, S)
  | _ => False
theorem w_en {Q : List D × Sto → Prop} {ps : List P} : enQ Q S [.pu (.list ps)] ↔ Q (numD 0 ps, S) := Iff.rfl
theorem enum_of {a : Ax} {Q : List D × Sto → Prop} (h : W (a e S) fun r => enQ Q r.2 r.1) : W (iEnumX a e S) Q := by
  refine w_bind.mpr (h.imp fun r h => ?_)
  obtain ⟨ds, S1⟩ := r
  match ds, h with
  | [.pu (.list ps)], h =>
    show W ((pusOf (ps.map D.pu)).bind fun ps => some (numD 0 ps, S1)) Q
    rw [pus_map, Option.bind_some]
    exact w_some.mpr h
def rvQ (Q : List D × Sto → Prop) (S : Sto) : List D → Prop
  | [.pu (.list ps)] => Q (ps.reverse.map .pu, S)
  | _ => False
theorem w_rv {Q : List D × Sto → Prop} {ps : List P} : rvQ Q S [.pu (.list ps)] ↔ Q (ps.reverse.map .pu, S) := Iff.rfl
def kdQ (ps : List (Str × P)) (Q : D × Sto → Prop) (S : Sto) : D → Prop
  | .pu (.str z) => W (ps.lookup z) fun p => Q (wrD p, S)
  | _ => False
theorem w_kdS {ps : List (Str × P)} {Q : D × Sto → Prop} {z : Str} : kdQ ps Q S (.pu (.str z)) ↔ W (ps.lookup z) fun p => Q (wrD p, S) := Iff.rfl
theorem w_kd {ps : List (Str × P)} {xb : Ex} {Q : D × Sto → Prop} : W (xKd ps xb e S) Q ↔ W (xb e S) fun r => kdQ ps Q r.2 r.1 := by
  refine w_bind.trans ⟨fun h => h.imp fun r h => ?_, fun h => h.imp fun r h => ?_⟩
  · obtain ⟨d, S1⟩ := r
    cases d with
    | pu p =>
      cases p with
      | str z =>
        obtain ⟨p, h1, h2⟩ := w_bind.mp (show W ((ps.lookup z).bind fun p => some (wrD p, S1)) Q from h)
        exact ⟨p, h1, w_some.mp h2⟩
      | _ => exact (w_none.mp h).elim
    | _ => exact (w_none.mp h).elim
  · obtain ⟨d, S1⟩ := r
    cases d with
    | pu p =>
      cases p with
      | str z =>
        obtain ⟨p, h1, h2⟩ := (show W (ps.lookup z) fun p => Q (wrD p, S1) from h)
        exact w_bind.mpr ⟨p, h1, w_some.mpr h2⟩
      | _ => exact h.elim
    | _ => exact h.elim
end
end DL
/-! DLM: t[a:b] of a tuple, the whole of it too; zip of unlike ones. -/
namespace DL
open PySem PySem.Spec PyProof.Rows L2 HT
section
variable {prog : Program} {w : World} {A : Around} {E : Value → Shared → Prop} {s : Shared}
end
section
variable {X : Cx} {G : Gx}
def gSlA (d : D) (lo hi : Option Int) (S : Sto) : Option (D × Sto) := (seqD d S).bind fun q => (pusOf (cutL q.2 lo hi)).bind fun ps => match q.1 with
  | true => if HT.sIx q.2.length 0 lo = 0 ∧ HT.sIx q.2.length q.2.length hi = q.2.length then some (d, S) else some (.pu (.tuple ps), S)
  | false => some (.pu (.list ps), S)
def xSlA (a : Ex) (lo hi : Ox) : Ex := fun e S => (a e S).bind fun r => (lo e r.2).bind fun l => (hi e l.2).bind fun h => gSlA r.1 l.1 h.1 h.2
end
end DL
/-! LWM: slices of tuples, whole ones too. -/
namespace DL
open PySem PySem.Spec PyProof.Rows L2
section
variable {e : Envi} {S : Sto}
theorem w_xSlA {a : Ex} {lo hi : Ox} {Q : D × Sto → Prop} : W (xSlA a lo hi e S) Q ↔ W (a e S) fun r => W (lo e r.2) fun l => W (hi e l.2) fun h => W (gSlA r.1 l.1 h.1 h.2) Q := w_bind.trans (by simp only [w_bind])
theorem cut_pu (xs : List P) (lo hi : Option Int) : cutL (xs.map D.pu) lo hi = (cutL xs lo hi).map D.pu := by
  unfold cutL
  rw [List.map_take, List.map_drop, List.length_map]
theorem cut_whole {α : Type} {xs : List α} {lo hi : Option Int} (h : HT.sIx xs.length 0 lo = 0 ∧ HT.sIx xs.length xs.length hi = xs.length) : cutL xs lo hi = xs := by
  unfold cutL
  rw [h.1, h.2, List.drop_zero, Nat.sub_zero, List.take_length]
theorem w_slAT {xs : List P} {lo hi : Option Int} {Q : D × Sto → Prop} : W (gSlA (.pu (.tuple xs)) lo hi S) Q ↔ Q (.pu (.tuple (cutL xs lo hi)), S) := by
  show W ((pusOf (cutL (xs.map D.pu) lo hi)).bind fun ps => if HT.sIx (xs.map D.pu).length 0 lo = 0 ∧ HT.sIx (xs.map D.pu).length (xs.map D.pu).length hi = (xs.map D.pu).length then some (D.pu (.tuple xs), S) else some (D.pu (.tuple ps), S)) Q ↔ _
  rw [cut_pu, pus_map, Option.bind_some, List.length_map]
  by_cases c : HT.sIx xs.length 0 lo = 0 ∧ HT.sIx xs.length xs.length hi = xs.length
  · rw [if_pos c, w_some, cut_whole c]
  · rw [if_neg c, w_some]
theorem w_slAL {xs : List P} {lo hi : Option Int} {Q : D × Sto → Prop} : W (gSlA (.pu (.list xs)) lo hi S) Q ↔ Q (.pu (.list (cutL xs lo hi)), S) := by
  show W ((pusOf (cutL (xs.map D.pu) lo hi)).bind fun ps => some (D.pu (.list ps), S)) Q ↔ _
  rw [cut_pu, pus_map, Option.bind_some, w_some]
end
end DL
/-! DLN: sorted(xs) of any length. -/
namespace DL
open PySem PySem.Spec PyProof.Rows L2
/-- the order of data -/
def leP : P → P → Bool := PySem.W.dataLe false id
def tup1 : P → Bool
  | .tuple (_ :: _) => true
  | _ => false
def noTup : P → Bool
  | .none => false
  | .tuple _ => false
  | _ => true
/-- what sorted takes -/
def srtOk (ds : List P) : Bool := (ds.all fun d => ds.all fun d' => PySem.W.alike d d') && (ds.all tup1 || ds.all noTup) && ds.all (shp 8) && decide (ds.length ≤ lim)
theorem each_zip {H : Hp} : ∀ {ws : List V} {ds : List P} {us : List Value}, RepL H ws ds → Vals ws us → PySem.W.EachIs (fun (v : Value) (b : V × P) => RelV b.1 v) us (ws.zip ds)
  | _, _, _, .nil, .nil => .nil
  | _, _, _, .cons h t, .cons r rs => .cons r (each_zip t rs)
theorem each_vals : ∀ {us : List Value} {bs : List (V × P)}, PySem.W.EachIs (fun (v : Value) (b : V × P) => RelV b.1 v) us bs → Vals (bs.map (·.1)) us
  | _, _, .nil => .nil
  | _, _, .cons r rs => .cons r (each_vals rs)
theorem rep_zip {H : Hp} : ∀ {ws : List V} {ds : List P}, RepL H ws ds → ∀ b ∈ ws.zip ds, Rep H b.1 b.2
  | _, _, .nil, b, hb => by cases hb
  | _, _, .cons h t, b, hb => by
    rcases List.mem_cons.mp hb with rfl | hb
    · exact h
    · exact rep_zip t b hb
theorem zip_rep {H : Hp} : ∀ {bs : List (V × P)}, (∀ b ∈ bs, Rep H b.1 b.2) → RepL H (bs.map (·.1)) (bs.map (·.2))
  | [], _ => .nil
  | b :: bs, h => .cons (h b List.mem_cons_self) (zip_rep fun c hc => h c (List.mem_cons_of_mem _ hc))
section
variable {X : Cx} {G : Gx}
theorem each_reads {pins : List (Addr × Obj)} {σ : L2.St} {H : Hp} {s : Shared} (I : Inv X pins σ H s) : ∀ {ws : List V} {ds : List P} {us : List Value}, RepL H ws ds → Vals ws us → ds.all (shp 8) = true → PySem.W.EachIs (fun (v : Value) (b : V × P) => ∃ as, Reads s.heap v b.2 as) us (ws.zip ds)
  | _, _, _, .nil, .nil, _ => .nil
  | _, _, _, .cons h t, .cons r rs, hs => by
    rw [List.all_cons, Bool.and_eq_true] at hs
    exact .cons (Dp.reads I _ _ _ (Rep.dp h (shp_ok 8 _ hs.1).1) r) (each_reads I t rs hs.2)
def rSortD (K : PySem.W.Frag) : List V → Hp → VK → Prop := fun xs H Q => ∃ (a : Addr) (ws : List V) (ds : List P), xs = [.ref a] ∧ SqL K H a ws ∧ RepL H ws ds ∧ srtOk ds = true ∧
  ∀ (ws' : List V) (p : Addr), RepL H ws' (ds.mergeSort leP) → H p = none → Q (.ref p) (upd H p (.lst ws'))
theorem cr_sortD (hu : X.A.units + 65 < cLine) : CallR X (.builtin "sorted") (rSortD X.K) := by
  intro pins s σ H xs us Q I r h
  obtain ⟨a, ws, ds, rfl, hs, hr, ok, q⟩ := h
  obtain ⟨its, rv, hl, hz⟩ := I.list hs
  rw [Vals.ref1 r]
  unfold srtOk at ok
  rw [Bool.and_eq_true, Bool.and_eq_true, Bool.and_eq_true, Bool.or_eq_true, decide_eq_true_eq] at ok
  obtain ⟨⟨⟨o1, o2⟩, o3⟩, o4⟩ := ok
  have en : (ws.zip ds).map (fun b => b.2) = ds := List.map_snd_zip (Nat.le_of_eq hr.length.symm)
  have hal : PySem.W.AllAlike ((ws.zip ds).map fun b => b.2) := by
    rw [en]
    intro d hd d' hd'
    exact List.all_eq_true.mp (List.all_eq_true.mp o1 d hd) d' hd'
  have hk : PySem.W.Sortable ((ws.zip ds).map fun b => b.2) := by
    rw [en]
    rcases o2 with o2 | o2
    · refine .inl fun d hd => ?_
      have := List.all_eq_true.mp o2 d hd
      cases d with
      | tuple xs => cases xs with
        | nil => cases this
        | cons x r => exact ⟨x, r, rfl⟩
      | _ => cases this
    · refine .inr fun d hd => ?_
      have := List.all_eq_true.mp o2 d hd
      exact ⟨fun e => (by rw [e] at this; cases this), fun xs e => (by rw [e] at this; cases this)⟩
  have hlen : (ws.zip ds).length ≤ sizeLine := by rw [List.length_zip, hr.length, Nat.min_self, ← lim_eq]; exact o4
  have hdep : ∀ b, b ∈ ws.zip ds → X.A.units + 2 + (b.2).depth < cLine := fun b hb => by
    have hm : b.2 ∈ ds := by rw [← en]; exact List.mem_map_of_mem hb
    have := (shp_ok 8 _ (List.all_eq_true.mp o3 _ hm)).2
    omega
  refine PySem.W.sorted_data (enc := fun b : V × P => b.2) hl.isList (each_zip hr rv) (each_reads I hr rv o3) hal hk hlen hdep fun out ho eo => ?_
  obtain ⟨ep, he'⟩ := PyProof.Rows.sortedAll_at s.heap its (List.toArray out)
  have hv := each_vals eo
  have hrep : RepL H (((ws.zip ds).mergeSort (PySem.W.dataLe false fun b : V × P => b.2)).map (·.1)) (((ws.zip ds).mergeSort (PySem.W.dataLe false fun b : V × P => b.2)).map (·.2)) := zip_rep fun b hb => rep_zip hr b (List.mem_mergeSort.mp hb)
  have hds : ((ws.zip ds).mergeSort (PySem.W.dataLe false fun b : V × P => b.2)).map (·.2) = ds.mergeSort leP := by
    exact (List.map_mergeSort (r := PySem.W.dataLe false fun b : V × P => b.2) (s := leP) (f := fun b : V × P => b.2) (fun _ _ _ _ => rfl)).trans (by rw [en])
  rw [hds] at hrep
  have hl2 : (((ws.zip ds).mergeSort (PySem.W.dataLe false fun b : V × P => b.2)).map (·.1)).length ≤ sizeLine := by rw [hrep.length, List.length_mergeSort, ← lim_eq]; exact o4
  exact ⟨.ref _, upd H (s.heap.objs.size + 1) (.lst _), I.laid (t' := s.toks) (fun _ _ => PyProof.Rows.sortedAll_old) (Nat.le_succ _) ⟨hl2, out, ep, hv, he'⟩, rfl, q _ _ hrep (I.hok.fresh (Nat.le_succ _))⟩
def gSortW (mk : List P → D) : List D → Sto → Option (D × Sto)
  | [d], S => (seqD d S).bind fun q => (pusOf q.2).bind fun ps => if (!q.1 && srtOk ps) = true then some (mk (ps.mergeSort leP), S) else none
  | _, _ => none
def gSorted : List D → Sto → Option (D × Sto) := gSortW fun ps => .pu (.list ps)
theorem v_sortD (hK : X.K = G.K) : VA G (rSortD X.K) gSorted := by
  intro σ H e S f vs ds d S' Q r0 rs hg q
  match ds, rs with
  | [dx], .cons (a := x) rx .nil =>
    obtain ⟨⟨k, is⟩, h1, hg⟩ := Option.bind_eq_some_iff.mp (show (seqD dx S).bind _ = _ from hg)
    obtain ⟨ps, h2, hg⟩ := Option.bind_eq_some_iff.mp hg
    by_cases c : (!k && srtOk ps) = true
    · rw [if_pos c] at hg
      cases hg
      rw [Bool.and_eq_true, Bool.not_eq_true'] at c
      obtain ⟨rfl, c2⟩ := c
      obtain ⟨a, us, rfl, ht, hl, hp⟩ := seq_ok r0 rx h1
      have e2 := pusOf_eq h2
      dsimp only at e2
      subst e2
      rw [hK]
      exact ⟨a, us, ps, rfl, hl rfl, rd_reps hp, c2, fun ws' p hr np => lst_fin np hr fun v H' s rv => q v H' f (r0.same s) (.of s _ _) rv⟩
    · rw [if_neg c] at hg
      cases hg
  | [], _ => cases hg
  | _ :: _ :: _, _ => simp [gSorted, gSortW] at hg
end
end DL
/-! LWN: sorted, and what is rising. -/
namespace DL
open PySem PySem.Spec PyProof.Rows L2
theorem sort_own {mk : List P → D} {i : Nat} {xs : List P} {S : Sto} {Q : D × Sto → Prop} (h : srtOk xs = true) (q : Q (mk (xs.mergeSort leP), S)) : W (gSortW mk [.bo i (.lst xs)] S) Q := by
  show W ((pusOf (xs.map D.pu)).bind fun ps => if (!false && srtOk ps) = true then some (mk (ps.mergeSort leP), S) else none) Q
  rw [pus_map, Option.bind_some, h]
  exact w_some.mpr q
/-- what rises is told by what it holds -/
theorem rising_eq {α : Type} {r : α → α → Prop} (irr : ∀ a, ¬ r a a) (tr : ∀ a b c, r a b → r b c → r a c) : ∀ {xs ys : List α}, xs.Pairwise r → ys.Pairwise r → (∀ a, a ∈ xs ↔ a ∈ ys) → xs = ys
  | [], [], _, _, _ => rfl
  | [], y :: ys, _, _, h => by have := (h y).mpr List.mem_cons_self; cases this
  | x :: xs, [], _, _, h => by have := (h x).mp List.mem_cons_self; cases this
  | x :: xs, y :: ys, px, py, h => by
    rw [List.pairwise_cons] at px py
    have exy : x = y := by
      rcases List.mem_cons.mp ((h x).mp List.mem_cons_self) with e | e
      · exact e
      rcases List.mem_cons.mp ((h y).mpr List.mem_cons_self) with e2 | e2
      · exact e2.symm
      · exact absurd (tr _ _ _ (px.1 y e2) (py.1 x e)) (irr x)
    subst exy
    rw [rising_eq irr tr px.2 py.2 fun a => ⟨fun ha => by
      rcases List.mem_cons.mp ((h a).mp (List.mem_cons_of_mem _ ha)) with e | e
      · subst e; exact absurd (px.1 a ha) (irr a)
      · exact e, fun ha => by
      rcases List.mem_cons.mp ((h a).mpr (List.mem_cons_of_mem _ ha)) with e | e
      · subst e; exact absurd (py.1 a ha) (irr a)
      · exact e⟩]
/-! ### triples of whole numbers -/
abbrev T3 := Int × Int × Int
def lt3 (a b : T3) : Prop := a.1 < b.1 ∨ (a.1 = b.1 ∧ (a.2.1 < b.2.1 ∨ (a.2.1 = b.2.1 ∧ a.2.2 < b.2.2)))
def le3 (a b : T3) : Prop := a.1 < b.1 ∨ (a.1 = b.1 ∧ (a.2.1 < b.2.1 ∨ (a.2.1 = b.2.1 ∧ a.2.2 ≤ b.2.2)))
instance (a b : T3) : Decidable (lt3 a b) := by unfold lt3; infer_instance
instance (a b : T3) : Decidable (le3 a b) := by unfold le3; infer_instance
end DL
/-! DLQ: zip of a list or tuple and a list or tuple. -/
namespace DL
open PySem PySem.Spec PyProof.Rows L2
/-- a list (false) or a tuple (true) -/
def SqB (K : PySem.W.Frag) (H : Hp) : Bool → Addr → List V → Prop
  | true, a, xs => SqT K H a xs
  | false, a, xs => SqL K H a xs
def itB (h : Heap) : Bool → Addr → Addr → Nat → Prop
  | true, i, a, n => h.IsTupleIter i a n
  | false, i, a, n => h.IsListIter i a n
def sqB (h : Heap) : Bool → Addr → Array Value → Prop
  | true, a, xs => h.IsTuple a xs
  | false, a, xs => h.IsList a xs
def newB : Bool → Addr → Obj
  | true, a => { cls := .type "tuple_iterator", data := .fields #[.ref a, .int 0 0] }
  | false, a => { cls := .type "list_iterator", data := .fields #[.ref a, .int 0 0] }
theorem drawsB {prog : Program} {w : World} {A : Around} (hh : A.handled = none) (k : Bool) (it l : Addr) (hne : l ≠ it) (items : Array Value) :
    Draws prog w A it [it, l] items.size (fun i v => items[i]? = some v) (fun i h => itB h k it l i ∧ sqB h k l items) := by
  cases k
  · exact Draws.list hh it l hne items
  · exact Draws.tuple hh it l hne items
theorem beginsB (k : Bool) (l : Addr) (items : Array Value) : Begins (.ref l) (newB k l) fun h => sqB h k l items := by
  cases k
  · exact begins_list l items
  · exact begins_tuple l items
theorem itB_new {k : Bool} {h : Heap} {i l : Addr} (e : h.get? i = some (newB k l)) : itB h k i l 0 := by
  cases k
  · exact ⟨_, e, rfl, rfl⟩
  · exact ⟨_, e, rfl, rfl⟩
theorem itB_obj {k : Bool} {h : Heap} {i l : Addr} {n : Nat} (e : itB h k i l n) : ∃ o vs, h.get? i = some o ∧ o.data = .fields vs := by
  cases k
  · obtain ⟨o, e1, _, d1⟩ := e; exact ⟨o, _, e1, d1⟩
  · obtain ⟨o, e1, _, d1⟩ := e; exact ⟨o, _, e1, d1⟩
theorem itB_at {k : Bool} {h h' : Heap} {i l : Addr} {n : Nat} (e : itB h k i l n) (q : ∀ o, h.get? i = some o → h'.get? i = some o) : itB h' k i l n := by
  cases k
  · exact Heap.IsListIter.at e q
  · exact Heap.IsTupleIter.at e q
section
variable {X : Cx} {pins : List (Addr × Obj)} {σ : L2.St} {H : Hp} {s : Shared}
theorem invB (I : Inv X pins σ H s) {k : Bool} {a : Addr} {xs : List V} (h : SqB X.K H k a xs) : ∃ its, Vals xs its ∧ sqB s.heap k a its.toArray ∧ a < s.heap.objs.size := by
  cases k
  · obtain ⟨its, rv, p, _⟩ := I.list h
    exact ⟨its, rv, p.isList, p.lt⟩
  · obtain ⟨its, rv, p, _⟩ := I.tuple h
    obtain ⟨o, ho, hd⟩ := id p
    exact ⟨its, rv, ⟨o, ho, hd⟩, Heap.lt_size ho⟩
theorem injB (I : Inv X pins σ H s) {k : Bool} {a : Addr} {xs ys : List V} (h : SqB X.K H k a xs) (h' : SqB X.K H k a ys) : xs = ys := by
  cases k
  · exact I.list_inj h h'
  · exact I.tuple_inj h h'
end
section
variable {X : Cx} {G : Gx}
theorem itemsB {G : Gx} {H : Hp} {k : Bool} {a : Addr} {us : List V} (h : (k = true → SqT G.K H a us) ∧ (k = false → SqL G.K H a us)) : SqB G.K H k a us := by
  cases k
  · exact h.2 rfl
  · exact h.1 rfl
end
end DL
/-! DLR: enumerate of a list or a tuple. -/
namespace DL
open PySem PySem.Spec PyProof.Rows L2
section
open Sem (wp)
theorem meets_enum1 {v : Value} {o : Obj} {H : Heap → Prop} (B : Begins v o H) :
    Meets (Builtin.«enumerate.__new__» ⟨[.type "enumerate", v], []⟩) (fun _ R s => H s.heap ∧
      R (.ok (.ret (.ref (s.heap.push o).objs.size))) { s with heap := (s.heap.push o).push { cls := .type "enumerate", data := .fields #[.none, .bool false, .ref s.heap.objs.size, rawInt 0, .none, .none] } }) :=
  .of_wp fun prog w A R s h => by
    obtain ⟨hp, g, d, tk, os⟩ := s; obtain ⟨h1, h⟩ := h
    have hsub := sub_enumerate
    have q1 : ∀ {A' : Around} {E : Value → Shared → Prop} {Q : Value → Shared → Prop}, Q (.ref hp.objs.size) ⟨hp.push o, g, d, tk, os⟩ → wpAny (model prog w) A' (pyIter v) Q E ⟨hp, g, d, tk, os⟩ :=
      fun q => B.iter prog w _ _ ⟨hp, g, d, tk, os⟩ _ h1 q
    wp_walk using q1
    refine wpAny_stack_any fun st => wpAny_pure ?_
    split
    · rename_i c _ _ _ _ _
      cases (c == Value.type "enumerate")
      · wp_walk using q1
        exact ⟨_, rfl, h⟩
      · wp_walk using q1
        exact ⟨_, rfl, h⟩
    · wp_walk using q1
      exact ⟨_, rfl, h⟩
end
section
variable {prog : Program} {w : World} {A : Around} {E : Value → Shared → Prop} {s : Shared}
theorem call_enumB {v : Value} {o : Obj} {H : Heap → Prop} {Q : Value → Shared → Prop} (B : Begins v o H) (h1 : H s.heap)
    (h : ∀ h', IsEnum h' (s.heap.objs.size + 1) s.heap.objs.size 0 .none → h'.get? s.heap.objs.size = some o → h'.objs.size = s.heap.objs.size + 2 →
      (∀ b o, s.heap.get? b = some o → h'.get? b = some o) → Q (.ref (s.heap.objs.size + 1)) { s with heap := h' }) :
    wpAny (model prog w) A (call (.type "enumerate") [v]) Q E s := by
  refine callType_new F.called_enumerate (by decide) (F.typeCall_enumerate_1 _) (F.newCall_enumerate_1 _) (fun obj => F.args_object_init_2 obj _) F.entry_enumerate_new
    (meets_enum1 B) ⟨h1, ?_⟩
  have hz : (s.heap.push o).objs.size = s.heap.objs.size + 1 := Heap.size_push ..
  show _ ∧ _
  rw [hz]
  have he : IsEnum ((s.heap.push o).push { cls := .type "enumerate", data := .fields #[.none, .bool false, .ref s.heap.objs.size, rawInt 0, .none, .none] }) (s.heap.objs.size + 1) s.heap.objs.size 0 .none := by
    have := Heap.get?_push_size (s.heap.push o) (o := { cls := .type "enumerate", data := .fields #[.none, .bool false, .ref s.heap.objs.size, rawInt 0, .none, .none] }) rfl
    rw [hz] at this; exact this
  refine ⟨⟨_, he, rfl⟩, h _ he (Heap.get?_push_of_some _ (Heap.get?_push_size _ B.free)) (by rw [Heap.size_push, hz]) fun b o x => Heap.get?_push_of_some _ (Heap.get?_push_of_some _ x)⟩
end
def IteB (K : PySem.W.Frag) (k : Bool) (a : Addr) : It :=
  ⟨fun i H => ∃ (xs : List V) (x : V), SqB K H k a xs ∧ xs[i]? = some x, fun i H v H' => ∃ T x, v = .ref T ∧ H T = none ∧ H' = upd H T (.tup [.int (i : Nat), x]) ∧ ∀ xs, SqB K H k a xs → xs[i]? = some x, fun i H => ∃ xs : List V, SqB K H k a xs ∧ xs.length = i⟩
theorem turn_enumB {P : Program} {w : World} {K : PySem.W.Frag} {elts : List Expr} {kk : Nat} {tpos : Pos} (k : Bool) (a e it : Addr) :
    Turn P w K (.Tuple elts kk tpos) (IteB K k a) [e, it] e (fun i h => (∃ old, IsEnum h e it ((i : Nat) : Int) old) ∧ itB h k it a i ∧ e ≠ it ∧ a ≠ it ∧ e ≠ a) where
  mem := by simp
  obj := fun i h st b hb => by
    obtain ⟨⟨old, he⟩, g1, _⟩ := st
    obtain ⟨o, vs, ho, hd⟩ := itB_obj g1
    have e' : b = e ∨ b = it := by simpa using hb
    rcases e' with z | z
    · rw [z]; exact ⟨_, he, fun v q => nomatch q⟩
    · rw [z]; exact ⟨o, ho, fun v q => by rw [hd] at q; cases q⟩
  keep := fun i h h' st k => let ⟨⟨old, he⟩, hi, hne⟩ := st; ⟨⟨old, k e (by simp) _ he⟩, itB_at hi fun o q => k it (by simp) o q, hne⟩
  item := by
    intro X hP hw hK hc i pins s σ H E I hf st hg
    subst hP hw hK
    obtain ⟨⟨old, he⟩, hit, hne, hna, hnb⟩ := st
    obtain ⟨xs, x, hq, hx⟩ := hg
    obtain ⟨its, rv, p, hz⟩ := invB I hq
    obtain ⟨u, hu, ru⟩ := rv.get hx
    have hel : e < s.heap.objs.size := Heap.lt_size he
    obtain ⟨o1, vs1, g1, _⟩ := itB_obj hit
    have hil : it < s.heap.objs.size := Heap.lt_size g1
    have hh : X.A.in1.handled = none := I.ok.hd hc
    have hi1 : i < its.toArray.size := by
      have := List.getElem?_eq_some_iff.mp hu
      obtain ⟨h, _⟩ := this
      simpa using h
    refine wpAny_pyNext_enum_itemD (drawsB hh k it a hna its.toArray) he ⟨hit, p⟩ hi1 hne (by simp [hne, hnb]) fun x1 h' tk e1 ho n1 hT hsz hk => ?_
    have e1 : u = x1 := Option.some.inj ((by simpa using hu : its.toArray[i]? = some u).symm.trans e1)
    subst e1
    refine ⟨_, rfl, wpAny_letOwnedTupleGo_enum (s := { s with heap := h', toks := tk + 1 }) ho fun h'' he' sb => ?_⟩
    have hT2 : h''.get? s.heap.objs.size = some { cls := .type "tuple", data := .seq #[.int i tk, u] } := (sb.2 _ (Nat.ne_of_gt hel)).trans hT
    have new : ObjOk X.prog X.w (upd H s.heap.objs.size (.tup [.int (i : Nat), x])) h'' s.heap.objs.size (.tup [.int (i : Nat), x]) :=
      ⟨by show 2 ≤ sizeLine; decide, [.int i tk, u], .cons ⟨_, rfl⟩ (.cons ru .nil), ⟨_, hT2, rfl, _, rfl⟩⟩
    have I1 : Inv X pins σ (upd H s.heap.objs.size (.tup [.int (i : Nat), x])) { s with heap := h'', toks := tk + 1 } :=
      I.turnedNew (t' := tk + 1) (ch := [e, it]) (fun b ob hb q => (sb.2 b (fun z => hb (by simp [z]))).trans (hk b ob (fun z => hb (by simp [z])) (fun z => hb (by simp [z])) q)) hf (Nat.le_refl _) new
    refine ⟨.ref s.heap.objs.size, _, I1, rfl, ⟨_, x, rfl, I.hok.fresh (Nat.le_refl _), rfl, fun ys hy => by rw [injB I hy hq]; exact hx⟩, ⟨⟨u, ?_⟩, itB_at n1.1 fun o q => (sb.2 it (Ne.symm hne)).trans q, hne, hna, hnb⟩, fun b hb => ?_⟩
    · have e1 : ((i + 1 : Nat) : Int) = (i : Int) + 1 := by omega
      rw [e1]; exact he'
    · have hb' : b < s.heap.objs.size := by
        have e' : b = e ∨ b = it := by simpa using hb
        rcases e' with z | z
        · rw [z]; exact hel
        · rw [z]; exact hil
      rw [upd_ne (Nat.ne_of_lt hb')]
      exact (hf b hb).1
  done := by
    intro X hP hw hK hc i pins s σ H E I hf st hg
    subst hP hw hK
    obtain ⟨⟨old, he⟩, hit, hne, hna, hnb⟩ := st
    obtain ⟨xs, hq, hx⟩ := hg
    obtain ⟨its, rv, p, hz⟩ := invB I hq
    obtain ⟨f0, f1, f2, f3, f4, f5⟩ := hf it (by simp)
    have hl := rv.length
    have hh : X.A.in1.handled = none := I.ok.hd hc
    have hi : i = its.toArray.size := by rw [List.size_toArray]; omega
    subst hi
    exact wpAny_pyNext_enum_endD (drawsB hh k it a hna its.toArray) he ⟨hit, p⟩ fun h' eb => ⟨rfl, I.turned (t' := s.toks) (fun b o hb q => eb b o hb q) f0 f1 f3 f4 f5⟩
  self := fun A i s Q E st h => let ⟨⟨_, he⟩, _⟩ := st; wpAny_pyIter_enum he h
def iEnumB (K : PySem.W.Frag) (ta : TA) : TI := fun σ H R => ta σ H fun vs H1 => ∃ k a xs, vs = [.ref a] ∧ SqB K H1 k a xs ∧ R (IteB K k a) H1
theorem pi_enumB {X : Cx} {e : Expr} {ta : TA} {p pos tpos : Pos} {elts : List Expr} {kk : Nat} (hg : Gl X "enumerate") (hm : X.mg "enumerate" = none) (ha : PA X [e] ta) (hs : starEach [e] X.env = [(false, eval e X.env)] := by rfl) :
    PI X (.Tuple elts kk tpos) (.Call (.Name "enumerate" p) [e] [] pos) (iEnumB X.K ta) := by
  refine ⟨fun pins s σ H R I h => ?_⟩
  refine Call_ (ld_blt I hg hm boot_enumerate (PyProof.Rows.callWith_type1 (thn (ha.run pos pins s σ H _ I h) fun us s1 ⟨vs, H1, I1, r1, q1⟩ => ?_) hs rfl))
  obtain ⟨k, a, xs, ex, hq, q⟩ := q1
  subst ex
  cases r1 with
  | cons r rr =>
    cases rr
    cases r
    obtain ⟨its, rv, p1, la⟩ := invB I1 hq
    refine call_enumB (beginsB k a its.toArray) p1 fun h' he hit hsz hk => wpAny_pyIter_enum he ?_
    have I2 : Inv X pins σ H1 { s1 with heap := h' } := I1.kept (t' := s1.toks) hk
    refine ⟨s1.heap.objs.size + 1, [s1.heap.objs.size + 1, s1.heap.objs.size], _, _, H1, rfl, I2, turn_enumB k a (s1.heap.objs.size + 1) s1.heap.objs.size, ⟨⟨.none, he⟩, itB_new hit, Nat.succ_ne_self _, Nat.ne_of_lt la, Nat.ne_of_gt (Nat.lt_succ_of_lt la)⟩, fun b hb => ?_, q⟩
    have e' : b = s1.heap.objs.size + 1 ∨ b = s1.heap.objs.size := by simpa using hb
    have hle : s1.heap.objs.size ≤ b := by
      rcases e' with z | z
      · rw [z]; exact Nat.le_add_right _ _
      · rw [z]; exact Nat.le_refl _
    exact I1.fpOk hle (I1.hok.fresh hle)
section
variable {X : Cx} {G : Gx}
def iEnumY (a : Ax) : Ix := fun e S => (a e S).bind fun r => match r.1 with
  | [d] => match itemsD d with
    | some (_, ds) => (pusOf ds).bind fun ps => some (numD 0 ps, r.2)
    | _ => none
  | _ => none
theorem di_enumB {a : Expr} {xa : Ax} {p pos tpos : Pos} {elts : List Expr} {kk : Nat} (hK : X.K = G.K) (hg : Gl X "enumerate") (hm : X.mg "enumerate" = none) (ha : DA X G [a] xa) (hs : starEach [a] X.env = [(false, eval a X.env)] := by rfl) : DI X G (.Tuple elts kk tpos) (.Call (.Name "enumerate" p) [a] [] pos) (iEnumY xa) := pi_mono (pi_enumB hg hm ha hs) fun σ H Q hw => by
  obtain ⟨e, S, f, r, ds, S', hx, q⟩ := hw
  obtain ⟨⟨as, S1⟩, h1, hx⟩ := Option.bind_eq_some_iff.mp hx
  refine ⟨e, S, f, r, as, S1, h1, fun vs H1 f1 r1 n1 p1 => ?_⟩
  match as, p1, hx with
  | [d], .cons p2 .nil, hx =>
    dsimp only at hx
    cases hi : itemsD d with
    | none => rw [hi] at hx; cases hx
    | some ki =>
      obtain ⟨k, is⟩ := ki
      rw [hi] at hx
      dsimp only at hx
      obtain ⟨ps, h3, hx⟩ := Option.bind_eq_some_iff.mp hx
      cases hx
      have e3 := pusOf_eq h3
      subst e3
      obtain ⟨a, us, rfl, hh⟩ := items_ok p2 hi
      have sa : ∀ H', Ext0 H1 H' → SqB G.K H' k a us := fun H' x => itemsB (G := G) ⟨(hh H' x).1, (hh H' x).2.1⟩
      rw [hK]
      refine ⟨k, a, us, rfl, sa H1 (.refl _), q _ H1 f1 r1 n1 ⟨fun H' i d x hd => ?_, fun H' i d v H2 x hd hy => ?_, fun H' x => ?_⟩⟩
      · obtain ⟨p, hp, _⟩ := numD_get 0 ps i d hd
        obtain ⟨_, _, h6⟩ := hh H' x
        obtain ⟨u, hu, _⟩ := Paired.get2 h6 (show (ps.map D.pu)[i]? = some (.pu p) by rw [List.getElem?_map, hp]; rfl)
        exact ⟨us, u, sa H' x, hu⟩
      · obtain ⟨p, hp, rfl⟩ := numD_get 0 ps i d hd
        obtain ⟨_, _, h6⟩ := hh H' x
        obtain ⟨T, y, rfl, nT, rfl, hy⟩ := hy
        obtain ⟨u, hu, pu⟩ := Paired.get2 h6 (show (ps.map D.pu)[i]? = some (.pu p) by rw [List.getElem?_map, hp]; rfl)
        have e : u = y := Option.some.inj (hu.symm.trans (hy us (sa H' x)))
        rw [e] at pu
        have s := upd_new (o := .tup [.int (i : Nat), y]) nT
        refine ⟨s, Rep.tup upd_same (.cons ?_ (.cons (Rep.ext (.of s) pu) .nil))⟩
        rw [Nat.zero_add]
        exact .int _
      · obtain ⟨_, _, h6⟩ := hh H' x
        exact ⟨us, sa H' x, by rw [numD_length, paired_len h6, List.length_map]⟩
end
end DL
/-! DLT: list(range(a, b)). -/
namespace DL
open PySem PySem.Spec PyProof.Rows L2
section
variable {X : Cx} {G : Gx}
def rngP (a : Int) (n : Nat) : List P := (List.range n).map fun i : Nat => .int (a + (i : Int))
def xLr (mk : List P → D) (xa xb : Ex) : Ex := fun e S => (xa e S).bind fun r => (xb e r.2).bind fun q => match r.1, q.1 with
  | .pu (.int i), .pu (.int j) => if (rOk i && rOk j && decide ((j - i).toNat ≤ 100000)) = true then some (mk (rngP i (j - i).toNat), q.2) else none
  | _, _ => none
theorem rep_rng {H : Hp} (a : Int) : ∀ n : Nat, RepL H ((List.range n).map fun i => V.int (a + (i : Nat))) (rngP a n) := fun n => by
  unfold rngP
  have : ∀ l : List Nat, RepL H (l.map fun i => V.int (a + (i : Nat))) (l.map fun i : Nat => PyData.int (a + (i : Int))) := fun l => by
    induction l with
    | nil => exact .nil
    | cons x l ih => exact .cons (.int _) ih
  exact this _
theorem lr_mid {xa xb : Ex} {mk : List P → D} {e : Envi} {S S' : Sto} {d : D} (hx : xLr mk xa xb e S = some (d, S')) : ∃ i j S1, xa e S = some (.pu (.int i), S1) ∧ xb e S1 = some (.pu (.int j), S') ∧ RgOk i j ∧ d = mk (rngP i (j - i).toNat) := by
  obtain ⟨⟨d1, S1⟩, h1, hx⟩ := Option.bind_eq_some_iff.mp hx
  obtain ⟨⟨d2, S2⟩, h2, hx⟩ := Option.bind_eq_some_iff.mp hx
  dsimp only at hx h2
  match d1, d2, h1, h2, hx with
  | .pu (.int i), .pu (.int j), h1, h2, hx =>
    by_cases c : (rOk i && rOk j && decide ((j - i).toNat ≤ 100000)) = true
    · dsimp only at hx
      rw [if_pos c] at hx
      cases hx
      rw [Bool.and_eq_true, Bool.and_eq_true, rOk_iff, rOk_iff, decide_eq_true_eq] at c
      exact ⟨i, j, S1, h1, h2, ⟨by omega, by omega, by omega, by omega, by omega⟩, rfl⟩
    · dsimp only at hx
      rw [if_neg c] at hx
      cases hx
end
end DL
/-! LWQ: rules of DLQ. -/
namespace DL
open PySem PySem.Spec PyProof.Rows L2
section
variable {e : Envi} {S : Sto}
def zyQ (Q : List D × Sto → Prop) (S : Sto) : List D → Prop
  | [.pu (.tuple xs), .pu (.tuple ys)] => Q (zipD xs ys, S)
  | [.pu (.list xs), .pu (.list ys)] => Q (zipD xs ys, S)
  | [.pu (.tuple xs), .pu (.list ys)] => Q (zipD xs ys, S)
  | [.pu (.list xs), .pu (.tuple ys)] => Q (zipD xs ys, S)
  | _ => False
theorem w_zyT {Q : List D × Sto → Prop} {xs ys : List P} : zyQ Q S [.pu (.tuple xs), .pu (.tuple ys)] ↔ Q (zipD xs ys, S) := Iff.rfl
theorem w_zyL {Q : List D × Sto → Prop} {xs ys : List P} : zyQ Q S [.pu (.list xs), .pu (.list ys)] ↔ Q (zipD xs ys, S) := Iff.rfl
theorem w_zyM {Q : List D × Sto → Prop} {xs ys : List P} : zyQ Q S [.pu (.tuple xs), .pu (.list ys)] ↔ Q (zipD xs ys, S) := Iff.rfl
theorem w_zyN {Q : List D × Sto → Prop} {xs ys : List P} : zyQ Q S [.pu (.list xs), .pu (.tuple ys)] ↔ Q (zipD xs ys, S) := Iff.rfl
def eyQ (Q : List D × Sto → Prop) (S : Sto) : List D → Prop
  | [.pu (.tuple xs)] => Q (numD 0 xs, S)
  | [.pu (.list xs)] => Q (numD 0 xs, S)
  | _ => False
theorem w_eyT {Q : List D × Sto → Prop} {xs : List P} : eyQ Q S [.pu (.tuple xs)] ↔ Q (numD 0 xs, S) := Iff.rfl
theorem w_eyL {Q : List D × Sto → Prop} {xs : List P} : eyQ Q S [.pu (.list xs)] ↔ Q (numD 0 xs, S) := Iff.rfl
theorem enumY_of {a : Ax} {Q : List D × Sto → Prop} (h : W (a e S) fun r => eyQ Q r.2 r.1) : W (iEnumY a e S) Q := by
  refine w_bind.mpr (h.imp fun r h => ?_)
  obtain ⟨ds, S1⟩ := r
  dsimp only at h ⊢
  unfold eyQ at h
  split at h
  iterate 2 (· dsimp only [itemsD]
               rw [pus_map, Option.bind_some]
               exact ⟨_, rfl, h⟩)
  · exact h.elim
def lrQ (mk : List P → D) (Q : D × Sto → Prop) (S : Sto) : D → D → Prop
  | .pu (.int i), .pu (.int j) => (rOk i && rOk j && decide ((j - i).toNat ≤ 100000)) = true ∧ Q (mk (rngP i (j - i).toNat), S)
  | _, _ => False
theorem w_lrI {mk : List P → D} {i j : Int} {Q : D × Sto → Prop} : lrQ mk Q S (.pu (.int i)) (.pu (.int j)) ↔ (rOk i && rOk j && decide ((j - i).toNat ≤ 100000)) = true ∧ Q (mk (rngP i (j - i).toNat), S) := Iff.rfl
end
end DL
/-! DLU: len, list, in, for of dicts. -/
namespace DL
open PySem PySem.Spec PyProof.Rows L2
section
variable {X : Cx} {G : Gx} {σ : L2.St} {H : Hp} {e : Envi} {S : Sto} {f : Nat → Addr}
theorem rep_kV (k : Key) : Rep H (kV k) (keyP k) := by
  cases k
  · exact .int _
  · exact .str _
theorem rep_kVs : ∀ ks : List Key, RepL H (ks.map kV) (ks.map keyP)
  | [] => .nil
  | k :: ks => .cons (rep_kV k) (rep_kVs ks)
/-! ### len -/
def rLenD : List V → Hp → VK → Prop := fun xs H Q => ∃ a, xs = [.ref a] ∧ ((∃ kvs, Rd H a (.dK kvs) ∧ Q (.int (kvs.length : Nat)) H) ∨ ∃ kvs, Rd H a (.dT kvs) ∧ Q (.int (kvs.length : Nat)) H)
theorem call_lenA : CallR X (.builtin "len") (fun xs H Q => (∃ x n, xs = [x] ∧ LenV X.K x H n ∧ Q (.int n) H) ∨ rLenD xs H Q) := by
  intro pins s σ H xs us Q I r h
  rcases h with h | ⟨a, rfl, h⟩
  · exact call_len pins s σ H xs us Q I r h
  · obtain ⟨u, rfl, ru⟩ := vals1 r
    obtain rfl : u = .ref a := ru
    rcases h with ⟨kvs, ha, q⟩ | ⟨kvs, ha, q⟩
    · exact d_len I ha fun t s' I' => ⟨.int kvs.length, H, I', ⟨t, rfl⟩, q⟩
    · obtain ⟨z, hd, ys, rel, dd⟩ := dt_rd I.hok ha
      have hl : kvs.length = ys.length := Paired.length rel
      refine call_len_dictH hd dd (by rw [← hl]; rw [sizeLine_eq] at z; omega) ?_
      rw [← hl]
      exact ⟨.int ((kvs.length : Nat) : Int), H, I.tok _, ⟨_, rfl⟩, q⟩
def gLenA : List D → Sto → Option (D × Sto)
  | [d], S => match dicD d S with
    | some ps => some (.pu (.int ps.length), S)
    | none => gLen [d] S
  | ds, S => gLen ds S
theorem v_lenA (hK : X.K = G.K) : VA G (fun xs H Q => (∃ x n, xs = [x] ∧ LenV X.K x H n ∧ Q (.int n) H) ∨ rLenD xs H Q) gLenA := by
  intro σ H e S f vs ds d S' Q r0 rs hg q
  match ds, rs with
  | [dx], .cons (a := x) rx .nil =>
    unfold gLenA at hg
    dsimp only at hg
    cases hd : dicD dx S with
    | none =>
      rw [hd] at hg
      exact .inl (v_len hK σ H e S f _ _ d S' Q r0 (.cons rx .nil) hg q)
    | some ps =>
      rw [hd] at hg
      cases hg
      obtain ⟨a, rfl, h⟩ := dic_ok r0 rx hd
      refine .inr ⟨a, rfl, ?_⟩
      rcases h with ⟨kvs, h, kp⟩ | ⟨kvs, h, kp⟩
      · refine .inl ⟨kvs, h, ?_⟩
        rw [Paired.length kp]
        exact .inl (q _ H f r0 (.refl _ _ _) (.int _))
      · refine .inr ⟨kvs, h, ?_⟩
        rw [Paired.length kp]
        exact .inl (q _ H f r0 (.refl _ _ _) (.int _))
  | [], _ => cases hg
  | _ :: _ :: _, rs => exact .inl (v_len hK σ H e S f _ _ d S' Q r0 rs hg q)
/-! ### list -/
def keysOf (ps : List (P × D)) : List P := ps.map (·.1)
/-- a list of a dict's keys -/
def gListA : List D → Sto → Option (D × Sto)
  | [d], S => match dicD d S with
    | some ps => some (.pu (.list (keysOf ps)), S)
    | none => gList [d] S
  | ds, S => gList ds S
def gListAN : List D → Sto → Option (D × Sto)
  | [d], S => match dicD d S with
    | some ps => some (.nw (.lst (keysOf ps)), S)
    | none => gListN [d] S
  | ds, S => gListN ds S
/-! ### for -/
def iAny (x : Ex) : Ix := fun e S => (x e S).bind fun r => match r.1 with
  | .pu (.dict ps) => some (ps.map fun p => .pu p.1, r.2)
  | d => (itemsD d).bind fun q => some (q.2, r.2)
theorem di_any {tg a : Expr} {x : Ex} (hK : X.K = G.K) (h : DE X G a x) : DI X G tg a (iAny x) := pi_mono (pi_orI (di_seq hK h) (pi_keys h)) fun σ H Q hw => by
  obtain ⟨e, S, f, r, ds, S', hx, q⟩ := hw
  obtain ⟨⟨d, S1⟩, h1, hx⟩ := Option.bind_eq_some_iff.mp hx
  by_cases hd : ∃ ps, d = .pu (.dict ps)
  · obtain ⟨ps, rfl⟩ := hd
    cases hx
    refine .inr ⟨e, S, f, r, _, S1, h1, fun v H1 f1 r1 n1 p1 => ?_⟩
    cases (show Rep H1 v (.dict ps) from p1) with
    | dct h1 h2 h3 h4 h5 =>
      subst h2 h3
      rcases h1 with ⟨o, kvs, h1, z⟩ | ⟨o, kvs, h1, z⟩
      · subst z
        refine ⟨_, o, rfl, .inl ⟨kvs, h1, q _ H1 f1 r1 n1 ⟨fun H' i d x hd => ?_, fun H' i d v H2 x hd hy => ?_, fun H' x => ?_⟩⟩⟩
        all_goals have kp : KP (Rep H1) kvs ps := KP.of (RepL.pr h4) h5
        · have hi := (List.getElem?_eq_some_iff.mp hd).1
          rw [List.length_map, ← Paired.length kp] at hi
          exact ⟨x.frzs _ _ _ h1, hi⟩
        · obtain ⟨rfl, k, u, hk, rfl⟩ := hy
          rw [List.getElem?_map] at hd
          obtain ⟨pp, hp, rfl⟩ := Option.map_eq_some_iff.mp hd
          obtain ⟨kv, hkv, e1⟩ := Paired.get2 kp hp
          rw [hk] at hkv
          cases hkv
          exact ⟨.refl _, by show Rep _ _ pp.1; rw [e1.1]; exact rep_kV _⟩
        · exact ⟨x.frzs _ _ _ h1, by rw [List.length_map, Paired.length kp]; exact Nat.le_refl _⟩
      · subst z
        refine ⟨_, o, rfl, .inr ⟨kvs, h1, q _ H1 f1 r1 n1 ⟨fun H' i d x hd => ?_, fun H' i d v H2 x hd hy => ?_, fun H' x => ?_⟩⟩⟩
        all_goals have kp : TP' (Rep H1) kvs ps := TP'.of (RepL.pr h4) h5
        · have hi := (List.getElem?_eq_some_iff.mp hd).1
          rw [List.length_map, ← Paired.length kp] at hi
          exact ⟨x.frzs _ _ _ h1, hi⟩
        · obtain ⟨rfl, k, u, b, hk, rfl, hb⟩ := hy
          rw [List.getElem?_map] at hd
          obtain ⟨pp, hp, rfl⟩ := Option.map_eq_some_iff.mp hd
          obtain ⟨kv, hkv, e1⟩ := Paired.get2 kp hp
          rw [hk] at hkv
          cases hkv
          exact ⟨.refl _, by show Rep _ _ pp.1; rw [e1.1]; exact .tup hb (rep_kVs _)⟩
        · exact ⟨x.frzs _ _ _ h1, by rw [List.length_map, Paired.length kp]; exact Nat.le_refl _⟩
  · refine .inl ⟨e, S, f, r, ds, S', ?_, q⟩
    show (x e S).bind _ = _
    rw [h1, Option.bind_some]
    rw [← hx]
    cases d with
    | pu p => cases p with
      | dict ps => exact absurd ⟨ps, rfl⟩ hd
      | _ => rfl
    | _ => rfl
/-! ### in -/
def rInX (neg : Bool) (K : PySem.W.Frag) : R2 := fun x y H Q => rInA neg K x y H Q ∨ ∃ a o, y = .ref a ∧ DGet H a x o ∧ Q (.bl (if neg then !o.isSome else o.isSome)) H
theorem op_notInX (hu : X.A.units + 65 < cLine) : OpR X (compareOp .NotIn) (rInX true X.K) := by
  intro pins s σ H x y v u Q I rx ry h
  rcases h with h | ⟨a, o, rfl, g, q⟩
  · exact op_notInA hu pins s σ H x y v u Q I rx ry h
  · obtain rfl : u = .ref a := ry
    exact d_notIn (by omega) I g rx fun s3 I3 => ⟨.bl (!o.isSome), H, I3, rfl, q⟩
/-- in, of dicts with at least one key of its kind -/
def gInX (neg : Bool) (d1 d2 : D) (S : Sto) : Option (D × Sto) := match dicD d2 S with
  | some ps => match d1 with
    | .pu p => (keyD p).bind fun _ => match ps with
      | [] => none
      | q :: _ => if (isT q.1 == isT p) = true then some (.pu (.bool (if neg then !(dlook ps p).isSome else (dlook ps p).isSome)), S) else none
    | _ => none
  | none => gIn neg d1 d2 S
theorem v_inX {neg : Bool} (hK : X.K = G.K) : V2 G (rInX neg X.K) (gInX neg) := by
  intro σ H e S f x y dx dy d S' Q r0 rx ry hg q
  unfold gInX at hg
  cases hd : dicD dy S with
  | none =>
    rw [hd] at hg
    exact .inl (v_inG hK σ H e S f x y dx dy d S' Q r0 rx ry hg q)
  | some ps =>
    rw [hd] at hg
    cases dx with
    | pu p =>
      dsimp only at hg
      obtain ⟨ky, hk, hg⟩ := Option.bind_eq_some_iff.mp hg
      match ps, hd, hg with
      | q1 :: ps', hd, hg =>
        dsimp only at hg
        by_cases c : (isT q1.1 == isT p) = true
        · rw [if_pos c] at hg
          cases hg
          obtain ⟨a, rfl, h⟩ := dic_ok r0 ry hd
          right
          rcases key_cases hk with ⟨k, ep, _⟩ | ⟨ks, ep, _⟩
          · subst ep
            have ey := rep_key (show Rep H x (keyP k) from rx)
            subst ey
            rcases h with ⟨kvs, h, kp⟩ | ⟨kvs, h, kp⟩
            · refine ⟨a, valV kvs k, rfl, .inl ⟨kvs, k, h, rfl, rfl⟩, ?_⟩
              have e1 : (valV kvs k).isSome = (dlook (q1 :: ps') (keyP k)).isSome := by
                obtain ⟨l1, l2⟩ := kp.look (k := k)
                cases hl : dlook (q1 :: ps') (keyP k) with
                | none => rw [l2 hl]; rfl
                | some z => obtain ⟨v, hv, _⟩ := l1 z hl; rw [hv]; rfl
              rw [e1]
              exact .inl (q _ H f r0 (.refl _ _ _) (.bl _))
            · exfalso
              cases kp with
              | cons h0 t0 =>
                rw [h0.1, isT_key] at c
                simp [isT] at c
          · subst ep
            cases (show Rep H x (.tuple (ks.map keyP)) from rx) with
            | tup hb hbs =>
              rename_i b vs
              have e5 := rep_keys hbs
              subst e5
              rcases h with ⟨kvs, h, kp⟩ | ⟨kvs, h, kp⟩
              · exfalso
                cases kp with
                | cons h0 t0 =>
                  rw [h0.1, isT_key] at c
                  simp [isT] at c
              · refine ⟨a, valV kvs ks, rfl, .inr ⟨kvs, ks, b, h, rfl, hb, rfl⟩, ?_⟩
                have e1 : (valV kvs ks).isSome = (dlook (q1 :: ps') (.tuple (ks.map keyP))).isSome := by
                  obtain ⟨l1, l2⟩ := kp.look (k := ks)
                  cases hl : dlook (q1 :: ps') (.tuple (ks.map keyP)) with
                  | none => rw [l2 hl]; rfl
                  | some z => obtain ⟨v, hv, _⟩ := l1 z hl; rw [hv]; rfl
                rw [e1]
                exact .inl (q _ H f r0 (.refl _ _ _) (.bl _))
        · rw [if_neg c] at hg
          cases hg
    | _ => cases hg
end
end DL
/-! DLV: dict(xs) of pairs. -/
namespace DL
open PySem PySem.Spec PyProof.Rows L2
/-- pairs into a dict of tuple keys, later ones win -/
def mergeT (acc kvs : List (List Key × V)) : List (List Key × V) := kvs.foldl (fun acc kv => putK acc kv.1 kv.2) acc
theorem KT.merge {H : Hp} : ∀ (kvs acc : List (List Key × V)) (ps xs : List (List Key × Addr × Value)), KT H kvs ps → KT H acc xs → KT H (mergeT acc kvs) (storedAllH xs ps)
  | [], _, [], _, _, h => h
  | [], _, _ :: _, _, h, _ => by cases h
  | _ :: _, _, [], _, h, _ => by cases h
  | kv :: kvs, acc, p :: ps, xs, h, ha => by
    cases h with
    | cons h t =>
      obtain ⟨e1, e2, e3⟩ := h
      have hp := KT.put ha kv.1 (b := p.2.1) (u := p.2.2) e2 e3
      show KT H (mergeT (putK acc kv.1 kv.2) kvs) (storedAllH (storedH xs p.1 p.2.1 p.2.2) ps)
      rw [← e1]
      exact KT.merge kvs _ ps _ t hp
section
variable {X : Cx}
end
section
variable {X : Cx} {G : Gx}
def prsD : List P → Option (List (P × P))
  | [] => some []
  | .tuple [k, v] :: r => (prsD r).bind fun ps => some ((k, v) :: ps)
  | _ => none
def dmP (acc prs : List (P × P)) : List (P × P) := prs.foldl (fun acc p => dput acc p.1 p.2) acc
def tkeys : List (P × P) → Option (List (List Key))
  | [] => some []
  | (.tuple xs, _) :: r => (flatKs xs).bind fun ks => (tkeys r).bind fun kss => some (ks :: kss)
  | _ => none
def fkeys : List (P × P) → Option (List Key)
  | [] => some []
  | (p, _) :: r => (flatK p).bind fun k => (fkeys r).bind fun ks => some (k :: ks)
theorem TP'.merge {F : V → P → Prop} : ∀ (kvs acc : List (List Key × V)) (ps acc' : List (P × P)), TP' F kvs ps → TP' F acc acc' → TP' F (mergeT acc kvs) (dmP acc' ps)
  | [], _, [], _, _, h => h
  | [], _, _ :: _, _, h, _ => by cases h
  | _ :: _, _, [], _, h, _ => by cases h
  | kv :: kvs, acc, p :: ps, acc', h, ha => by
    cases h with
    | cons h t =>
      show TP' F (mergeT (putK acc kv.1 kv.2) kvs) (dmP (dput acc' p.1 p.2) ps)
      rw [h.1]
      exact TP'.merge kvs _ ps _ t (TP'.put h.2 ha)
/-- dict(xs): data -/
def gDict : List D → Sto → Option (D × Sto)
  | [d], S => (seqD d S).bind fun q => if q.1 = true then none else (pusOf q.2).bind fun xs => (prsD xs).bind fun prs => if (tkeys prs).isSome || (fkeys prs).isSome then some (.pu (.dict (dmP [] prs)), S) else none
  | _, _ => none
end
end DL
/-! DLW: sorted(d), d a dict. -/
namespace DL
open PySem PySem.Spec PyProof.Rows L2
section
variable {X : Cx}
end
section
variable {X : Cx} {G : Gx}
def gSortA (mk : List P → D) : List D → Sto → Option (D × Sto)
  | [d], S => match dicD d S with
    | some ps => if srtOk (keysOf ps) = true then some (mk ((keysOf ps).mergeSort leP), S) else none
    | none => gSortW mk [d] S
  | ds, S => gSortW mk ds S
def gSortedA : List D → Sto → Option (D × Sto) := gSortA fun ps => .pu (.list ps)
end
end DL
/-! LWU: rules of dicts. -/
namespace DL
open PySem PySem.Spec PyProof.Rows L2
section
variable {e : Envi} {S : Sto}
theorem w_lnD {ps : List (P × P)} {Q : D × Sto → Prop} : W (gLenA [.pu (.dict ps)] S) Q ↔ Q (.pu (.int ps.length), S) := by
  show W (some (D.pu (.int (ps.map fun q => (q.1, D.pu q.2)).length), S)) Q ↔ _
  rw [w_some, List.length_map]
theorem w_lnB {i : Nat} {ps : List (P × P)} {Q : D × Sto → Prop} : W (gLenA [.bo i (.dct ps)] S) Q ↔ Q (.pu (.int ps.length), S) := by
  show W (some (D.pu (.int (ps.map fun q => (q.1, D.pu q.2)).length), S)) Q ↔ _
  rw [w_some, List.length_map]
theorem w_lnL {xs : List P} {Q : D × Sto → Prop} : W (gLenA [.pu (.list xs)] S) Q ↔ Q (.pu (.int xs.length), S) := w_lenL
theorem w_lnT {xs : List P} {Q : D × Sto → Prop} : W (gLenA [.pu (.tuple xs)] S) Q ↔ Q (.pu (.int xs.length), S) := w_lenT
theorem w_lnO {i : Nat} {xs : List P} {Q : D × Sto → Prop} : W (gLenA [.bo i (.lst xs)] S) Q ↔ Q (.pu (.int xs.length), S) := w_lenB (i := i)
theorem keys_dic (ps : List (P × P)) : keysOf (ps.map fun q => (q.1, D.pu q.2)) = ps.map (·.1) := keys_pu ps
theorem w_liD {ps : List (P × P)} {Q : D × Sto → Prop} : W (gListA [.pu (.dict ps)] S) Q ↔ Q (.pu (.list (ps.map (·.1))), S) := by
  show W (some (D.pu (.list (keysOf (ps.map fun q => (q.1, D.pu q.2)))), S)) Q ↔ _
  rw [w_some, keys_dic]
theorem w_liB {i : Nat} {ps : List (P × P)} {Q : D × Sto → Prop} : W (gListA [.bo i (.dct ps)] S) Q ↔ Q (.pu (.list (ps.map (·.1))), S) := by
  show W (some (D.pu (.list (keysOf (ps.map fun q => (q.1, D.pu q.2)))), S)) Q ↔ _
  rw [w_some, keys_dic]
theorem w_liL {xs : List P} {Q : D × Sto → Prop} : W (gListA [.pu (.list xs)] S) Q ↔ W (gList [.pu (.list xs)] S) Q := Iff.rfl
theorem w_liT {xs : List P} {Q : D × Sto → Prop} : W (gListA [.pu (.tuple xs)] S) Q ↔ W (gList [.pu (.tuple xs)] S) Q := Iff.rfl
theorem w_liO {i : Nat} {xs : List P} {Q : D × Sto → Prop} : W (gListA [.bo i (.lst xs)] S) Q ↔ W (gList [.bo i (.lst xs)] S) Q := Iff.rfl
theorem w_lnND {ps : List (P × P)} {Q : D × Sto → Prop} : W (gListAN [.pu (.dict ps)] S) Q ↔ Q (.nw (.lst (ps.map (·.1))), S) := by
  show W (some (D.nw (.lst (keysOf (ps.map fun q => (q.1, D.pu q.2)))), S)) Q ↔ _
  rw [w_some, keys_dic]
theorem w_lnNB {i : Nat} {ps : List (P × P)} {Q : D × Sto → Prop} : W (gListAN [.bo i (.dct ps)] S) Q ↔ Q (.nw (.lst (ps.map (·.1))), S) := by
  show W (some (D.nw (.lst (keysOf (ps.map fun q => (q.1, D.pu q.2)))), S)) Q ↔ _
  rw [w_some, keys_dic]
theorem w_lnNL {xs : List P} {Q : D × Sto → Prop} : W (gListAN [.pu (.list xs)] S) Q ↔ W (gListN [.pu (.list xs)] S) Q := Iff.rfl
theorem w_lnNT {xs : List P} {Q : D × Sto → Prop} : W (gListAN [.pu (.tuple xs)] S) Q ↔ W (gListN [.pu (.tuple xs)] S) Q := Iff.rfl
theorem w_lnNO {i : Nat} {xs : List P} {Q : D × Sto → Prop} : W (gListAN [.bo i (.lst xs)] S) Q ↔ W (gListN [.bo i (.lst xs)] S) Q := Iff.rfl
def anyQ (Q : List D × Sto → Prop) (S : Sto) (d : D) : Prop := match d with
  | .pu (.dict ps) => Q (ps.map fun p => .pu p.1, S)
  | d => W (itemsD d) fun q => Q (q.2, S)
theorem w_soD {ps : List (P × P)} {Q : D × Sto → Prop} : W (gSortedA [.pu (.dict ps)] S) Q ↔ srtOk (ps.map (·.1)) = true ∧ Q (.pu (.list ((ps.map (·.1)).mergeSort leP)), S) := by
  show W (if srtOk (keysOf (ps.map fun q => (q.1, D.pu q.2))) = true then some (D.pu (.list ((keysOf (ps.map fun q => (q.1, D.pu q.2))).mergeSort leP)), S) else none) Q ↔ _
  rw [keys_dic, w_ite, w_some, w_none]
  by_cases c : srtOk (ps.map (·.1)) = true
  · rw [if_pos c]; exact ⟨fun h => ⟨c, h⟩, fun h => h.2⟩
  · rw [if_neg c]; exact ⟨fun h => h.elim, fun h => (c h.1).elim⟩
theorem w_soB {i : Nat} {ps : List (P × P)} {Q : D × Sto → Prop} : W (gSortedA [.bo i (.dct ps)] S) Q ↔ srtOk (ps.map (·.1)) = true ∧ Q (.pu (.list ((ps.map (·.1)).mergeSort leP)), S) := w_soD
theorem w_soL {xs : List P} {Q : D × Sto → Prop} : W (gSortedA [.pu (.list xs)] S) Q ↔ W (gSorted [.pu (.list xs)] S) Q := Iff.rfl
theorem w_ownD {i : Nat} {Q : Out → Prop} : W (sOwnD i e S) Q ↔ Q (.nx (e.set i (some (.ow (.dct [])))) S) := w_some
theorem any_mid {d : D} {S1 : Sto} {Q : List D × Sto → Prop} : W (match d with
  | .pu (.dict ps) => some (ps.map fun p => D.pu p.1, S1)
  | d => (itemsD d).bind fun q => some (q.2, S1)) Q ↔ anyQ Q S1 d := by
  cases d with
  | pu p => cases p with
    | dict ps => exact w_some
    | _ => exact w_bind.trans ⟨fun h => h.imp fun q h => w_some.mp h, fun h => h.imp fun q h => w_some.mpr h⟩
  | _ => exact w_bind.trans ⟨fun h => h.imp fun q h => w_some.mp h, fun h => h.imp fun q h => w_some.mpr h⟩
theorem w_any {x : Ex} {Q : List D × Sto → Prop} : W (iAny x e S) Q ↔ W (x e S) fun r => anyQ Q r.2 r.1 :=
  w_bind.trans ⟨fun h => h.imp fun r h => any_mid.mp h, fun h => h.imp fun r h => any_mid.mpr h⟩
theorem w_anyD {ps : List (P × P)} {Q : List D × Sto → Prop} : anyQ Q S (.pu (.dict ps)) ↔ Q ((ps.map (·.1)).map .pu, S) := by
  rw [List.map_map]
  exact Iff.rfl
theorem w_anyL {xs : List P} {Q : List D × Sto → Prop} : anyQ Q S (.pu (.list xs)) ↔ W (itemsD (.pu (.list xs))) fun q => Q (q.2, S) := Iff.rfl
theorem w_anyT {xs : List P} {Q : List D × Sto → Prop} : anyQ Q S (.pu (.tuple xs)) ↔ W (itemsD (.pu (.tuple xs))) fun q => Q (q.2, S) := Iff.rfl
theorem w_inxL {neg : Bool} {a : P} {ds : List P} {Q : D × Sto → Prop} : W (gInX neg (.pu a) (.pu (.list ds)) S) Q ↔ W (gIn neg (.pu a) (.pu (.list ds)) S) Q := Iff.rfl
theorem w_inxT {neg : Bool} {a : P} {ds : List P} {Q : D × Sto → Prop} : W (gInX neg (.pu a) (.pu (.tuple ds)) S) Q ↔ W (gIn neg (.pu a) (.pu (.tuple ds)) S) Q := Iff.rfl
/-! ### a dict as a set: keys by an encoding, each True -/
section
variable {α : Type} [DecidableEq α]
/-- an encoding of keys -/
structure KEnc (enc : α → P) : Prop where
  eqv : ∀ a b, PyData.eqv (enc a) (enc b) = decide (a = b)
  key : ∀ a, (keyD (enc a)).isSome = true
  knd : ∀ a b, isT (enc a) = isT (enc b)
def addK (qs : List α) (a : α) : List α := if a ∈ qs then qs else qs ++ [a]
theorem addK_mem {qs : List α} {a b : α} : b ∈ addK qs a ↔ b ∈ qs ∨ b = a := by
  unfold addK
  split
  · rename_i h
    exact ⟨.inl, fun h' => h'.elim id fun e => e ▸ h⟩
  · rw [List.mem_append, List.mem_singleton]
theorem addK_nodup {qs : List α} {a : α} (h : qs.Nodup) : (addK qs a).Nodup := by
  unfold addK
  split
  · exact h
  · rename_i n
    rw [List.nodup_append]
    refine ⟨h, by simp, fun x hx y hy e => ?_⟩
    rw [List.mem_singleton] at hy
    subst e hy
    exact n hx
end
theorem w_dict {xs : List P} {Q : D × Sto → Prop} : W (gDict [.pu (.list xs)] S) Q ↔ W (prsD xs) fun prs => ((tkeys prs).isSome || (fkeys prs).isSome) = true ∧ Q (.pu (.dict (dmP [] prs)), S) := by
  show W ((pusOf (xs.map D.pu)).bind fun xs => (prsD xs).bind fun prs => if ((tkeys prs).isSome || (fkeys prs).isSome) = true then some (D.pu (.dict (dmP [] prs)), S) else none) Q ↔ _
  rw [pus_map, Option.bind_some, w_bind]
  refine ⟨fun h => h.imp fun q h => ?_, fun h => h.imp fun q h => ?_⟩
  · by_cases c : ((tkeys q).isSome || (fkeys q).isSome) = true
    · rw [if_pos c] at h; exact ⟨c, w_some.mp h⟩
    · rw [if_neg c] at h; exact (w_none.mp h).elim
  · rw [if_pos h.1]; exact w_some.mpr h.2
end
end DL
/-! DLX: insert and reverse of a list that stands by itself. -/
namespace DL
open PySem PySem.Spec PyProof.Rows L2
section
variable {X : Cx} {G : Gx} {σ : L2.St} {H : Hp} {e : Envi} {S : Sto} {f : Nat → Addr}
def insD (k : Int) (ds : List D) (d : D) : List D := ds.take k.toNat ++ [d] ++ ds.drop k.toNat
def insK (w : D) (q : D × Sto) (d : D) (e : Envi) : Option (Envi × Sto) := match w with
  | .pu (.int k) => if 0 ≤ k ∧ k < 2 ^ 63 then putL d (fun ds => some (insD k ds q.1)) e q.2 else none
  | _ => none
def sIns (a i x : Ex) : Sx := fun e S => (a e S).bind fun r => (lstD r.1 r.2).bind fun _ => (i e r.2).bind fun w => (x e w.2).bind fun q => if noBo [q.1] then (insK w.1 q r.1 e).bind fun z => some (.nx z.1 z.2) else none
theorem ds_ins {o i a : Expr} {xo xi xa : Ex} {apos cpos pos : Pos} (ho : DE X G o xo) (hi : DE X G i xi) (ha : DE X G a xa)
    (hbase : attributeBase o "insert" X.env (eval o X.env) = eval o X.env := by rfl)
    (hfew : ((backTo cpos (starEach [i, a] X.env)).all (fun x => !x.1) && (backToKw cpos (keywordEach [] X.env)).all (fun x => x.1.isSome)
      && decide (([i, a] : List Expr).length + ([] : List Keyword).length + (if ([] : List Keyword).isEmpty then 0 else 1) < 30)) = true := by rfl)
    (hline : (apos.endLine == cpos.line) = true := by rfl) (hs : starEach [i, a] X.env = (false, eval i X.env) :: starEach [a] X.env := by rfl) (hs2 : starEach [a] X.env = (false, eval a X.env) :: starEach [] X.env := by rfl) (hplain : (backTo cpos (starEach [a] X.env)).any (·.1) = false := by rfl) (hsw : swapsWith (.Call (.Attribute o "insert" apos) [i, a] [] cpos) none pos.line X.env = pure false := by rfl) :
    DS X G (.Expr (.Call (.Attribute o "insert" apos) [i, a] [] cpos) pos) (sIns xo xi xa) :=
  ps_mono (ps_expr (pe_bm PySem.F.plainAttrs_list PySem.F.slot_list_insert PySem.F.type_list_insert mt_insert ho (pa_cons hi (pa_cons ha pa_nil hs2) hs) hbase hfew hline hs hplain) hsw) fun T σ H hw => by
    obtain ⟨e, S, f, r, o, hx, q⟩ := hw
    obtain ⟨⟨d0, S0⟩, h0, hx⟩ := Option.bind_eq_some_iff.mp hx
    obtain ⟨l0, hl0, hx⟩ := Option.bind_eq_some_iff.mp hx
    obtain ⟨⟨d1, S1⟩, h1, hx⟩ := Option.bind_eq_some_iff.mp hx
    obtain ⟨⟨d2, S2⟩, h2, hx⟩ := Option.bind_eq_some_iff.mp hx
    by_cases c : noBo [d2] = true
    · rw [if_pos c] at hx
      obtain ⟨⟨e3, S3⟩, h3, hx⟩ := Option.bind_eq_some_iff.mp hx
      cases hx
      unfold insK at h3
      split at h3
      · rename_i k hk
        cases (show d1 = _ from hk)
        by_cases ck : 0 ≤ k ∧ k < 2 ^ 63
        · rw [if_pos ck] at h3
          refine ⟨e, S, f, r, d0, S0, h0, fun v0 H0 f0 r0 n0 p0 => ?_⟩
          refine ⟨?_, e, S0, f0, r0, _, S1, h1, fun v1 H1 f1 r1 n1 p1 => ⟨e, S1, f1, r1, d2, S2, h2, fun v2 H2 f2 r2 n2 p2 => ?_⟩⟩
          · obtain ⟨a, xs, e1, e2, _⟩ := lst_rd r0 p0 hl0
            subst e1
            exact .inl ⟨rfl, xs, .inl e2⟩
          · obtain ⟨a, vs, ds, ds', e1, hv, hp, hg, hz, kk⟩ := putL_ok r2 ((p0.nx n1).nx n2) h3
            cases hg
            have pd := re_rd p2 c
            cases (show Rep _ v1 (.int k) from p1)
            obtain ⟨r3, x3⟩ := kk (vs.take k.toNat ++ [v2] ++ vs.drop k.toNat) (Paired.app (Paired.app (Paired.takep _ hp) (.cons pd .nil)) (Paired.dropp _ hp))
            have lz : vs.length < sizeLine := by
              have : (insD k ds (d2, S2).1).length = vs.length + 1 := by
                unfold insD
                rw [List.length_append, List.length_append, List.length_take, List.length_drop, List.length_singleton, Paired.length hp]
                omega
              omega
            exact ⟨a, vs, k, v2, e1, rfl, hv, lz, ck.1, ck.2, q _ _ f2 r3 (((n0.trans n1).trans n2).ext.trans x3)⟩
        · rw [if_neg ck] at h3
          cases h3
      · cases h3
    · rw [if_neg c] at hx
      cases hx
def sRev (a : Ex) : Sx := fun e S => (a e S).bind fun r => (lstD r.1 r.2).bind fun _ => (putL r.1 (fun ds => some ds.reverse) e r.2).bind fun z => some (.nx z.1 z.2)
end
end DL
/-! LWX: rules of insert. -/
namespace DL
open PySem PySem.Spec PyProof.Rows L2
section
variable {e : Envi} {S : Sto}
theorem w_ins {a i x : Ex} {Q : Out → Prop} : W (sIns a i x e S) Q ↔ W (a e S) fun r => W (lstD r.1 r.2) fun _ => W (i e r.2) fun w => W (x e w.2) fun q => noBo [q.1] = true ∧ W (insK w.1 q r.1 e) fun z => Q (.nx z.1 z.2) := by
  refine w_bind.trans ⟨fun h => h.imp fun q h => (w_bind.mp h).imp fun p h => (w_bind.mp h).imp fun p h => (w_bind.mp h).imp fun p h => ?_, fun h => h.imp fun q h => w_bind.mpr (h.imp fun p h => w_bind.mpr (h.imp fun p h => w_bind.mpr (h.imp fun p h => ?_)))⟩
  · by_cases c : noBo [p.1] = true
    · rw [if_pos c] at h; exact ⟨c, (w_bind.mp h).imp fun _ h => w_some.mp h⟩
    · rw [if_neg c] at h; exact (w_none.mp h).elim
  · rw [if_pos h.1]; exact w_bind.mpr (h.2.imp fun _ h => w_some.mpr h)
theorem w_insB {i : Nat} {k : Int} {q : D × Sto} {ys : List P} {Q : Envi × Sto → Prop} : W (insK (.pu (.int k)) q (.bo i (.lst ys)) e) Q ↔ (0 ≤ k ∧ k < 2 ^ 63) ∧ W (plE i (fun ds => some (insD k ds q.1)) e q.2 e[i]?) Q := by
  show W (if 0 ≤ k ∧ k < 2 ^ 63 then putL (.bo i (.lst ys)) (fun ds => some (insD k ds q.1)) e q.2 else none) Q ↔ _
  rw [w_ite, w_none, w_putB]
  by_cases c : 0 ≤ k ∧ k < 2 ^ 63
  · rw [if_pos c]; exact ⟨fun h => ⟨c, h⟩, fun h => h.2⟩
  · rw [if_neg c]; exact ⟨fun h => h.elim, fun h => (c h.1).elim⟩
theorem w_plI {i : Nat} {k : Int} {p : P} {xs : List P} {Q : Envi × Sto → Prop} : W (plE i (fun ds => some (insD k ds (.pu p))) e S (some (some (.ow (.lst xs))))) Q ↔ xs.length + 1 ≤ lim ∧ Q (e.set i (some (.ow (.lst (xs.take k.toNat ++ [p] ++ xs.drop k.toNat)))), S) := by
  show W ((some (insD k (xs.map D.pu) (.pu p))).bind fun ds => (pusOf ds).bind fun ps => if ps.length ≤ lim then some (e.set i (some (.ow (.lst ps))), S) else none) Q ↔ _
  rw [Option.bind_some, show insD k (xs.map D.pu) (.pu p) = (xs.take k.toNat ++ [p] ++ xs.drop k.toNat).map D.pu by unfold insD; rw [List.map_append, List.map_append, List.map_take, List.map_drop]; rfl, pus_map, Option.bind_some]
  have l : (xs.take k.toNat ++ [p] ++ xs.drop k.toNat).length = xs.length + 1 := by
    rw [List.length_append, List.length_append, List.length_take, List.length_drop, List.length_singleton]
    omega
  rw [l, w_ite, w_some, w_none]
  by_cases c : xs.length + 1 ≤ lim
  · rw [if_pos c]; exact ⟨fun h => ⟨c, h⟩, fun h => h.2⟩
  · rw [if_neg c]; exact ⟨fun h => h.elim, fun h => (c h.1).elim⟩
theorem w_sRev {a : Ex} {Q : Out → Prop} : W (sRev a e S) Q ↔ W (a e S) fun r => W (lstD r.1 r.2) fun _ => W (putL r.1 (fun ds => some ds.reverse) e r.2) fun z => Q (.nx z.1 z.2) := by
  refine w_bind.trans ⟨fun h => h.imp fun q h => (w_bind.mp h).imp fun p h => (w_bind.mp h).imp fun p h => w_some.mp h, fun h => h.imp fun q h => w_bind.mpr (h.imp fun p h => w_bind.mpr (h.imp fun p h => w_some.mpr h))⟩
theorem w_plR {i : Nat} {xs : List P} {Q : Envi × Sto → Prop} : W (plE i (fun ds => some ds.reverse) e S (some (some (.ow (.lst xs))))) Q ↔ xs.length ≤ lim ∧ Q (e.set i (some (.ow (.lst xs.reverse))), S) := by
  show W ((some (xs.map D.pu).reverse).bind fun ds => (pusOf ds).bind fun ps => if ps.length ≤ lim then some (e.set i (some (.ow (.lst ps))), S) else none) Q ↔ _
  rw [Option.bind_some, ← List.map_reverse, pus_map, Option.bind_some, List.length_reverse]
  rw [w_ite, w_some, w_none]
  by_cases c : xs.length ≤ lim
  · rw [if_pos c]; exact ⟨fun h => ⟨c, h⟩, fun h => h.2⟩
  · rw [if_neg c]; exact ⟨fun h => h.elim, fun h => (c h.1).elim⟩
end
end DL
/-! LE: all rules in bundles. -/
namespace DL
open PySem PySem.Spec PyProof.Rows L2
theorem evA : ((((((((type_of% @DL.w_bind ∧ type_of% @DL.w_some) ∧ (type_of% @DL.w_none ∧ type_of% @DL.w_var)) ∧ ((type_of% @DL.w_slv ∧ type_of% @DL.w_slo) ∧ type_of% @DL.w_P)) ∧ (((type_of% @DL.w_D ∧ type_of% @DL.w_x1) ∧ (type_of% @DL.w_x2 ∧ type_of% @DL.w_xA)) ∧ ((type_of% @DL.w_nil ∧ type_of% @DL.w_cons) ∧ type_of% @DL.w_ite_x))) ∧ ((((type_of% @DL.w_isi ∧ type_of% @DL.w_tOfE) ∧ (type_of% @DL.w_bD ∧ type_of% @DL.w_tNot)) ∧ ((type_of% @DL.w_tAnd ∧ type_of% @DL.w_tOr) ∧ type_of% @DL.w_and)) ∧ (((type_of% @DL.w_or ∧ type_of% @DL.w_seq) ∧ type_of% @DL.w_qnx) ∧ ((type_of% @DL.w_qrt ∧ type_of% @DL.w_qbk) ∧ type_of% @DL.w_qct)))) ∧ (((((type_of% @DL.w_sNil ∧ type_of% @DL.w_sBreak) ∧ (type_of% @DL.w_sCont ∧ type_of% @DL.w_sDrop)) ∧ ((type_of% @DL.w_asg ∧ type_of% @DL.w_set) ∧ type_of% @DL.w_ret)) ∧ (((type_of% @DL.w_retN ∧ type_of% @DL.w_if) ∧ (type_of% @DL.w_for ∧ type_of% @DL.w_fq)) ∧ ((type_of% @DL.w_fqo ∧ type_of% @DL.w_fqv) ∧ type_of% @DL.w_nmP))) ∧ ((((type_of% @DL.w_nmW ∧ type_of% @DL.w_nmR) ∧ (type_of% @DL.w_gnNil ∧ type_of% @DL.w_gtNil)) ∧ ((type_of% @DL.w_gnCons ∧ type_of% @DL.w_gtCons) ∧ type_of% @DL.w_pwN)) ∧ (((type_of% @DL.w_pwP ∧ type_of% @DL.w_pwW) ∧ type_of% @DL.w_gtLst) ∧ ((type_of% @DL.w_gSubT ∧ type_of% @DL.w_s1) ∧ type_of% @DL.w_s2))))) ∧ ((((((type_of% @DL.w_pI ∧ type_of% @DL.w_pIB) ∧ (type_of% @DL.w_pNeg ∧ type_of% @DL.w_pAbs)) ∧ ((type_of% @DL.w_pDm ∧ type_of% @DL.w_a1) ∧ type_of% @DL.w_a2)) ∧ (((type_of% @DL.w_add ∧ type_of% @DL.w_not) ∧ (type_of% @DL.w_ixL ∧ type_of% @DL.w_ixT)) ∧ ((type_of% @DL.w_ixB ∧ type_of% @DL.w_ixWL) ∧ type_of% @DL.w_ixWT))) ∧ ((((type_of% @DL.w_getT ∧ type_of% @DL.w_getL) ∧ (type_of% @DL.w_getB ∧ type_of% @DL.w_getW)) ∧ ((type_of% @DL.w_keyS ∧ type_of% @DL.w_keyI) ∧ type_of% @DL.w_lkN)) ∧ (((type_of% @DL.w_lkC ∧ type_of% @DL.w_lenL) ∧ type_of% @DL.w_lenT) ∧ ((type_of% @DL.w_lenB ∧ type_of% @DL.w_puN) ∧ type_of% @DL.w_puC)))) ∧ (((((type_of% @DL.w_puM ∧ type_of% @DL.w_tup) ∧ (type_of% @DL.w_lst ∧ type_of% @DL.w_list)) ∧ ((type_of% @DL.w_listC ∧ type_of% @DL.w_lstC) ∧ type_of% @DL.w_seL)) ∧ (((type_of% @DL.w_seT ∧ type_of% @DL.w_seWL) ∧ type_of% @DL.w_seWT) ∧ ((type_of% @DL.w_seB ∧ type_of% @DL.w_eq) ∧ type_of% @DL.w_callF))) ∧ ((((type_of% @DL.w_callP ∧ type_of% @DL.w_runF) ∧ (type_of% @DL.w_eqn ∧ type_of% @DL.w_eqr)) ∧ ((type_of% @DL.w_runP ∧ type_of% @DL.w_epn) ∧ type_of% @DL.w_epr)) ∧ (((type_of% @DL.w_lqn ∧ type_of% @DL.w_lqc) ∧ type_of% @DL.w_lqb) ∧ ((type_of% @DL.w_lqr ∧ type_of% @DL.w_rg) ∧ type_of% @DL.w_rng1)))))) ∧ (((((((type_of% @DL.w_sl ∧ type_of% @DL.w_oN) ∧ (type_of% @DL.w_iQ ∧ type_of% @DL.w_oS)) ∧ ((type_of% @DL.w_gSlL ∧ type_of% @DL.w_gSlB) ∧ type_of% @DL.w_gSlW)) ∧ (((type_of% @DL.w_disp ∧ type_of% @DL.w_lc) ∧ (type_of% @DL.w_setLc ∧ type_of% @DL.w_puQ)) ∧ ((type_of% @DL.w_yes ∧ type_of% @DL.w_itN) ∧ type_of% @DL.w_imL))) ∧ ((((type_of% @DL.w_imT ∧ type_of% @DL.w_imWL) ∧ (type_of% @DL.w_imWT ∧ type_of% @DL.w_zqT)) ∧ ((type_of% @DL.w_zqL ∧ type_of% @DL.w_bls) ∧ type_of% @DL.w_tyN)) ∧ (((type_of% @DL.w_tyB ∧ type_of% @DL.w_tyI) ∧ type_of% @DL.w_tyS) ∧ ((type_of% @DL.w_tyL ∧ type_of% @DL.w_tyT) ∧ type_of% @DL.w_tyD)))) ∧ (((((type_of% @DL.w_isNN ∧ type_of% @DL.w_isNI) ∧ (type_of% @DL.w_isNB ∧ type_of% @DL.w_isNS)) ∧ ((type_of% @DL.w_isNT ∧ type_of% @DL.w_isNL) ∧ type_of% @DL.w_evB)) ∧ (((type_of% @DL.w_evI ∧ type_of% @DL.w_shI) ∧ (type_of% @DL.w_shB ∧ type_of% @DL.w_shN)) ∧ ((type_of% @DL.w_wrI ∧ type_of% @DL.w_wrT) ∧ type_of% @DL.w_wrL))) ∧ ((((type_of% @DL.w_at0 ∧ type_of% @DL.w_at1) ∧ (type_of% @DL.w_at2 ∧ type_of% @DL.w_nmN)) ∧ ((type_of% @DL.w_listN ∧ type_of% @DL.w_limR) ∧ type_of% @DL.w_lstN)) ∧ (((type_of% @DL.w_seN ∧ type_of% @DL.w_lsL) ∧ type_of% @DL.w_lsB) ∧ ((type_of% @DL.w_lsN ∧ type_of% @DL.w_catN) ∧ type_of% @DL.w_addL))))) ∧ ((((((type_of% @DL.w_addT ∧ type_of% @DL.w_slN) ∧ (type_of% @DL.w_gSlN ∧ type_of% @DL.w_lcN)) ∧ ((type_of% @DL.w_rsN1 ∧ type_of% @DL.w_rsN2) ∧ type_of% @DL.w_rsZ1)) ∧ (((type_of% @DL.w_rsZ2 ∧ type_of% @DL.w_callO) ∧ (type_of% @DL.w_callZ ∧ type_of% @DL.w_eO1)) ∧ ((type_of% @DL.w_eO2 ∧ type_of% @DL.w_eO3) ∧ type_of% @DL.w_eO4))) ∧ ((((type_of% @DL.w_runO ∧ type_of% @DL.w_app) ∧ (type_of% @DL.w_putB ∧ type_of% @DL.w_plA)) ∧ ((type_of% @DL.w_aug ∧ type_of% @DL.w_pq) ∧ type_of% @DL.w_par)) ∧ (((type_of% @DL.w_chain ∧ type_of% @DL.w_ints) ∧ type_of% @DL.w_inN) ∧ ((type_of% @DL.w_inC ∧ type_of% @DL.w_inM) ∧ type_of% @DL.w_pIntI)))) ∧ (((((type_of% @DL.w_pIntB ∧ type_of% @DL.w_tupL) ∧ (type_of% @DL.w_tupT ∧ type_of% @DL.w_tupB)) ∧ ((type_of% @DL.w_rg2 ∧ type_of% @DL.w_rng2) ∧ type_of% @DL.w_evT)) ∧ (((type_of% @DL.w_evL ∧ type_of% @DL.w_evA0) ∧ type_of% @DL.w_evA1) ∧ ((type_of% @DL.w_tix ∧ type_of% @DL.w_a3) ∧ type_of% @DL.w_pMax3))) ∧ ((((type_of% @DL.w_pMin3 ∧ type_of% @DL.w_rev) ∧ (type_of% @DL.w_revN ∧ type_of% @DL.w_revB)) ∧ ((type_of% @DL.w_ext ∧ type_of% @DL.w_rawN) ∧ type_of% @DL.w_rawB)) ∧ (((type_of% @DL.w_plE ∧ type_of% @DL.w_intsB) ∧ type_of% @DL.w_at3) ∧ ((type_of% @DL.w_pBB ∧ type_of% @DL.w_putBS) ∧ type_of% @DL.w_chain3))))))) := ⟨⟨⟨⟨⟨⟨⟨⟨@DL.w_bind, @DL.w_some⟩, ⟨@DL.w_none, @DL.w_var⟩⟩, ⟨⟨@DL.w_slv, @DL.w_slo⟩, @DL.w_P⟩⟩, ⟨⟨⟨@DL.w_D, @DL.w_x1⟩, ⟨@DL.w_x2, @DL.w_xA⟩⟩, ⟨⟨@DL.w_nil, @DL.w_cons⟩, @DL.w_ite_x⟩⟩⟩, ⟨⟨⟨⟨@DL.w_isi, @DL.w_tOfE⟩, ⟨@DL.w_bD, @DL.w_tNot⟩⟩, ⟨⟨@DL.w_tAnd, @DL.w_tOr⟩, @DL.w_and⟩⟩, ⟨⟨⟨@DL.w_or, @DL.w_seq⟩, @DL.w_qnx⟩, ⟨⟨@DL.w_qrt, @DL.w_qbk⟩, @DL.w_qct⟩⟩⟩⟩, ⟨⟨⟨⟨⟨@DL.w_sNil, @DL.w_sBreak⟩, ⟨@DL.w_sCont, @DL.w_sDrop⟩⟩, ⟨⟨@DL.w_asg, @DL.w_set⟩, @DL.w_ret⟩⟩, ⟨⟨⟨@DL.w_retN, @DL.w_if⟩, ⟨@DL.w_for, @DL.w_fq⟩⟩, ⟨⟨@DL.w_fqo, @DL.w_fqv⟩, @DL.w_nmP⟩⟩⟩, ⟨⟨⟨⟨@DL.w_nmW, @DL.w_nmR⟩, ⟨@DL.w_gnNil, @DL.w_gtNil⟩⟩, ⟨⟨@DL.w_gnCons, @DL.w_gtCons⟩, @DL.w_pwN⟩⟩, ⟨⟨⟨@DL.w_pwP, @DL.w_pwW⟩, @DL.w_gtLst⟩, ⟨⟨@DL.w_gSubT, @DL.w_s1⟩, @DL.w_s2⟩⟩⟩⟩⟩, ⟨⟨⟨⟨⟨⟨@DL.w_pI, @DL.w_pIB⟩, ⟨@DL.w_pNeg, @DL.w_pAbs⟩⟩, ⟨⟨@DL.w_pDm, @DL.w_a1⟩, @DL.w_a2⟩⟩, ⟨⟨⟨@DL.w_add, @DL.w_not⟩, ⟨@DL.w_ixL, @DL.w_ixT⟩⟩, ⟨⟨@DL.w_ixB, @DL.w_ixWL⟩, @DL.w_ixWT⟩⟩⟩, ⟨⟨⟨⟨@DL.w_getT, @DL.w_getL⟩, ⟨@DL.w_getB, @DL.w_getW⟩⟩, ⟨⟨@DL.w_keyS, @DL.w_keyI⟩, @DL.w_lkN⟩⟩, ⟨⟨⟨@DL.w_lkC, @DL.w_lenL⟩, @DL.w_lenT⟩, ⟨⟨@DL.w_lenB, @DL.w_puN⟩, @DL.w_puC⟩⟩⟩⟩, ⟨⟨⟨⟨⟨@DL.w_puM, @DL.w_tup⟩, ⟨@DL.w_lst, @DL.w_list⟩⟩, ⟨⟨@DL.w_listC, @DL.w_lstC⟩, @DL.w_seL⟩⟩, ⟨⟨⟨@DL.w_seT, @DL.w_seWL⟩, @DL.w_seWT⟩, ⟨⟨@DL.w_seB, @DL.w_eq⟩, @DL.w_callF⟩⟩⟩, ⟨⟨⟨⟨@DL.w_callP, @DL.w_runF⟩, ⟨@DL.w_eqn, @DL.w_eqr⟩⟩, ⟨⟨@DL.w_runP, @DL.w_epn⟩, @DL.w_epr⟩⟩, ⟨⟨⟨@DL.w_lqn, @DL.w_lqc⟩, @DL.w_lqb⟩, ⟨⟨@DL.w_lqr, @DL.w_rg⟩, @DL.w_rng1⟩⟩⟩⟩⟩⟩, ⟨⟨⟨⟨⟨⟨⟨@DL.w_sl, @DL.w_oN⟩, ⟨@DL.w_iQ, @DL.w_oS⟩⟩, ⟨⟨@DL.w_gSlL, @DL.w_gSlB⟩, @DL.w_gSlW⟩⟩, ⟨⟨⟨@DL.w_disp, @DL.w_lc⟩, ⟨@DL.w_setLc, @DL.w_puQ⟩⟩, ⟨⟨@DL.w_yes, @DL.w_itN⟩, @DL.w_imL⟩⟩⟩, ⟨⟨⟨⟨@DL.w_imT, @DL.w_imWL⟩, ⟨@DL.w_imWT, @DL.w_zqT⟩⟩, ⟨⟨@DL.w_zqL, @DL.w_bls⟩, @DL.w_tyN⟩⟩, ⟨⟨⟨@DL.w_tyB, @DL.w_tyI⟩, @DL.w_tyS⟩, ⟨⟨@DL.w_tyL, @DL.w_tyT⟩, @DL.w_tyD⟩⟩⟩⟩, ⟨⟨⟨⟨⟨@DL.w_isNN, @DL.w_isNI⟩, ⟨@DL.w_isNB, @DL.w_isNS⟩⟩, ⟨⟨@DL.w_isNT, @DL.w_isNL⟩, @DL.w_evB⟩⟩, ⟨⟨⟨@DL.w_evI, @DL.w_shI⟩, ⟨@DL.w_shB, @DL.w_shN⟩⟩, ⟨⟨@DL.w_wrI, @DL.w_wrT⟩, @DL.w_wrL⟩⟩⟩, ⟨⟨⟨⟨@DL.w_at0, @DL.w_at1⟩, ⟨@DL.w_at2, @DL.w_nmN⟩⟩, ⟨⟨@DL.w_listN, @DL.w_limR⟩, @DL.w_lstN⟩⟩, ⟨⟨⟨@DL.w_seN, @DL.w_lsL⟩, @DL.w_lsB⟩, ⟨⟨@DL.w_lsN, @DL.w_catN⟩, @DL.w_addL⟩⟩⟩⟩⟩, ⟨⟨⟨⟨⟨⟨@DL.w_addT, @DL.w_slN⟩, ⟨@DL.w_gSlN, @DL.w_lcN⟩⟩, ⟨⟨@DL.w_rsN1, @DL.w_rsN2⟩, @DL.w_rsZ1⟩⟩, ⟨⟨⟨@DL.w_rsZ2, @DL.w_callO⟩, ⟨@DL.w_callZ, @DL.w_eO1⟩⟩, ⟨⟨@DL.w_eO2, @DL.w_eO3⟩, @DL.w_eO4⟩⟩⟩, ⟨⟨⟨⟨@DL.w_runO, @DL.w_app⟩, ⟨@DL.w_putB, @DL.w_plA⟩⟩, ⟨⟨@DL.w_aug, @DL.w_pq⟩, @DL.w_par⟩⟩, ⟨⟨⟨@DL.w_chain, @DL.w_ints⟩, @DL.w_inN⟩, ⟨⟨@DL.w_inC, @DL.w_inM⟩, @DL.w_pIntI⟩⟩⟩⟩, ⟨⟨⟨⟨⟨@DL.w_pIntB, @DL.w_tupL⟩, ⟨@DL.w_tupT, @DL.w_tupB⟩⟩, ⟨⟨@DL.w_rg2, @DL.w_rng2⟩, @DL.w_evT⟩⟩, ⟨⟨⟨@DL.w_evL, @DL.w_evA0⟩, @DL.w_evA1⟩, ⟨⟨@DL.w_tix, @DL.w_a3⟩, @DL.w_pMax3⟩⟩⟩, ⟨⟨⟨⟨@DL.w_pMin3, @DL.w_rev⟩, ⟨@DL.w_revN, @DL.w_revB⟩⟩, ⟨⟨@DL.w_ext, @DL.w_rawN⟩, @DL.w_rawB⟩⟩, ⟨⟨⟨@DL.w_plE, @DL.w_intsB⟩, @DL.w_at3⟩, ⟨⟨@DL.w_pBB, @DL.w_putBS⟩, @DL.w_chain3⟩⟩⟩⟩⟩⟩⟩
theorem evH : ((((type_of% @DL.w_inT ∧ type_of% @DL.w_inL) ∧ type_of% @DL.w_adT) ∧ (type_of% @DL.w_adI ∧ type_of% @DL.w_repL)) ∧ (((type_of% @DL.w_repN ∧ type_of% @DL.w_repT) ∧ type_of% @DL.w_gSlT) ∧ (type_of% @DL.w_iaT ∧ type_of% @DL.w_iaL))) := ⟨⟨⟨⟨@DL.w_inT, @DL.w_inL⟩, @DL.w_adT⟩, ⟨@DL.w_adI, @DL.w_repL⟩⟩, ⟨⟨⟨@DL.w_repN, @DL.w_repT⟩, @DL.w_gSlT⟩, ⟨@DL.w_iaT, @DL.w_iaL⟩⟩⟩
theorem evJ : (((type_of% @DL.w_rgd ∧ type_of% @DL.w_en) ∧ type_of% @DL.w_rv) ∧ (type_of% @DL.w_kdS ∧ type_of% @DL.w_kd)) := ⟨⟨⟨@DL.w_rgd, @DL.w_en⟩, @DL.w_rv⟩, ⟨@DL.w_kdS, @DL.w_kd⟩⟩
theorem evM : ((type_of% @DL.w_xSlA ∧ type_of% @DL.w_slAT) ∧ type_of% @DL.w_slAL) := ⟨⟨@DL.w_xSlA, @DL.w_slAT⟩, @DL.w_slAL⟩
theorem evQ : (((type_of% @DL.w_zyT ∧ type_of% @DL.w_zyL) ∧ (type_of% @DL.w_zyM ∧ type_of% @DL.w_zyN)) ∧ ((type_of% @DL.w_eyT ∧ type_of% @DL.w_eyL) ∧ type_of% @DL.w_lrI)) := ⟨⟨⟨@DL.w_zyT, @DL.w_zyL⟩, ⟨@DL.w_zyM, @DL.w_zyN⟩⟩, ⟨⟨@DL.w_eyT, @DL.w_eyL⟩, @DL.w_lrI⟩⟩
theorem evU : (((((type_of% @DL.w_lnD ∧ type_of% @DL.w_lnB) ∧ (type_of% @DL.w_lnL ∧ type_of% @DL.w_lnT)) ∧ ((type_of% @DL.w_lnO ∧ type_of% @DL.w_liD) ∧ type_of% @DL.w_liB)) ∧ (((type_of% @DL.w_liL ∧ type_of% @DL.w_liT) ∧ type_of% @DL.w_liO) ∧ ((type_of% @DL.w_lnND ∧ type_of% @DL.w_lnNB) ∧ type_of% @DL.w_lnNL))) ∧ ((((type_of% @DL.w_lnNT ∧ type_of% @DL.w_lnNO) ∧ (type_of% @DL.w_soD ∧ type_of% @DL.w_soB)) ∧ ((type_of% @DL.w_soL ∧ type_of% @DL.w_ownD) ∧ type_of% @DL.w_any)) ∧ (((type_of% @DL.w_anyD ∧ type_of% @DL.w_anyL) ∧ type_of% @DL.w_anyT) ∧ ((type_of% @DL.w_inxL ∧ type_of% @DL.w_inxT) ∧ type_of% @DL.w_dict)))) := ⟨⟨⟨⟨⟨@DL.w_lnD, @DL.w_lnB⟩, ⟨@DL.w_lnL, @DL.w_lnT⟩⟩, ⟨⟨@DL.w_lnO, @DL.w_liD⟩, @DL.w_liB⟩⟩, ⟨⟨⟨@DL.w_liL, @DL.w_liT⟩, @DL.w_liO⟩, ⟨⟨@DL.w_lnND, @DL.w_lnNB⟩, @DL.w_lnNL⟩⟩⟩, ⟨⟨⟨⟨@DL.w_lnNT, @DL.w_lnNO⟩, ⟨@DL.w_soD, @DL.w_soB⟩⟩, ⟨⟨@DL.w_soL, @DL.w_ownD⟩, @DL.w_any⟩⟩, ⟨⟨⟨@DL.w_anyD, @DL.w_anyL⟩, @DL.w_anyT⟩, ⟨⟨@DL.w_inxL, @DL.w_inxT⟩, @DL.w_dict⟩⟩⟩⟩
theorem evX : (((type_of% @DL.w_ins ∧ type_of% @DL.w_insB) ∧ type_of% @DL.w_plI) ∧ (type_of% @DL.w_sRev ∧ type_of% @DL.w_plR)) := ⟨⟨⟨@DL.w_ins, @DL.w_insB⟩, @DL.w_plI⟩, ⟨@DL.w_sRev, @DL.w_plR⟩⟩
end DL
/-! JA: jobs, plain: what a tool can do, least takes, the first order. -/
namespace JJ
abbrev Job := Int × List Nat
def tl (js : List Job) (n : Nat) : Int := (js.getD n (0, [])).1
def nd (js : List Job) (n : Nat) : List Nat := (js.getD n (0, [])).2
/-- what is done once a tool has done all that it can -/
inductive Cl (js : List Job) (t : Int) (D : List Nat) : Nat → Prop
  | base {n : Nat} : n ∈ D → Cl js t D n
  | step {n : Nat} : n < js.length → tl js n = t → (∀ m ∈ nd js n, Cl js t D m) → Cl js t D n
open Classical in
noncomputable def gone (js : List Job) (t : Int) (D : List Nat) : List Nat := (List.range js.length).filter fun n => decide (Cl js t D n)
def Srt (D : List Nat) : Prop := D.Pairwise (· < ·)
def Sub (js : List Job) (D : List Nat) : Prop := ∀ n ∈ D, n < js.length
variable {js : List Job} {t : Int} {D D' O : List Nat} {n k : Nat}
open Classical in
theorem mem_gone : n ∈ gone js t D ↔ n < js.length ∧ Cl js t D n := by
  unfold gone
  rw [List.mem_filter, List.mem_range, decide_eq_true_eq]
theorem srt_range (n : Nat) : Srt (List.range n) := List.pairwise_lt_range
theorem srt_gone : Srt (gone js t D) := List.Pairwise.filter _ (srt_range _)
theorem sub_gone : Sub js (gone js t D) := fun _ h => (mem_gone.mp h).1
theorem srt_ext : ∀ {A B : List Nat}, Srt A → Srt B → (∀ n, n ∈ A ↔ n ∈ B) → A = B
  | [], [], _, _, _ => rfl
  | [], b :: B, _, _, h => absurd ((h b).mpr List.mem_cons_self) (by simp)
  | a :: A, [], _, _, h => absurd ((h a).mp List.mem_cons_self) (by simp)
  | a :: A, b :: B, hA, hB, h => by
    obtain ⟨a1, a2⟩ := List.pairwise_cons.mp hA
    obtain ⟨b1, b2⟩ := List.pairwise_cons.mp hB
    have e : a = b := by
      rcases List.mem_cons.mp ((h a).mp List.mem_cons_self) with x | x
      · exact x
      · rcases List.mem_cons.mp ((h b).mpr List.mem_cons_self) with y | y
        · exact y.symm
        · have := b1 a x
          have := a1 b y
          omega
    subst e
    rw [srt_ext a2 b2 fun n => ⟨fun hn => ?_, fun hn => ?_⟩]
    · rcases List.mem_cons.mp ((h n).mp (List.mem_cons_of_mem _ hn)) with x | x
      · have := a1 n hn
        omega
      · exact x
    · rcases List.mem_cons.mp ((h n).mpr (List.mem_cons_of_mem _ hn)) with x | x
      · have := b1 n hn
        omega
      · exact x
theorem Cl.mono (h : ∀ n ∈ D, n ∈ D') (c : Cl js t D n) : Cl js t D' n := by
  induction c with
  | base h1 => exact .base (h _ h1)
  | step h1 h2 _ ih => exact .step h1 h2 ih
theorem Cl.low (h : ∀ n < js.length, n ∈ D → n ∈ D') (hn : n < js.length) (nn : ∀ n < js.length, ∀ m ∈ nd js n, m < js.length) (c : Cl js t D n) : Cl js t D' n := by
  induction c with
  | base h1 => exact .base (h _ hn h1)
  | step h1 h2 _ ih => exact .step h1 h2 fun m hm => ih m hm (nn _ h1 m hm)
theorem in_gone (h : n < js.length) (hD : n ∈ D) : n ∈ gone js t D := mem_gone.mpr ⟨h, .base hD⟩
noncomputable def runT (js : List Job) (D : List Nat) (ts : List Int) : List Nat := ts.foldl (fun D t => gone js t D) D
def Does (js : List Job) (D : List Nat) (k : Nat) : Prop := ∃ ts : List Int, ts.length = k ∧ ∀ n < js.length, n ∈ runT js D ts
/-- each job needs jobs alone -/
def Wf (js : List Job) : Prop := ∀ n < js.length, ∀ m ∈ nd js n, m < js.length
theorem run_mono (w : Wf js) : ∀ (ts : List Int) {D D' : List Nat}, (∀ n < js.length, n ∈ D → n ∈ D') → ∀ n < js.length, n ∈ runT js D ts → n ∈ runT js D' ts
  | [], _, _, h => h
  | t :: ts, D, D', h => run_mono w ts fun n hn h1 => by
    rw [mem_gone] at h1 ⊢
    exact ⟨hn, h1.2.low h hn w⟩
theorem Does.mono (w : Wf js) (h : ∀ n < js.length, n ∈ D → n ∈ D') (d : Does js D k) : Does js D' k := by
  obtain ⟨ts, h1, h2⟩ := d
  exact ⟨ts, h1, fun n hn => run_mono w ts h n hn (h2 n hn)⟩
theorem Does.cons (d : Does js (gone js t D) k) : Does js D (k + 1) := by
  obtain ⟨ts, h1, h2⟩ := d
  exact ⟨t :: ts, by rw [List.length_cons, h1], h2⟩
theorem Does.tail (d : Does js D (k + 1)) : ∃ t, Does js (gone js t D) k := by
  obtain ⟨ts, h1, h2⟩ := d
  cases ts with
  | nil => cases h1
  | cons t ts => exact ⟨t, ts, by simpa using h1, h2⟩
theorem least_ex {p : Nat → Prop} : ∀ k, p k → ∃ m, p m ∧ ∀ j, p j → m ≤ j := by
  intro k
  induction k using Nat.strongRecOn with
  | ind k ih =>
    intro h
    rcases Classical.em (∃ j, j < k ∧ p j) with ⟨j, h1, h2⟩ | c
    · exact ih j h1 h2
    · exact ⟨k, h, fun j hj => Nat.le_of_not_lt fun z => c ⟨j, z, hj⟩⟩
open Classical in
noncomputable def T (js : List Job) (D : List Nat) : Nat := if h : ∃ m, Does js D m ∧ ∀ j, Does js D j → m ≤ j then choose h else 0
/-- no job needs itself, in a ring or not -/
def Acy (js : List Job) : Prop := ∀ D : List Nat, (∃ m, m < js.length ∧ m ∉ D) → ∃ n, n < js.length ∧ n ∉ D ∧ ∀ m ∈ nd js n, m ∈ D
noncomputable def left (js : List Job) (D : List Nat) : Nat := ((List.range js.length).filter fun n => decide (n ∉ D)).length
theorem left_lt {D D' : List Nat} (h : ∀ n < js.length, n ∈ D → n ∈ D') {m : Nat} (hm : m < js.length) (h1 : m ∉ D) (h2 : m ∈ D') : left js D' < left js D := by
  unfold left
  have key : ∀ l : List Nat, (∀ n ∈ l, n < js.length) → ((l.filter fun n => decide (n ∉ D')).length ≤ (l.filter fun n => decide (n ∉ D)).length) ∧ (m ∈ l → (l.filter fun n => decide (n ∉ D')).length < (l.filter fun n => decide (n ∉ D)).length) := by
    intro l
    induction l with
    | nil => intro _; exact ⟨Nat.le_refl _, fun h => by cases h⟩
    | cons a l ih =>
      intro hl
      obtain ⟨i1, i2⟩ := ih fun n hn => hl n (List.mem_cons_of_mem _ hn)
      have ha := hl a List.mem_cons_self
      rw [List.filter_cons, List.filter_cons]
      by_cases c : a ∈ D
      · have c' := h a ha c
        rw [if_neg (by simpa using c'), if_neg (by simpa using c)]
        refine ⟨i1, fun hm => i2 ?_⟩
        rcases List.mem_cons.mp hm with e | e
        · exact absurd (e ▸ c) h1
        · exact e
      · rw [if_pos (show decide (a ∉ D) = true by simpa using c)]
        by_cases c' : a ∈ D'
        · rw [if_neg (by simpa using c'), List.length_cons]
          exact ⟨by omega, fun _ => by omega⟩
        · rw [if_pos (show decide (a ∉ D') = true by simpa using c'), List.length_cons, List.length_cons]
          refine ⟨by omega, fun hm => ?_⟩
          rcases List.mem_cons.mp hm with e | e
          · exact absurd (e ▸ h2) c'
          · have := i2 e
            omega
  exact (key _ fun n hn => List.mem_range.mp hn).2 (List.mem_range.mpr hm)
theorem does_ex (ac : Acy js) : ∀ (k : Nat) (D : List Nat), left js D ≤ k → ∃ m, Does js D m := by
  intro k
  induction k with
  | zero =>
    intro D h
    refine ⟨0, [], rfl, fun n hn => ?_⟩
    show n ∈ D
    rcases Classical.em (n ∈ D) with c | c
    · exact c
    · have := left_lt (js := js) (D := D) (D' := n :: D) (fun m _ hm => List.mem_cons_of_mem _ hm) hn c List.mem_cons_self
      omega
  | succ k ih =>
    intro D h
    rcases Classical.em (∃ m, m < js.length ∧ m ∉ D) with c | c
    · obtain ⟨n, h1, h2, h3⟩ := ac D c
      obtain ⟨m, hm⟩ := ih (gone js (tl js n) D) (by
        have := left_lt (js := js) (D := D) (D' := gone js (tl js n) D) (fun m h4 hm => in_gone h4 hm) h1 h2 (mem_gone.mpr ⟨h1, .step h1 rfl fun m hm => .base (h3 m hm)⟩)
        omega)
      exact ⟨m + 1, hm.cons⟩
    · refine ⟨0, [], rfl, fun n hn => ?_⟩
      show n ∈ D
      rcases Classical.em (n ∈ D) with c2 | c2
      · exact c2
      · exact absurd ⟨n, hn, c2⟩ c
section
variable (ac : Acy js) (w : Wf js)
include ac
theorem T_spec (D : List Nat) : Does js D (T js D) ∧ ∀ j, Does js D j → T js D ≤ j := by
  obtain ⟨m, hm⟩ := does_ex ac _ D (Nat.le_refl _)
  have h := least_ex m hm
  unfold T
  rw [dif_pos h]
  exact Classical.choose_spec h
theorem T_step (t : Int) (D : List Nat) : T js D ≤ 1 + T js (gone js t D) := by
  have h := (T_spec ac (gone js t D)).1.cons
  have := (T_spec ac D).2 _ h
  omega
theorem T_full (h : ∀ n < js.length, n ∈ D) : T js D = 0 := Nat.le_zero.mp ((T_spec ac D).2 0 ⟨[], rfl, h⟩)
theorem T_pos (h : ∃ m, m < js.length ∧ m ∉ D) : 0 < T js D := by
  refine Nat.pos_of_ne_zero fun z => ?_
  obtain ⟨ts, h1, h2⟩ := (T_spec ac D).1
  rw [z] at h1
  obtain ⟨m, hm, hn⟩ := h
  have := h2 m hm
  rw [List.length_eq_zero_iff.mp h1] at this
  exact hn this
include w
theorem T_mono (h : ∀ n < js.length, n ∈ D → n ∈ D') : T js D' ≤ T js D := (T_spec ac D').2 _ ((T_spec ac D).1.mono w h)
theorem T_same (h : ∀ n < js.length, (n ∈ D ↔ n ∈ D')) : T js D = T js D' := Nat.le_antisymm (T_mono ac w fun n hn => (h n hn).mpr) (T_mono ac w fun n hn => (h n hn).mp)
end
def Can (js : List Job) (O : List Nat) (n : Nat) : Prop := n ∉ O ∧ ∀ m ∈ nd js n, m ∈ O
/-- nothing is there for a tool: all is as it was -/
theorem gone_none (h : ∀ n < js.length, tl js n = t → ¬ Can js O n) (c : Cl js t O n) : n ∈ O := by
  induction c with
  | base h1 => exact h1
  | @step m h1 h2 h3 ih =>
    rcases Classical.em (m ∈ O) with c | c
    · exact c
    · exact absurd ⟨c, ih⟩ (h m h1 h2)
theorem gone_put (hn : n < js.length) (c : Can js O n) : gone js (tl js n) (O ++ [n]) = gone js (tl js n) O := by
  refine srt_ext srt_gone srt_gone fun m => ?_
  rw [mem_gone, mem_gone]
  refine ⟨fun h => ⟨h.1, ?_⟩, fun h => ⟨h.1, h.2.mono fun x hx => List.mem_append_left _ hx⟩⟩
  have key : ∀ m, Cl js (tl js n) (O ++ [n]) m → Cl js (tl js n) O m := by
    intro m h
    induction h with
    | base h1 =>
      rcases List.mem_append.mp h1 with x | x
      · exact .base x
      · rw [List.mem_singleton.mp x]
        exact .step hn rfl fun m hm => .base (c.2 m hm)
    | step h1 h2 _ ih => exact .step h1 h2 ih
  exact key m h.2
/-- an optimal tool has something to do -/
theorem T_best (ac : Acy js) (w : Wf js) (h : ∃ m, m < js.length ∧ m ∉ O) : ∃ n, n < js.length ∧ Can js O n ∧ T js O = 1 + T js (gone js (tl js n) O) := by
  have p := T_pos ac h
  obtain ⟨k, hk⟩ : ∃ k, T js O = k + 1 := ⟨T js O - 1, by omega⟩
  have d := (T_spec ac O).1
  rw [hk] at d
  obtain ⟨t, d⟩ := d.tail
  have h1 := (T_spec ac (gone js t O)).2 _ d
  have h2 := T_step ac t O
  rcases Classical.em (∃ n, n < js.length ∧ tl js n = t ∧ Can js O n) with ⟨n, a, b, c⟩ | c
  · exact ⟨n, a, c, by rw [b]; omega⟩
  · have := T_same ac w (D := gone js t O) (D' := O) fun n hn => ⟨fun z => gone_none (fun m hm ht hc => c ⟨m, hm, ht, hc⟩) (mem_gone.mp z).2, fun z => in_gone hn z⟩
    omega
/-- takes still wanted, a tool being taken -/
noncomputable def Lft (js : List Job) (tool : Option Int) (O : List Nat) : Nat := match tool with
  | none => T js O
  | some t => T js (gone js t O)
open Classical in
noncomputable def chg (js : List Job) (tool : Option Int) (n : Nat) : Nat := if some (tl js n) = tool then 0 else 1
noncomputable def cost (js : List Job) (tool : Option Int) (O : List Nat) (n : Nat) : Nat := chg js tool n + T js (gone js (tl js n) (O ++ [n]))
theorem cost_some (ac : Acy js) (w : Wf js) (tool : Option Int) (h : ∃ m, m < js.length ∧ m ∉ O) : ∃ n, n < js.length ∧ Can js O n ∧ cost js tool O n ≤ Lft js tool O := by
  have gen : T js O ≤ Lft js tool O → ∃ n, n < js.length ∧ Can js O n ∧ cost js tool O n ≤ Lft js tool O := fun hl => by
    obtain ⟨n, h1, h2, h3⟩ := T_best ac w h
    refine ⟨n, h1, h2, ?_⟩
    unfold cost
    rw [gone_put h1 h2]
    have : chg js tool n ≤ 1 := by unfold chg; split <;> omega
    omega
  cases tool with
  | none => exact gen (Nat.le_refl _)
  | some t =>
    rcases Classical.em (∃ n, n < js.length ∧ tl js n = t ∧ Can js O n) with ⟨n, a, b, c⟩ | c
    · refine ⟨n, a, c, ?_⟩
      unfold cost chg Lft
      rw [gone_put a c, if_pos (by rw [b]), b]
      dsimp only
      omega
    · refine gen ?_
      show T js O ≤ T js (gone js t O)
      exact T_mono ac w fun n hn z => gone_none (fun m hm ht hc => c ⟨m, hm, ht, hc⟩) (mem_gone.mp z).2
theorem cost_ge (ac : Acy js) (w : Wf js) (tool : Option Int) (hn : n < js.length) (c : Can js O n) : Lft js tool O ≤ cost js tool O n := by
  unfold cost chg
  rw [gone_put hn c]
  cases tool with
  | none =>
    rw [if_neg (by simp)]
    exact T_step ac _ _
  | some t =>
    by_cases e : tl js n = t
    · rw [if_pos (by rw [e]), e]
      show T js (gone js t O) ≤ _
      omega
    · rw [if_neg (by simpa using e)]
      show T js (gone js t O) ≤ _
      refine Nat.le_trans (T_step ac (tl js n) _) ?_
      have := T_mono ac w (D := gone js (tl js n) O) (D' := gone js (tl js n) (gone js t O)) fun m hm z => by
        rw [mem_gone] at z ⊢
        exact ⟨hm, z.2.low (fun x hx hO => in_gone hx hO) hm w⟩
      omega
/-- what is taken leaves just what is wanted -/
theorem cost_eq (ac : Acy js) (w : Wf js) (tool : Option Int) (hn : n < js.length) (c : Can js O n) (h : cost js tool O n ≤ Lft js tool O) : Lft js tool O = chg js tool n + Lft js (some (tl js n)) (O ++ [n]) := Nat.le_antisymm (cost_ge ac w tool hn c) h
open Classical in
noncomputable def nxt (js : List Job) (tool : Option Int) (O : List Nat) : Option Nat := (List.range js.length).find? fun n => decide (Can js O n ∧ cost js tool O n ≤ Lft js tool O)
open Classical in
theorem nxt_some (ac : Acy js) (w : Wf js) (tool : Option Int) (h : ∃ m, m < js.length ∧ m ∉ O) : ∃ n, nxt js tool O = some n ∧ n < js.length ∧ Can js O n ∧ cost js tool O n ≤ Lft js tool O := by
  obtain ⟨n, h1, h2, h3⟩ := cost_some ac w tool h
  unfold nxt
  cases e : (List.range js.length).find? fun n => decide (Can js O n ∧ cost js tool O n ≤ Lft js tool O) with
  | none =>
    have := List.find?_eq_none.mp e n (List.mem_range.mpr h1)
    exact absurd (decide_eq_true (show Can js O n ∧ cost js tool O n ≤ Lft js tool O from ⟨h2, h3⟩)) this
  | some m =>
    have k1 := List.find?_some e
    have k2 := List.mem_of_find?_eq_some e
    rw [decide_eq_true_eq] at k1
    exact ⟨m, rfl, List.mem_range.mp k2, k1.1, k1.2⟩
open Classical in
theorem nxt_first {tool : Option Int} (hn : n < js.length) (h : Can js O n ∧ cost js tool O n ≤ Lft js tool O) (z : ∀ m < n, ¬ (Can js O m ∧ cost js tool O m ≤ Lft js tool O)) : nxt js tool O = some n := by
  unfold nxt
  rw [List.find?_eq_some_iff_getElem]
  refine ⟨decide_eq_true h, n, by rw [List.length_range]; exact hn, by rw [List.getElem_range], fun j hj => ?_⟩
  rw [List.getElem_range, Bool.not_eq_true', decide_eq_false_iff_not]
  exact z j hj
open Classical in
theorem nxt_is {tool : Option Int} (h : nxt js tool O = some n) : n < js.length ∧ Can js O n ∧ cost js tool O n ≤ Lft js tool O := by
  unfold nxt at h
  have h1 := List.find?_some h
  have h2 := List.mem_range.mp (List.mem_of_find?_eq_some h)
  exact ⟨h2, of_decide_eq_true h1⟩
noncomputable def ordF (js : List Job) : Nat → Option Int → List Nat → List Nat
  | 0, _, O => O
  | k + 1, tool, O => match nxt js tool O with
    | some n => ordF js k (some (tl js n)) (O ++ [n])
    | none => O
/-- an order: all jobs, each once, its needs ahead -/
def Ahead (js : List Job) (O : List Nat) : Prop := ∀ (i : Nat) (n : Nat), O[i]? = some n → ∀ m ∈ nd js n, m ∈ O.take i
def Going (js : List Job) (O : List Nat) : Prop := O.Nodup ∧ Sub js O ∧ Ahead js O
theorem Going.nil : Going js [] := ⟨List.nodup_nil, fun n h => (by cases h), fun i n h => by simp at h⟩
theorem Going.put (g : Going js O) (hn : n < js.length) (c : Can js O n) : Going js (O ++ [n]) := by
  obtain ⟨h1, h2, h3⟩ := g
  refine ⟨?_, fun m hm => ?_, fun i m hi x hx => ?_⟩
  · rw [List.nodup_append]
    refine ⟨h1, by simp, fun a ha b hb e => ?_⟩
    rw [List.mem_singleton.mp hb] at e
    exact c.1 (e ▸ ha)
  · rcases List.mem_append.mp hm with z | z
    · exact h2 m z
    · rw [List.mem_singleton.mp z]
      exact hn
  · by_cases l : i < O.length
    · rw [List.getElem?_append_left l] at hi
      rw [List.take_append_of_le_length (by omega)]
      exact h3 i m hi x hx
    · by_cases e : i = O.length
      · subst e
        rw [List.getElem?_append_right (Nat.le_refl _), Nat.sub_self] at hi
        cases hi
        rw [List.take_left]
        exact c.2 x hx
      · rw [List.getElem?_eq_none (by rw [List.length_append]; simp; omega)] at hi
        cases hi
theorem pigeon : ∀ (l D : List Nat), l.Nodup → (∀ x ∈ l, x ∈ D) → l.length ≤ D.length
  | [], _, _, _ => Nat.zero_le _
  | x :: l, D, hn, hs => by
    obtain ⟨h1, h2⟩ := List.nodup_cons.mp hn
    have hx : x ∈ D := hs x List.mem_cons_self
    have ih := pigeon l (D.erase x) h2 fun y hy => (List.mem_erase_of_ne fun e => h1 (by rw [← e]; exact hy)).2 (hs y (List.mem_cons_of_mem _ hy))
    have e := List.length_erase_of_mem hx
    have hp : 0 < D.length := List.length_pos_of_mem hx
    rw [List.length_cons]
    omega
/-- who isn't there -/
theorem some_left (h : O.length < js.length) : ∃ m, m < js.length ∧ m ∉ O := by
  rcases Classical.em (∃ m, m < js.length ∧ m ∉ O) with c | c
  · exact c
  · have := pigeon (List.range js.length) O List.nodup_range fun x hx => by
      rcases Classical.em (x ∈ O) with k | k
      · exact k
      · exact absurd ⟨x, List.mem_range.mp hx, k⟩ c
    rw [List.length_range] at this
    omega
theorem all_there (g : O.Nodup) (s : Sub js O) (h : js.length ≤ O.length) : ∀ n < js.length, n ∈ O := fun n hn => by
  rcases Classical.em (n ∈ O) with c | c
  · exact c
  · have := pigeon (n :: O) (List.range js.length) (List.nodup_cons.mpr ⟨c, g⟩) fun x hx => List.mem_range.mpr ((List.mem_cons.mp hx).elim (fun e => e ▸ hn) (s x))
    rw [List.length_cons, List.length_range] at this
    omega
theorem len_le (g : O.Nodup) (s : Sub js O) : O.length ≤ js.length := by
  have := pigeon O (List.range js.length) g fun x hx => List.mem_range.mpr (s x hx)
  rwa [List.length_range] at this
/-- how many takes an order wants -/
noncomputable def takes (js : List Job) : Option Int → List Nat → Nat
  | _, [] => 0
  | tool, n :: O => chg js tool n + takes js (some (tl js n)) O
def lastT (js : List Job) : Option Int → List Nat → Option Int
  | tool, [] => tool
  | _, n :: O => lastT js (some (tl js n)) O
theorem lastT_app (tool : Option Int) : ∀ (O : List Nat) (n : Nat) (tool : Option Int), lastT js tool (O ++ [n]) = some (tl js n)
  | [], n, _ => rfl
  | m :: O, n, _ => lastT_app tool O n _
theorem takes_app : ∀ (O : List Nat) (n : Nat) (tool : Option Int), takes js tool (O ++ [n]) = takes js tool O + chg js (lastT js tool O) n
  | [], n, _ => by simp [takes, lastT]
  | m :: O, n, tool => by
    show chg js tool m + takes js (some (tl js m)) (O ++ [n]) = chg js tool m + takes js (some (tl js m)) O + chg js (lastT js (some (tl js m)) O) n
    rw [takes_app O n]
    omega
/-- the whole walk -/
theorem ordF_ok (ac : Acy js) (w : Wf js) : ∀ (k : Nat) (O : List Nat), Going js O → O.length + k = js.length → ∀ N, takes js none O + Lft js (lastT js none O) O = N →
    Going js (ordF js k (lastT js none O) O) ∧ (ordF js k (lastT js none O) O).length = js.length ∧ takes js none (ordF js k (lastT js none O) O) = N
  | 0, O, g, hl, N, hN => by
    refine ⟨g, (by simpa using hl : O.length = js.length), ?_⟩
    have al := all_there g.1 g.2.1 (by omega : js.length ≤ O.length)
    have z : Lft js (lastT js none O) O = 0 := by
      cases e : lastT js none O with
      | none => exact T_full ac al
      | some t => exact T_full ac fun n hn => in_gone hn (al n hn)
    show takes js none O = N
    omega
  | k + 1, O, g, hl, N, hN => by
    obtain ⟨n, e, h1, h2, h3⟩ := nxt_some ac w (lastT js none O) (some_left (js := js) (O := O) (by omega))
    have q := ordF_ok ac w k (O ++ [n]) (g.put h1 h2) (by rw [List.length_append, List.length_singleton]; omega) N (by
      rw [takes_app, lastT_app none]
      have := cost_eq ac w (lastT js none O) h1 h2 h3
      omega)
    rw [lastT_app none] at q
    have e2 : ordF js (k + 1) (lastT js none O) O = ordF js k (some (tl js n)) (O ++ [n]) := by
      show (match nxt js (lastT js none O) O with
        | some n => ordF js k (some (tl js n)) (O ++ [n])
        | none => O) = _
      rw [e]
    rw [e2]
    exact q
/-- the first order with the least takes -/
noncomputable def first (js : List Job) : List Nat := ordF js js.length none []
theorem first_ok (ac : Acy js) (w : Wf js) : Going js (first js) ∧ (first js).length = js.length ∧ takes js none (first js) = T js [] := ordF_ok ac w js.length [] .nil (by simp) _ (by show 0 + T js [] = _; omega)
/-- needs that lie ahead in some order of all -/
theorem acy_of {ord : List Nat} (hp : ∀ n, n ∈ ord ↔ n < js.length) (h : ∀ (i n : Nat), ord[i]? = some n → ∀ m ∈ nd js n, m ∈ ord.take i) : Acy js ∧ Wf js := by
  refine ⟨fun D ⟨m, hm, hD⟩ => ?_, fun n hn m hm => ?_⟩
  · obtain ⟨i, hi, e⟩ := List.getElem_of_mem ((hp m).mpr hm)
    obtain ⟨j, ⟨x, hx, hxD⟩, hj⟩ := least_ex (p := fun i => ∃ x, ord[i]? = some x ∧ x ∉ D) i ⟨m, by rw [List.getElem?_eq_getElem hi, e], hD⟩
    refine ⟨x, (hp x).mp (List.mem_of_getElem? hx), hxD, fun y hy => ?_⟩
    obtain ⟨k, hk, e2⟩ := List.getElem_of_mem (h j x hx y hy)
    rw [List.getElem_take] at e2
    rw [List.length_take] at hk
    rcases Classical.em (y ∈ D) with c | c
    · exact c
    · have := hj k ⟨y, by rw [List.getElem?_eq_getElem (by omega), e2], c⟩
      omega
  · obtain ⟨i, hi, e⟩ := List.getElem_of_mem ((hp n).mpr hn)
    exact (hp m).mp (List.mem_of_mem_take (h i n (by rw [List.getElem?_eq_getElem hi, e]) m hm))
end JJ
namespace DL
open PySem PySem.Spec PyProof.Rows L2
noncomputable def b__law_begin : Sx := sSeq (sSet 1 (xA gListC (aCons (xSl (xVar 0) (oNone) (oSome (xP (.int 63)))) (aNil)))) (sSeq (sIf (tOfE (x2 (gEq false) (xVar 1) (xA gLst (aNil)))) (sSeq (sSet 1 (xA gLstC (aCons (xP (.int 7)) (aNil)))) (sNil)) (sNil)) (sSeq (sRet (xDisp [.inr ("cells" : Str), .inr ("turn" : Str)] (aCons (xVar 1) (aCons (xP (.int 0)) (aNil))))) (sNil)))
noncomputable def m__law_begin : List D → Sto → Option (D × Sto) := runF 1 2 b__law_begin
theorem l__law_begin {ds : List D} {S : Sto} {p : D × Sto} (h : m__law_begin ds S = some p) : ds.length = 1 := runF_len h
noncomputable def b__law_take : Sx := sSeq (sSet 2 (x2 gAdd (x2 gGet (xVar 0) (xP (.str ("turn" : Str)))) (xP (.int 1)))) (sSeq (sAsg (xVar 2) (gSubT (xVar 0) (xP (.str ("turn" : Str))))) (sSeq (sSet 3 (x2 (s2 pMod) (xVar 2) (xA gLen (aCons (x2 gGet (xVar 0) (xP (.str ("cells" : Str)))) (aNil))))) (sSeq (sSet 4 (x2 gGet (x2 gGet (xVar 0) (xP (.str ("cells" : Str)))) (xVar 3))) (sSeq (sIf (tOfE (x2 (s2 (pIB fun i j => decide (j ≤ i))) (xVar 4) (x2 (s2 pPow) (xP (.int 10)) (xP (.int 18))))) (sSeq (sAsg (xA (a2 pDivmod) (aCons (xVar 4) (aCons (xVar 1) (aNil)))) (gtLst 2 (gtCons (gSubT (x2 gGet (xVar 0) (xP (.str ("cells" : Str)))) (xVar 3)) (gtCons (gNm 6) (gtNil))))) (sSeq (sRet (xVar 6)) (sNil))) (sNil)) (sSeq (sSet 5 (x2 (s2 pMod) (x2 (s2 pMul) (x2 gAdd (x2 gAdd (x2 (s2 pMod) (xVar 4) (xP (.int 2147483629))) (x2 (s2 pMul) (x2 (s2 pMul) (xVar 2) (xVar 2)) (xP (.int 7919)))) (xP (.int 11))) (xP (.int 48271))) (xP (.int 2147483647)))) (sSeq (sSet 5 (x2 (s2 pMod) (x2 (s2 pMul) (xVar 5) (xVar 5)) (xP (.int 2147483587)))) (sSeq (sRet (x2 (s2 pMod) (x2 (s2 pDiv) (x2 (s2 pMod) (x2 (s2 pMul) (x2 gAdd (xVar 5) (x2 (s2 pMul) (xVar 2) (xP (.int 104729)))) (xP (.int 69621))) (xP (.int 2147483629))) (xP (.int 7))) (xVar 1))) (sNil))))))))
noncomputable def m__law_take : List D → Sto → Option (D × Sto) := runF 2 7 b__law_take
theorem l__law_take {ds : List D} {S : Sto} {p : D × Sto} (h : m__law_take ds S = some p) : ds.length = 2 := runF_len h
end DL
/-! LT: the draws, the answers held against one another. -/
namespace DL
open PySem PySem.Spec PyProof.Rows L2
/-- the state of the draws -/
structure StA (S : Sto) (n c : Nat) (cells : List Int) (t : Int) : Prop where
  st : S[n]? = some (.dct [(.str ("cells" : Str), .rf c), (.str ("turn" : Str), .pu (.int t))])
  ce : S[c]? = some (.lst (cells.map fun i => .pu (.int i)))
  ne : cells ≠ []
  ln : cells.length ≤ 63
  t0 : 0 ≤ t
  fl : flatS S = true
theorem flat_set {S : Sto} {n : Nat} {c : MC} (h : flatS S = true) (hc : flatM c = true) : flatS (S.set n c) = true :=
  List.all_eq_true.mpr fun x hx => (List.mem_or_eq_of_mem_set hx).elim (List.all_eq_true.mp h x) (fun e => by rw [e]; exact hc)
theorem flat_ints (is : List Int) : flatM (.lst (is.map fun i => .pu (.int i))) = true := by
  show (is.map fun i => D.pu (.int i)).all flatD = true
  rw [List.all_map]
  exact List.all_eq_true.mpr fun _ _ => rfl
theorem StA.nc {S : Sto} {n c : Nat} {cells : List Int} {t : Int} (h : StA S n c cells t) : n ≠ c := fun e => by
  have h1 := h.st
  rw [e, h.ce] at h1
  cases h1
theorem eqv_ct : PyData.eqv (.str ("cells" : Str)) (.str ("turn" : Str)) = false := by decide +kernel
theorem eqv_tt : PyData.eqv (.str ("turn" : Str)) (.str ("turn" : Str)) = true := by decide +kernel
theorem eqv_cc : PyData.eqv (.str ("cells" : Str)) (.str ("cells" : Str)) = true := by decide +kernel
theorem w_dT {α : Type} {a b : α} {Q : α → Prop} : W (dlook [(.str ("cells" : Str), a), (.str ("turn" : Str), b)] (.str ("turn" : Str))) Q ↔ Q b := by
  simp only [w_lkC, eqv_ct, eqv_tt, if_true, Bool.false_eq_true, if_false]
theorem w_dC {α : Type} {a b : α} {Q : α → Prop} : W (dlook [(.str ("cells" : Str), a), (.str ("turn" : Str), b)] (.str ("cells" : Str))) Q ↔ Q a := by
  simp only [w_lkC, eqv_cc, if_true]
theorem put_turn {S : Sto} {n c : Nat} {t : Int} {d : D} {e : Envi} {Q : Envi × Sto → Prop} (h : S[n]? = some (.dct [(.str ("cells" : Str), .rf c), (.str ("turn" : Str), .pu (.int t))])) :
    W (putS (.rf n) (.pu (.str ("turn" : Str))) d e S) Q ↔ Q (e, S.set n (.dct [(.str ("cells" : Str), .rf c), (.str ("turn" : Str), d)])) := by
  have h1 : putS (.rf n) (.pu (.str ("turn" : Str))) d e S = putD (.rf n) (.str ("turn" : Str)) d e S := by
    have hl : lstD (.rf n) S = none := by
      show (seqD (.rf n) S).bind _ = none
      unfold seqD
      dsimp only
      rw [h]
      rfl
    unfold putS
    rw [hl]
  rw [h1]
  have h2 : putD (.rf n) (.str ("turn" : Str)) d e S = some (e, S.set n (.dct [(.str ("cells" : Str), .rf c), (.str ("turn" : Str), d)])) := by
    unfold putD
    dsimp only
    rw [h]
    simp only [keyD, flatK, Option.bind_some]
    rw [if_pos (by rfl)]
    unfold dput
    simp only [List.any_cons, List.any_nil, List.map_cons, List.map_nil, eqv_ct, eqv_tt, Bool.or_false, Bool.false_or, if_true, Bool.false_eq_true, if_false]
  rw [h2]
  exact w_some
theorem StA.put {S : Sto} {n c : Nat} {cells : List Int} {t : Int} (h : StA S n c cells t) {t' : Int} (ht : 0 ≤ t') : StA (S.set n (.dct [(.str ("cells" : Str), .rf c), (.str ("turn" : Str), .pu (.int t'))])) n c cells t' := by
  have hn : n < S.length := (List.getElem?_eq_some_iff.mp h.st).1
  exact ⟨by rw [List.getElem?_set_self hn], by rw [List.getElem?_set_ne h.nc]; exact h.ce, h.ne, h.ln, ht, flat_set h.fl rfl⟩
theorem StA.cut {S : Sto} {n c : Nat} {cells : List Int} {t : Int} (h : StA S n c cells t) (j : Nat) (x : Int) : StA (S.set c (.lst ((cells.set j x).map fun i => .pu (.int i)))) n c (cells.set j x) t := by
  have hn : c < S.length := (List.getElem?_eq_some_iff.mp h.ce).1
  exact ⟨by rw [List.getElem?_set_ne h.nc.symm]; exact h.st, by rw [List.getElem?_set_self hn], fun z => h.ne (by have := congrArg List.length z; rw [List.length_set] at this; exact List.length_eq_zero_iff.mp this), by rw [List.length_set]; exact h.ln, h.t0, flat_set h.fl (flat_ints _)⟩
theorem w_at {α : Type} {xs : List α} {k : Int} {Q : α → Prop} (j : Nat) (hk : k = j) {x : α} (hx : xs[j]? = some x) (q : Q x) : W (atI xs k) Q := by
  subst hk
  have hj := (List.getElem?_eq_some_iff.mp hx).1
  unfold atI ixN
  rw [if_pos (by omega), if_pos (by omega)]
  show W (xs[((j : Int)).toNat]?) Q
  rw [Int.toNat_natCast, hx]
  exact ⟨_, rfl, q⟩
theorem small_of {i : Int} (h1 : 0 ≤ i) (h2 : i < 18446744073709551616) : small i = true := by
  unfold small
  rw [Bool.and_eq_true, decide_eq_true_eq, decide_eq_true_eq]
  omega
theorem sm1 : small 7919 = true := by decide
theorem sm2 : small 48271 = true := by decide
theorem sm3 : small 104729 = true := by decide
theorem sm4 : small 69621 = true := by decide
theorem sm5 : small 10 = true := by decide
theorem put_cell {S : Sto} {n c : Nat} {cells : List Int} {t : Int} (h : StA S n c cells t) {j : Nat} (hj : j < cells.length) {x : Int} {e : Envi} {Q : Envi × Sto → Prop} :
    W (putS (.rf c) (.pu (.int (j : Int))) (.pu (.int x)) e S) Q ↔ Q (e, S.set c (.lst ((cells.set j x).map fun i => .pu (.int i)))) := by
  have hl : lstD (.rf c) S = some (cells.map fun i => .pu (.int i)) := by
    show (seqD (.rf c) S).bind _ = _
    unfold seqD
    dsimp only
    rw [h.ce]
    rfl
  have h2 : putS (.rf c) (.pu (.int (j : Int))) (.pu (.int x)) e S = some (e, S.set c (.lst ((cells.set j x).map fun i => .pu (.int i)))) := by
    unfold putS
    rw [hl]
    show putL _ _ _ _ = _
    unfold putL
    dsimp only
    rw [h.ce]
    dsimp only
    rw [show ixN (cells.map fun i => D.pu (.int i)).length (j : Int) = some j from by unfold ixN; rw [if_pos (by omega), if_pos (by rw [List.length_map]; omega), Int.toNat_natCast]]
    show (if (List.set (cells.map fun i => D.pu (.int i)) j (D.pu (.int x))).length ≤ lim then _ else none) = _
    rw [if_pos (by rw [List.length_set, List.length_map]; have := h.ln; unfold lim; omega), List.map_set]
  rw [h2]
  exact w_some
theorem take_ok {S : Sto} {n c : Nat} {cells : List Int} {t m : Int} (h : StA S n c cells t) (hm : 0 < m) (hm2 : m < 1073741824) (ht : t < 1000000) :
    W (m__law_take [.rf n, .pu (.int m)] S) fun r => ∃ v cells' S', r = (.pu (.int v), S') ∧ 0 ≤ v ∧ v < m ∧ StA S' n c cells' (t + 1) ∧ S'.length = S.length ∧ ∀ k, k ≠ n → k ≠ c → S'[k]? = S[k]? := by
  unfold m__law_take
  rw [w_runF]
  refine ⟨⟨rfl, by decide⟩, ?_⟩
  rw [show env0 7 [.rf n, .pu (.int m)] = [some (.val (.rf n)), some (.val (.pu (.int m))), none, none, none, none, none] from rfl]
  unfold b__law_take
  simp only [DL.w_bind, DL.w_some, DL.w_none, DL.w_var, DL.w_slv, DL.w_slo, DL.w_P, DL.w_D, DL.w_x1, DL.w_x2, DL.w_xA, DL.w_nil, DL.w_cons, DL.w_ite_x, DL.w_isi, DL.w_tOfE, DL.w_bD, DL.w_tNot, DL.w_tAnd, DL.w_tOr, DL.w_and, DL.w_or, DL.w_seq, DL.w_qnx, DL.w_qrt, DL.w_qbk, DL.w_qct, DL.w_sNil, DL.w_sBreak, DL.w_sCont, DL.w_sDrop, DL.w_asg, DL.w_set, DL.w_ret, DL.w_retN, DL.w_if, DL.w_for, DL.w_fq, DL.w_fqo, DL.w_fqv, DL.w_nmP, DL.w_nmW, DL.w_nmR, DL.w_gnNil, DL.w_gtNil, DL.w_gnCons, DL.w_gtCons, DL.w_pwN, DL.w_pwP, DL.w_pwW, DL.w_gtLst, DL.w_gSubT, DL.w_s1, DL.w_s2, DL.w_pI, DL.w_pIB, DL.w_pNeg, DL.w_pAbs, DL.w_pDm, DL.w_a1, DL.w_a2, DL.w_add, DL.w_not, DL.w_ixL, DL.w_ixT, DL.w_ixB, DL.w_ixWL, DL.w_ixWT, DL.w_getT, DL.w_getL, DL.w_getB, DL.w_getW, DL.w_keyS, DL.w_keyI, DL.w_lkN, DL.w_lkC, DL.w_lenL, DL.w_lenT, DL.w_lenB, DL.w_puN, DL.w_puC, DL.w_puM, DL.w_tup, DL.w_lst, DL.w_list, DL.w_listC, DL.w_lstC, DL.w_seL, DL.w_seT, DL.w_seWL, DL.w_seWT, DL.w_seB, DL.w_eq, DL.w_callF, DL.w_callP, DL.w_runF, DL.w_eqn, DL.w_eqr, DL.w_runP, DL.w_epn, DL.w_epr, DL.w_lqn, DL.w_lqc, DL.w_lqb, DL.w_lqr, DL.w_rg, DL.w_rng1, DL.w_sl, DL.w_oN, DL.w_iQ, DL.w_oS, DL.w_gSlL, DL.w_gSlB, DL.w_gSlW, DL.w_disp, DL.w_lc, DL.w_setLc, DL.w_puQ, DL.w_yes, DL.w_itN, DL.w_imL, DL.w_imT, DL.w_imWL, DL.w_imWT, DL.w_zqT, DL.w_zqL, DL.w_bls, DL.w_tyN, DL.w_tyB, DL.w_tyI, DL.w_tyS, DL.w_tyL, DL.w_tyT, DL.w_tyD, DL.w_isNN, DL.w_isNI, DL.w_isNB, DL.w_isNS, DL.w_isNT, DL.w_isNL, DL.w_evB, DL.w_evI, DL.w_shI, DL.w_shB, DL.w_shN, DL.w_wrI, DL.w_wrT, DL.w_wrL, DL.w_at0, DL.w_at1, DL.w_at2, DL.w_nmN, DL.w_listN, DL.w_limR, DL.w_lstN, DL.w_seN, DL.w_lsL, DL.w_lsB, DL.w_lsN, DL.w_catN, DL.w_addL, DL.w_addT, DL.w_slN, DL.w_gSlN, DL.w_lcN, DL.w_rsN1, DL.w_rsN2, DL.w_rsZ1, DL.w_rsZ2, DL.w_callO, DL.w_callZ, DL.w_eO1, DL.w_eO2, DL.w_eO3, DL.w_eO4, DL.w_runO, DL.w_app, DL.w_putB, DL.w_plA, DL.w_aug, DL.w_pq, DL.w_par, DL.w_chain, DL.w_ints, DL.w_inN, DL.w_inC, DL.w_inM, DL.w_pIntI, DL.w_pIntB, DL.w_tupL, DL.w_tupT, DL.w_tupB, DL.w_rg2, DL.w_rng2, DL.w_evT, DL.w_evL, DL.w_evA0, DL.w_evA1, DL.w_tix, DL.w_a3, DL.w_pMax3, DL.w_pMin3, DL.w_rev, DL.w_revN, DL.w_revB, DL.w_ext, DL.w_rawN, DL.w_rawB, DL.w_plE, DL.w_intsB, DL.w_at3, DL.w_pBB, DL.w_putBS, DL.w_chain3, List.getElem?_cons_zero, List.getElem?_cons_succ, List.set_cons_zero, List.set_cons_succ, ↓reduceIte, Bool.false_eq_true, w_getD h.st, w_dT, put_turn h.st]
  have h1 := h.put (t' := t + 1) (by have := h.t0; omega)
  have len : (S.set n (.dct [(.str ("cells" : Str), .rf c), (.str ("turn" : Str), .pu (.int (t + 1)))])).length = S.length := List.length_set
  have oth : ∀ k, k ≠ n → k ≠ c → (S.set n (.dct [(.str ("cells" : Str), .rf c), (.str ("turn" : Str), .pu (.int (t + 1)))]))[k]? = S[k]? := fun k h1 _ => List.getElem?_set_ne (Ne.symm h1)
  refine ⟨rfl, ?_⟩
  generalize (S.set n (.dct [(.str ("cells" : Str), .rf c), (.str ("turn" : Str), .pu (.int (t + 1)))])) = S1 at h1 len oth ⊢
  simp only [DL.w_bind, DL.w_some, DL.w_none, DL.w_var, DL.w_slv, DL.w_slo, DL.w_P, DL.w_D, DL.w_x1, DL.w_x2, DL.w_xA, DL.w_nil, DL.w_cons, DL.w_ite_x, DL.w_isi, DL.w_tOfE, DL.w_bD, DL.w_tNot, DL.w_tAnd, DL.w_tOr, DL.w_and, DL.w_or, DL.w_seq, DL.w_qnx, DL.w_qrt, DL.w_qbk, DL.w_qct, DL.w_sNil, DL.w_sBreak, DL.w_sCont, DL.w_sDrop, DL.w_asg, DL.w_set, DL.w_ret, DL.w_retN, DL.w_if, DL.w_for, DL.w_fq, DL.w_fqo, DL.w_fqv, DL.w_nmP, DL.w_nmW, DL.w_nmR, DL.w_gnNil, DL.w_gtNil, DL.w_gnCons, DL.w_gtCons, DL.w_pwN, DL.w_pwP, DL.w_pwW, DL.w_gtLst, DL.w_gSubT, DL.w_s1, DL.w_s2, DL.w_pI, DL.w_pIB, DL.w_pNeg, DL.w_pAbs, DL.w_pDm, DL.w_a1, DL.w_a2, DL.w_add, DL.w_not, DL.w_ixL, DL.w_ixT, DL.w_ixB, DL.w_ixWL, DL.w_ixWT, DL.w_getT, DL.w_getL, DL.w_getB, DL.w_getW, DL.w_keyS, DL.w_keyI, DL.w_lkN, DL.w_lkC, DL.w_lenL, DL.w_lenT, DL.w_lenB, DL.w_puN, DL.w_puC, DL.w_puM, DL.w_tup, DL.w_lst, DL.w_list, DL.w_listC, DL.w_lstC, DL.w_seL, DL.w_seT, DL.w_seWL, DL.w_seWT, DL.w_seB, DL.w_eq, DL.w_callF, DL.w_callP, DL.w_runF, DL.w_eqn, DL.w_eqr, DL.w_runP, DL.w_epn, DL.w_epr, DL.w_lqn, DL.w_lqc, DL.w_lqb, DL.w_lqr, DL.w_rg, DL.w_rng1, DL.w_sl, DL.w_oN, DL.w_iQ, DL.w_oS, DL.w_gSlL, DL.w_gSlB, DL.w_gSlW, DL.w_disp, DL.w_lc, DL.w_setLc, DL.w_puQ, DL.w_yes, DL.w_itN, DL.w_imL, DL.w_imT, DL.w_imWL, DL.w_imWT, DL.w_zqT, DL.w_zqL, DL.w_bls, DL.w_tyN, DL.w_tyB, DL.w_tyI, DL.w_tyS, DL.w_tyL, DL.w_tyT, DL.w_tyD, DL.w_isNN, DL.w_isNI, DL.w_isNB, DL.w_isNS, DL.w_isNT, DL.w_isNL, DL.w_evB, DL.w_evI, DL.w_shI, DL.w_shB, DL.w_shN, DL.w_wrI, DL.w_wrT, DL.w_wrL, DL.w_at0, DL.w_at1, DL.w_at2, DL.w_nmN, DL.w_listN, DL.w_limR, DL.w_lstN, DL.w_seN, DL.w_lsL, DL.w_lsB, DL.w_lsN, DL.w_catN, DL.w_addL, DL.w_addT, DL.w_slN, DL.w_gSlN, DL.w_lcN, DL.w_rsN1, DL.w_rsN2, DL.w_rsZ1, DL.w_rsZ2, DL.w_callO, DL.w_callZ, DL.w_eO1, DL.w_eO2, DL.w_eO3, DL.w_eO4, DL.w_runO, DL.w_app, DL.w_putB, DL.w_plA, DL.w_aug, DL.w_pq, DL.w_par, DL.w_chain, DL.w_ints, DL.w_inN, DL.w_inC, DL.w_inM, DL.w_pIntI, DL.w_pIntB, DL.w_tupL, DL.w_tupT, DL.w_tupB, DL.w_rg2, DL.w_rng2, DL.w_evT, DL.w_evL, DL.w_evA0, DL.w_evA1, DL.w_tix, DL.w_a3, DL.w_pMax3, DL.w_pMin3, DL.w_rev, DL.w_revN, DL.w_revB, DL.w_ext, DL.w_rawN, DL.w_rawB, DL.w_plE, DL.w_intsB, DL.w_at3, DL.w_pBB, DL.w_putBS, DL.w_chain3, List.getElem?_cons_zero, List.getElem?_cons_succ, List.set_cons_zero, List.set_cons_succ, ↓reduceIte, Bool.false_eq_true, w_getD h1.st, w_dC, w_lenR h1.ce, List.length_map]
  have hl : 0 < cells.length := List.length_pos_iff.mpr h.ne
  refine ⟨by rw [decide_eq_true_eq]; omega, ?_⟩
  simp only [DL.w_bind, DL.w_some, DL.w_none, DL.w_var, DL.w_slv, DL.w_slo, DL.w_P, DL.w_D, DL.w_x1, DL.w_x2, DL.w_xA, DL.w_nil, DL.w_cons, DL.w_ite_x, DL.w_isi, DL.w_tOfE, DL.w_bD, DL.w_tNot, DL.w_tAnd, DL.w_tOr, DL.w_and, DL.w_or, DL.w_seq, DL.w_qnx, DL.w_qrt, DL.w_qbk, DL.w_qct, DL.w_sNil, DL.w_sBreak, DL.w_sCont, DL.w_sDrop, DL.w_asg, DL.w_set, DL.w_ret, DL.w_retN, DL.w_if, DL.w_for, DL.w_fq, DL.w_fqo, DL.w_fqv, DL.w_nmP, DL.w_nmW, DL.w_nmR, DL.w_gnNil, DL.w_gtNil, DL.w_gnCons, DL.w_gtCons, DL.w_pwN, DL.w_pwP, DL.w_pwW, DL.w_gtLst, DL.w_gSubT, DL.w_s1, DL.w_s2, DL.w_pI, DL.w_pIB, DL.w_pNeg, DL.w_pAbs, DL.w_pDm, DL.w_a1, DL.w_a2, DL.w_add, DL.w_not, DL.w_ixL, DL.w_ixT, DL.w_ixB, DL.w_ixWL, DL.w_ixWT, DL.w_getT, DL.w_getL, DL.w_getB, DL.w_getW, DL.w_keyS, DL.w_keyI, DL.w_lkN, DL.w_lkC, DL.w_lenL, DL.w_lenT, DL.w_lenB, DL.w_puN, DL.w_puC, DL.w_puM, DL.w_tup, DL.w_lst, DL.w_list, DL.w_listC, DL.w_lstC, DL.w_seL, DL.w_seT, DL.w_seWL, DL.w_seWT, DL.w_seB, DL.w_eq, DL.w_callF, DL.w_callP, DL.w_runF, DL.w_eqn, DL.w_eqr, DL.w_runP, DL.w_epn, DL.w_epr, DL.w_lqn, DL.w_lqc, DL.w_lqb, DL.w_lqr, DL.w_rg, DL.w_rng1, DL.w_sl, DL.w_oN, DL.w_iQ, DL.w_oS, DL.w_gSlL, DL.w_gSlB, DL.w_gSlW, DL.w_disp, DL.w_lc, DL.w_setLc, DL.w_puQ, DL.w_yes, DL.w_itN, DL.w_imL, DL.w_imT, DL.w_imWL, DL.w_imWT, DL.w_zqT, DL.w_zqL, DL.w_bls, DL.w_tyN, DL.w_tyB, DL.w_tyI, DL.w_tyS, DL.w_tyL, DL.w_tyT, DL.w_tyD, DL.w_isNN, DL.w_isNI, DL.w_isNB, DL.w_isNS, DL.w_isNT, DL.w_isNL, DL.w_evB, DL.w_evI, DL.w_shI, DL.w_shB, DL.w_shN, DL.w_wrI, DL.w_wrT, DL.w_wrL, DL.w_at0, DL.w_at1, DL.w_at2, DL.w_nmN, DL.w_listN, DL.w_limR, DL.w_lstN, DL.w_seN, DL.w_lsL, DL.w_lsB, DL.w_lsN, DL.w_catN, DL.w_addL, DL.w_addT, DL.w_slN, DL.w_gSlN, DL.w_lcN, DL.w_rsN1, DL.w_rsN2, DL.w_rsZ1, DL.w_rsZ2, DL.w_callO, DL.w_callZ, DL.w_eO1, DL.w_eO2, DL.w_eO3, DL.w_eO4, DL.w_runO, DL.w_app, DL.w_putB, DL.w_plA, DL.w_aug, DL.w_pq, DL.w_par, DL.w_chain, DL.w_ints, DL.w_inN, DL.w_inC, DL.w_inM, DL.w_pIntI, DL.w_pIntB, DL.w_tupL, DL.w_tupT, DL.w_tupB, DL.w_rg2, DL.w_rng2, DL.w_evT, DL.w_evL, DL.w_evA0, DL.w_evA1, DL.w_tix, DL.w_a3, DL.w_pMax3, DL.w_pMin3, DL.w_rev, DL.w_revN, DL.w_revB, DL.w_ext, DL.w_rawN, DL.w_rawB, DL.w_plE, DL.w_intsB, DL.w_at3, DL.w_pBB, DL.w_putBS, DL.w_chain3, List.getElem?_cons_zero, List.getElem?_cons_succ, List.set_cons_zero, List.set_cons_succ, ↓reduceIte, Bool.false_eq_true, w_getD h1.st, w_dC, w_getR h1.ce]
  have hj : ((t + 1) % (cells.length : Int)).toNat < cells.length := by
    have := Int.emod_lt_of_pos (t + 1) (show (0 : Int) < cells.length by omega)
    have := Int.emod_nonneg (t + 1) (show (cells.length : Int) ≠ 0 by omega)
    omega
  have hk : (t + 1) % (cells.length : Int) = (((t + 1) % (cells.length : Int)).toNat : Nat) := by
    have := Int.emod_nonneg (t + 1) (show (cells.length : Int) ≠ 0 by omega)
    omega
  generalize ((t + 1) % (cells.length : Int)).toNat = j at hj hk
  refine w_at j hk (x := .pu (.int cells[j])) (by rw [List.getElem?_map, List.getElem?_eq_getElem hj]; rfl) ?_
  rw [hk]
  generalize cells[j] = x
  have t0 := h.t0
  have st1 : small (t + 1) = true := small_of (by omega) (by omega)
  simp only [DL.w_bind, DL.w_some, DL.w_none, DL.w_var, DL.w_slv, DL.w_slo, DL.w_P, DL.w_D, DL.w_x1, DL.w_x2, DL.w_xA, DL.w_nil, DL.w_cons, DL.w_ite_x, DL.w_isi, DL.w_tOfE, DL.w_bD, DL.w_tNot, DL.w_tAnd, DL.w_tOr, DL.w_and, DL.w_or, DL.w_seq, DL.w_qnx, DL.w_qrt, DL.w_qbk, DL.w_qct, DL.w_sNil, DL.w_sBreak, DL.w_sCont, DL.w_sDrop, DL.w_asg, DL.w_set, DL.w_ret, DL.w_retN, DL.w_if, DL.w_for, DL.w_fq, DL.w_fqo, DL.w_fqv, DL.w_nmP, DL.w_nmW, DL.w_nmR, DL.w_gnNil, DL.w_gtNil, DL.w_gnCons, DL.w_gtCons, DL.w_pwN, DL.w_pwP, DL.w_pwW, DL.w_gtLst, DL.w_gSubT, DL.w_s1, DL.w_s2, DL.w_pI, DL.w_pIB, DL.w_pNeg, DL.w_pAbs, DL.w_pDm, DL.w_a1, DL.w_a2, DL.w_add, DL.w_not, DL.w_ixL, DL.w_ixT, DL.w_ixB, DL.w_ixWL, DL.w_ixWT, DL.w_getT, DL.w_getL, DL.w_getB, DL.w_getW, DL.w_keyS, DL.w_keyI, DL.w_lkN, DL.w_lkC, DL.w_lenL, DL.w_lenT, DL.w_lenB, DL.w_puN, DL.w_puC, DL.w_puM, DL.w_tup, DL.w_lst, DL.w_list, DL.w_listC, DL.w_lstC, DL.w_seL, DL.w_seT, DL.w_seWL, DL.w_seWT, DL.w_seB, DL.w_eq, DL.w_callF, DL.w_callP, DL.w_runF, DL.w_eqn, DL.w_eqr, DL.w_runP, DL.w_epn, DL.w_epr, DL.w_lqn, DL.w_lqc, DL.w_lqb, DL.w_lqr, DL.w_rg, DL.w_rng1, DL.w_sl, DL.w_oN, DL.w_iQ, DL.w_oS, DL.w_gSlL, DL.w_gSlB, DL.w_gSlW, DL.w_disp, DL.w_lc, DL.w_setLc, DL.w_puQ, DL.w_yes, DL.w_itN, DL.w_imL, DL.w_imT, DL.w_imWL, DL.w_imWT, DL.w_zqT, DL.w_zqL, DL.w_bls, DL.w_tyN, DL.w_tyB, DL.w_tyI, DL.w_tyS, DL.w_tyL, DL.w_tyT, DL.w_tyD, DL.w_isNN, DL.w_isNI, DL.w_isNB, DL.w_isNS, DL.w_isNT, DL.w_isNL, DL.w_evB, DL.w_evI, DL.w_shI, DL.w_shB, DL.w_shN, DL.w_wrI, DL.w_wrT, DL.w_wrL, DL.w_at0, DL.w_at1, DL.w_at2, DL.w_nmN, DL.w_listN, DL.w_limR, DL.w_lstN, DL.w_seN, DL.w_lsL, DL.w_lsB, DL.w_lsN, DL.w_catN, DL.w_addL, DL.w_addT, DL.w_slN, DL.w_gSlN, DL.w_lcN, DL.w_rsN1, DL.w_rsN2, DL.w_rsZ1, DL.w_rsZ2, DL.w_callO, DL.w_callZ, DL.w_eO1, DL.w_eO2, DL.w_eO3, DL.w_eO4, DL.w_runO, DL.w_app, DL.w_putB, DL.w_plA, DL.w_aug, DL.w_pq, DL.w_par, DL.w_chain, DL.w_ints, DL.w_inN, DL.w_inC, DL.w_inM, DL.w_pIntI, DL.w_pIntB, DL.w_tupL, DL.w_tupT, DL.w_tupB, DL.w_rg2, DL.w_rng2, DL.w_evT, DL.w_evL, DL.w_evA0, DL.w_evA1, DL.w_tix, DL.w_a3, DL.w_pMax3, DL.w_pMin3, DL.w_rev, DL.w_revN, DL.w_revB, DL.w_ext, DL.w_rawN, DL.w_rawB, DL.w_plE, DL.w_intsB, DL.w_at3, DL.w_pBB, DL.w_putBS, DL.w_chain3, List.getElem?_cons_zero, List.getElem?_cons_succ, List.set_cons_zero, List.set_cons_succ, ↓reduceIte, Bool.false_eq_true, sm1, sm2, sm3, sm4, sm5, Bool.or_true, Bool.and_true]
  refine ⟨by decide, ?_⟩
  refine both (fun _ => ?_) (fun _ => ?_)
  · refine ⟨⟨hm, hm2⟩, ?_⟩
    simp only [DL.w_bind, DL.w_some, DL.w_none, DL.w_var, DL.w_slv, DL.w_slo, DL.w_P, DL.w_D, DL.w_x1, DL.w_x2, DL.w_xA, DL.w_nil, DL.w_cons, DL.w_ite_x, DL.w_isi, DL.w_tOfE, DL.w_bD, DL.w_tNot, DL.w_tAnd, DL.w_tOr, DL.w_and, DL.w_or, DL.w_seq, DL.w_qnx, DL.w_qrt, DL.w_qbk, DL.w_qct, DL.w_sNil, DL.w_sBreak, DL.w_sCont, DL.w_sDrop, DL.w_asg, DL.w_set, DL.w_ret, DL.w_retN, DL.w_if, DL.w_for, DL.w_fq, DL.w_fqo, DL.w_fqv, DL.w_nmP, DL.w_nmW, DL.w_nmR, DL.w_gnNil, DL.w_gtNil, DL.w_gnCons, DL.w_gtCons, DL.w_pwN, DL.w_pwP, DL.w_pwW, DL.w_gtLst, DL.w_gSubT, DL.w_s1, DL.w_s2, DL.w_pI, DL.w_pIB, DL.w_pNeg, DL.w_pAbs, DL.w_pDm, DL.w_a1, DL.w_a2, DL.w_add, DL.w_not, DL.w_ixL, DL.w_ixT, DL.w_ixB, DL.w_ixWL, DL.w_ixWT, DL.w_getT, DL.w_getL, DL.w_getB, DL.w_getW, DL.w_keyS, DL.w_keyI, DL.w_lkN, DL.w_lkC, DL.w_lenL, DL.w_lenT, DL.w_lenB, DL.w_puN, DL.w_puC, DL.w_puM, DL.w_tup, DL.w_lst, DL.w_list, DL.w_listC, DL.w_lstC, DL.w_seL, DL.w_seT, DL.w_seWL, DL.w_seWT, DL.w_seB, DL.w_eq, DL.w_callF, DL.w_callP, DL.w_runF, DL.w_eqn, DL.w_eqr, DL.w_runP, DL.w_epn, DL.w_epr, DL.w_lqn, DL.w_lqc, DL.w_lqb, DL.w_lqr, DL.w_rg, DL.w_rng1, DL.w_sl, DL.w_oN, DL.w_iQ, DL.w_oS, DL.w_gSlL, DL.w_gSlB, DL.w_gSlW, DL.w_disp, DL.w_lc, DL.w_setLc, DL.w_puQ, DL.w_yes, DL.w_itN, DL.w_imL, DL.w_imT, DL.w_imWL, DL.w_imWT, DL.w_zqT, DL.w_zqL, DL.w_bls, DL.w_tyN, DL.w_tyB, DL.w_tyI, DL.w_tyS, DL.w_tyL, DL.w_tyT, DL.w_tyD, DL.w_isNN, DL.w_isNI, DL.w_isNB, DL.w_isNS, DL.w_isNT, DL.w_isNL, DL.w_evB, DL.w_evI, DL.w_shI, DL.w_shB, DL.w_shN, DL.w_wrI, DL.w_wrT, DL.w_wrL, DL.w_at0, DL.w_at1, DL.w_at2, DL.w_nmN, DL.w_listN, DL.w_limR, DL.w_lstN, DL.w_seN, DL.w_lsL, DL.w_lsB, DL.w_lsN, DL.w_catN, DL.w_addL, DL.w_addT, DL.w_slN, DL.w_gSlN, DL.w_lcN, DL.w_rsN1, DL.w_rsN2, DL.w_rsZ1, DL.w_rsZ2, DL.w_callO, DL.w_callZ, DL.w_eO1, DL.w_eO2, DL.w_eO3, DL.w_eO4, DL.w_runO, DL.w_app, DL.w_putB, DL.w_plA, DL.w_aug, DL.w_pq, DL.w_par, DL.w_chain, DL.w_ints, DL.w_inN, DL.w_inC, DL.w_inM, DL.w_pIntI, DL.w_pIntB, DL.w_tupL, DL.w_tupT, DL.w_tupB, DL.w_rg2, DL.w_rng2, DL.w_evT, DL.w_evL, DL.w_evA0, DL.w_evA1, DL.w_tix, DL.w_a3, DL.w_pMax3, DL.w_pMin3, DL.w_rev, DL.w_revN, DL.w_revB, DL.w_ext, DL.w_rawN, DL.w_rawB, DL.w_plE, DL.w_intsB, DL.w_at3, DL.w_pBB, DL.w_putBS, DL.w_chain3, List.getElem?_cons_zero, List.getElem?_cons_succ, List.set_cons_zero, List.set_cons_succ, ↓reduceIte, Bool.false_eq_true, List.map_cons, List.map_nil, List.length_cons, List.length_nil, w_getD h1.st, w_dC, put_cell h1 hj]
    refine ⟨by trivial, by trivial, by trivial, ?_⟩
    refine ⟨_, _, _, rfl, Int.emod_nonneg _ (by omega), Int.emod_lt_of_pos _ hm, h1.cut j _, by rw [List.length_set]; exact len, fun k k1 k2 => by rw [List.getElem?_set_ne (Ne.symm k2)]; exact oth k k1 k2⟩
  · have sx : ∀ y : Int, small (y % 2147483647) = true := fun y => small_of (Int.emod_nonneg _ (by decide)) (by have := Int.emod_lt_of_pos y (show (0 : Int) < 2147483647 by decide); omega)
    simp only [DL.w_bind, DL.w_some, DL.w_none, DL.w_var, DL.w_slv, DL.w_slo, DL.w_P, DL.w_D, DL.w_x1, DL.w_x2, DL.w_xA, DL.w_nil, DL.w_cons, DL.w_ite_x, DL.w_isi, DL.w_tOfE, DL.w_bD, DL.w_tNot, DL.w_tAnd, DL.w_tOr, DL.w_and, DL.w_or, DL.w_seq, DL.w_qnx, DL.w_qrt, DL.w_qbk, DL.w_qct, DL.w_sNil, DL.w_sBreak, DL.w_sCont, DL.w_sDrop, DL.w_asg, DL.w_set, DL.w_ret, DL.w_retN, DL.w_if, DL.w_for, DL.w_fq, DL.w_fqo, DL.w_fqv, DL.w_nmP, DL.w_nmW, DL.w_nmR, DL.w_gnNil, DL.w_gtNil, DL.w_gnCons, DL.w_gtCons, DL.w_pwN, DL.w_pwP, DL.w_pwW, DL.w_gtLst, DL.w_gSubT, DL.w_s1, DL.w_s2, DL.w_pI, DL.w_pIB, DL.w_pNeg, DL.w_pAbs, DL.w_pDm, DL.w_a1, DL.w_a2, DL.w_add, DL.w_not, DL.w_ixL, DL.w_ixT, DL.w_ixB, DL.w_ixWL, DL.w_ixWT, DL.w_getT, DL.w_getL, DL.w_getB, DL.w_getW, DL.w_keyS, DL.w_keyI, DL.w_lkN, DL.w_lkC, DL.w_lenL, DL.w_lenT, DL.w_lenB, DL.w_puN, DL.w_puC, DL.w_puM, DL.w_tup, DL.w_lst, DL.w_list, DL.w_listC, DL.w_lstC, DL.w_seL, DL.w_seT, DL.w_seWL, DL.w_seWT, DL.w_seB, DL.w_eq, DL.w_callF, DL.w_callP, DL.w_runF, DL.w_eqn, DL.w_eqr, DL.w_runP, DL.w_epn, DL.w_epr, DL.w_lqn, DL.w_lqc, DL.w_lqb, DL.w_lqr, DL.w_rg, DL.w_rng1, DL.w_sl, DL.w_oN, DL.w_iQ, DL.w_oS, DL.w_gSlL, DL.w_gSlB, DL.w_gSlW, DL.w_disp, DL.w_lc, DL.w_setLc, DL.w_puQ, DL.w_yes, DL.w_itN, DL.w_imL, DL.w_imT, DL.w_imWL, DL.w_imWT, DL.w_zqT, DL.w_zqL, DL.w_bls, DL.w_tyN, DL.w_tyB, DL.w_tyI, DL.w_tyS, DL.w_tyL, DL.w_tyT, DL.w_tyD, DL.w_isNN, DL.w_isNI, DL.w_isNB, DL.w_isNS, DL.w_isNT, DL.w_isNL, DL.w_evB, DL.w_evI, DL.w_shI, DL.w_shB, DL.w_shN, DL.w_wrI, DL.w_wrT, DL.w_wrL, DL.w_at0, DL.w_at1, DL.w_at2, DL.w_nmN, DL.w_listN, DL.w_limR, DL.w_lstN, DL.w_seN, DL.w_lsL, DL.w_lsB, DL.w_lsN, DL.w_catN, DL.w_addL, DL.w_addT, DL.w_slN, DL.w_gSlN, DL.w_lcN, DL.w_rsN1, DL.w_rsN2, DL.w_rsZ1, DL.w_rsZ2, DL.w_callO, DL.w_callZ, DL.w_eO1, DL.w_eO2, DL.w_eO3, DL.w_eO4, DL.w_runO, DL.w_app, DL.w_putB, DL.w_plA, DL.w_aug, DL.w_pq, DL.w_par, DL.w_chain, DL.w_ints, DL.w_inN, DL.w_inC, DL.w_inM, DL.w_pIntI, DL.w_pIntB, DL.w_tupL, DL.w_tupT, DL.w_tupB, DL.w_rg2, DL.w_rng2, DL.w_evT, DL.w_evL, DL.w_evA0, DL.w_evA1, DL.w_tix, DL.w_a3, DL.w_pMax3, DL.w_pMin3, DL.w_rev, DL.w_revN, DL.w_revB, DL.w_ext, DL.w_rawN, DL.w_rawB, DL.w_plE, DL.w_intsB, DL.w_at3, DL.w_pBB, DL.w_putBS, DL.w_chain3, List.getElem?_cons_zero, List.getElem?_cons_succ, List.set_cons_zero, List.set_cons_succ, ↓reduceIte, Bool.false_eq_true, st1, sx, sm1, sm2, sm3, sm4, Bool.or_true, Bool.true_or]
    refine ⟨by decide, trivial, trivial, trivial, by decide, trivial, by decide, trivial, trivial, by decide, by decide, by rw [decide_eq_true_eq]; exact hm, rfl, ?_⟩
    exact ⟨_, _, _, rfl, Int.emod_nonneg _ (by omega), Int.emod_lt_of_pos _ hm, h1, len, oth⟩
theorem cut63 {α : Type} {xs : List α} (h : xs.length ≤ 63) : cutL xs none (some 63) = xs := by
  unfold cutL
  rw [show HT.sIx xs.length 0 none = 0 from rfl, List.drop_zero, show HT.sIx xs.length xs.length (some 63) = xs.length by
    rw [show (some (63 : Int)) = some (((63 : Nat) : Int)) from rfl, HT.sIx_nat]; omega, Nat.sub_zero, List.take_length]
theorem dm_ct {α : Type} {a b : α} : dmerge [] [(keyP (.inr ("cells" : Str)), a), (keyP (.inr ("turn" : Str)), b)] = [(.str ("cells" : Str), a), (.str ("turn" : Str), b)] := by
  unfold dmerge
  simp only [List.foldl_cons, List.foldl_nil, dput, keyP, List.any_nil, List.any_cons, eqv_ct, Bool.or_false, Bool.false_eq_true, if_false, List.nil_append, List.cons_append]
theorem begin_go {ns : List Int} (h : ns.length ≤ 63) {d : D} (hd : ∀ Q : D × Sto → Prop, (∀ xs, xs = ns.map PyData.int → Q (.pu (.list (cutL xs none (some 63))), [])) → W (gSl d none (some 63) []) Q) :
    W (m__law_begin [d] []) fun r => ∃ n c cells S', r = (.rf n, S') ∧ StA S' n c cells 0 := by
  have hs : shp 9 (.list (ns.map PyData.int)) = true := by
    show (ns.map PyData.int).all (shp 8) = true
    rw [List.all_map]
    exact List.all_eq_true.mpr fun _ _ => rfl
  unfold m__law_begin
  rw [w_runF]
  refine ⟨⟨rfl, by decide⟩, ?_⟩
  rw [show env0 2 [d] = [some (.val d), none] from rfl]
  unfold b__law_begin
  simp only [DL.w_bind, DL.w_some, DL.w_none, DL.w_var, DL.w_slv, DL.w_slo, DL.w_P, DL.w_D, DL.w_x1, DL.w_x2, DL.w_xA, DL.w_nil, DL.w_cons, DL.w_ite_x, DL.w_isi, DL.w_tOfE, DL.w_bD, DL.w_tNot, DL.w_tAnd, DL.w_tOr, DL.w_and, DL.w_or, DL.w_seq, DL.w_qnx, DL.w_qrt, DL.w_qbk, DL.w_qct, DL.w_sNil, DL.w_sBreak, DL.w_sCont, DL.w_sDrop, DL.w_asg, DL.w_set, DL.w_ret, DL.w_retN, DL.w_if, DL.w_for, DL.w_fq, DL.w_fqo, DL.w_fqv, DL.w_nmP, DL.w_nmW, DL.w_nmR, DL.w_gnNil, DL.w_gtNil, DL.w_gnCons, DL.w_gtCons, DL.w_pwN, DL.w_pwP, DL.w_pwW, DL.w_gtLst, DL.w_gSubT, DL.w_s1, DL.w_s2, DL.w_pI, DL.w_pIB, DL.w_pNeg, DL.w_pAbs, DL.w_pDm, DL.w_a1, DL.w_a2, DL.w_add, DL.w_not, DL.w_ixL, DL.w_ixT, DL.w_ixB, DL.w_ixWL, DL.w_ixWT, DL.w_getT, DL.w_getL, DL.w_getB, DL.w_getW, DL.w_keyS, DL.w_keyI, DL.w_lkN, DL.w_lkC, DL.w_lenL, DL.w_lenT, DL.w_lenB, DL.w_puN, DL.w_puC, DL.w_puM, DL.w_tup, DL.w_lst, DL.w_list, DL.w_listC, DL.w_lstC, DL.w_seL, DL.w_seT, DL.w_seWL, DL.w_seWT, DL.w_seB, DL.w_eq, DL.w_callF, DL.w_callP, DL.w_runF, DL.w_eqn, DL.w_eqr, DL.w_runP, DL.w_epn, DL.w_epr, DL.w_lqn, DL.w_lqc, DL.w_lqb, DL.w_lqr, DL.w_rg, DL.w_rng1, DL.w_sl, DL.w_oN, DL.w_iQ, DL.w_oS, DL.w_gSlL, DL.w_gSlB, DL.w_gSlW, DL.w_disp, DL.w_lc, DL.w_setLc, DL.w_puQ, DL.w_yes, DL.w_itN, DL.w_imL, DL.w_imT, DL.w_imWL, DL.w_imWT, DL.w_zqT, DL.w_zqL, DL.w_bls, DL.w_tyN, DL.w_tyB, DL.w_tyI, DL.w_tyS, DL.w_tyL, DL.w_tyT, DL.w_tyD, DL.w_isNN, DL.w_isNI, DL.w_isNB, DL.w_isNS, DL.w_isNT, DL.w_isNL, DL.w_evB, DL.w_evI, DL.w_shI, DL.w_shB, DL.w_shN, DL.w_wrI, DL.w_wrT, DL.w_wrL, DL.w_at0, DL.w_at1, DL.w_at2, DL.w_nmN, DL.w_listN, DL.w_limR, DL.w_lstN, DL.w_seN, DL.w_lsL, DL.w_lsB, DL.w_lsN, DL.w_catN, DL.w_addL, DL.w_addT, DL.w_slN, DL.w_gSlN, DL.w_lcN, DL.w_rsN1, DL.w_rsN2, DL.w_rsZ1, DL.w_rsZ2, DL.w_callO, DL.w_callZ, DL.w_eO1, DL.w_eO2, DL.w_eO3, DL.w_eO4, DL.w_runO, DL.w_app, DL.w_putB, DL.w_plA, DL.w_aug, DL.w_pq, DL.w_par, DL.w_chain, DL.w_ints, DL.w_inN, DL.w_inC, DL.w_inM, DL.w_pIntI, DL.w_pIntB, DL.w_tupL, DL.w_tupT, DL.w_tupB, DL.w_rg2, DL.w_rng2, DL.w_evT, DL.w_evL, DL.w_evA0, DL.w_evA1, DL.w_tix, DL.w_a3, DL.w_pMax3, DL.w_pMin3, DL.w_rev, DL.w_revN, DL.w_revB, DL.w_ext, DL.w_rawN, DL.w_rawB, DL.w_plE, DL.w_intsB, DL.w_at3, DL.w_pBB, DL.w_putBS, DL.w_chain3, List.getElem?_cons_zero, List.getElem?_cons_succ, List.set_cons_zero, List.set_cons_succ, ↓reduceIte, Bool.false_eq_true]
  refine hd _ fun xs hx => ?_
  subst hx
  rw [cut63 (by rw [List.length_map]; exact h)]
  simp only [DL.w_bind, DL.w_some, DL.w_none, DL.w_var, DL.w_slv, DL.w_slo, DL.w_P, DL.w_D, DL.w_x1, DL.w_x2, DL.w_xA, DL.w_nil, DL.w_cons, DL.w_ite_x, DL.w_isi, DL.w_tOfE, DL.w_bD, DL.w_tNot, DL.w_tAnd, DL.w_tOr, DL.w_and, DL.w_or, DL.w_seq, DL.w_qnx, DL.w_qrt, DL.w_qbk, DL.w_qct, DL.w_sNil, DL.w_sBreak, DL.w_sCont, DL.w_sDrop, DL.w_asg, DL.w_set, DL.w_ret, DL.w_retN, DL.w_if, DL.w_for, DL.w_fq, DL.w_fqo, DL.w_fqv, DL.w_nmP, DL.w_nmW, DL.w_nmR, DL.w_gnNil, DL.w_gtNil, DL.w_gnCons, DL.w_gtCons, DL.w_pwN, DL.w_pwP, DL.w_pwW, DL.w_gtLst, DL.w_gSubT, DL.w_s1, DL.w_s2, DL.w_pI, DL.w_pIB, DL.w_pNeg, DL.w_pAbs, DL.w_pDm, DL.w_a1, DL.w_a2, DL.w_add, DL.w_not, DL.w_ixL, DL.w_ixT, DL.w_ixB, DL.w_ixWL, DL.w_ixWT, DL.w_getT, DL.w_getL, DL.w_getB, DL.w_getW, DL.w_keyS, DL.w_keyI, DL.w_lkN, DL.w_lkC, DL.w_lenL, DL.w_lenT, DL.w_lenB, DL.w_puN, DL.w_puC, DL.w_puM, DL.w_tup, DL.w_lst, DL.w_list, DL.w_listC, DL.w_lstC, DL.w_seL, DL.w_seT, DL.w_seWL, DL.w_seWT, DL.w_seB, DL.w_eq, DL.w_callF, DL.w_callP, DL.w_runF, DL.w_eqn, DL.w_eqr, DL.w_runP, DL.w_epn, DL.w_epr, DL.w_lqn, DL.w_lqc, DL.w_lqb, DL.w_lqr, DL.w_rg, DL.w_rng1, DL.w_sl, DL.w_oN, DL.w_iQ, DL.w_oS, DL.w_gSlL, DL.w_gSlB, DL.w_gSlW, DL.w_disp, DL.w_lc, DL.w_setLc, DL.w_puQ, DL.w_yes, DL.w_itN, DL.w_imL, DL.w_imT, DL.w_imWL, DL.w_imWT, DL.w_zqT, DL.w_zqL, DL.w_bls, DL.w_tyN, DL.w_tyB, DL.w_tyI, DL.w_tyS, DL.w_tyL, DL.w_tyT, DL.w_tyD, DL.w_isNN, DL.w_isNI, DL.w_isNB, DL.w_isNS, DL.w_isNT, DL.w_isNL, DL.w_evB, DL.w_evI, DL.w_shI, DL.w_shB, DL.w_shN, DL.w_wrI, DL.w_wrT, DL.w_wrL, DL.w_at0, DL.w_at1, DL.w_at2, DL.w_nmN, DL.w_listN, DL.w_limR, DL.w_lstN, DL.w_seN, DL.w_lsL, DL.w_lsB, DL.w_lsN, DL.w_catN, DL.w_addL, DL.w_addT, DL.w_slN, DL.w_gSlN, DL.w_lcN, DL.w_rsN1, DL.w_rsN2, DL.w_rsZ1, DL.w_rsZ2, DL.w_callO, DL.w_callZ, DL.w_eO1, DL.w_eO2, DL.w_eO3, DL.w_eO4, DL.w_runO, DL.w_app, DL.w_putB, DL.w_plA, DL.w_aug, DL.w_pq, DL.w_par, DL.w_chain, DL.w_ints, DL.w_inN, DL.w_inC, DL.w_inM, DL.w_pIntI, DL.w_pIntB, DL.w_tupL, DL.w_tupT, DL.w_tupB, DL.w_rg2, DL.w_rng2, DL.w_evT, DL.w_evL, DL.w_evA0, DL.w_evA1, DL.w_tix, DL.w_a3, DL.w_pMax3, DL.w_pMin3, DL.w_rev, DL.w_revN, DL.w_revB, DL.w_ext, DL.w_rawN, DL.w_rawB, DL.w_plE, DL.w_intsB, DL.w_at3, DL.w_pBB, DL.w_putBS, DL.w_chain3, List.getElem?_cons_zero, List.getElem?_cons_succ, List.set_cons_zero, List.set_cons_succ, ↓reduceIte, Bool.false_eq_true]
  have e0 : ([] ++ [MC.lst ((ns.map PyData.int).map D.pu)])[([] : Sto).length]? = some (.lst ((ns.map PyData.int).map D.pu)) := rfl
  rw [eqR e0]
  refine ⟨by decide, by rw [hs]; rfl, ?_⟩
  simp only [DL.w_bind, DL.w_some, DL.w_none, DL.w_var, DL.w_slv, DL.w_slo, DL.w_P, DL.w_D, DL.w_x1, DL.w_x2, DL.w_xA, DL.w_nil, DL.w_cons, DL.w_ite_x, DL.w_isi, DL.w_tOfE, DL.w_bD, DL.w_tNot, DL.w_tAnd, DL.w_tOr, DL.w_and, DL.w_or, DL.w_seq, DL.w_qnx, DL.w_qrt, DL.w_qbk, DL.w_qct, DL.w_sNil, DL.w_sBreak, DL.w_sCont, DL.w_sDrop, DL.w_asg, DL.w_set, DL.w_ret, DL.w_retN, DL.w_if, DL.w_for, DL.w_fq, DL.w_fqo, DL.w_fqv, DL.w_nmP, DL.w_nmW, DL.w_nmR, DL.w_gnNil, DL.w_gtNil, DL.w_gnCons, DL.w_gtCons, DL.w_pwN, DL.w_pwP, DL.w_pwW, DL.w_gtLst, DL.w_gSubT, DL.w_s1, DL.w_s2, DL.w_pI, DL.w_pIB, DL.w_pNeg, DL.w_pAbs, DL.w_pDm, DL.w_a1, DL.w_a2, DL.w_add, DL.w_not, DL.w_ixL, DL.w_ixT, DL.w_ixB, DL.w_ixWL, DL.w_ixWT, DL.w_getT, DL.w_getL, DL.w_getB, DL.w_getW, DL.w_keyS, DL.w_keyI, DL.w_lkN, DL.w_lkC, DL.w_lenL, DL.w_lenT, DL.w_lenB, DL.w_puN, DL.w_puC, DL.w_puM, DL.w_tup, DL.w_lst, DL.w_list, DL.w_listC, DL.w_lstC, DL.w_seL, DL.w_seT, DL.w_seWL, DL.w_seWT, DL.w_seB, DL.w_eq, DL.w_callF, DL.w_callP, DL.w_runF, DL.w_eqn, DL.w_eqr, DL.w_runP, DL.w_epn, DL.w_epr, DL.w_lqn, DL.w_lqc, DL.w_lqb, DL.w_lqr, DL.w_rg, DL.w_rng1, DL.w_sl, DL.w_oN, DL.w_iQ, DL.w_oS, DL.w_gSlL, DL.w_gSlB, DL.w_gSlW, DL.w_disp, DL.w_lc, DL.w_setLc, DL.w_puQ, DL.w_yes, DL.w_itN, DL.w_imL, DL.w_imT, DL.w_imWL, DL.w_imWT, DL.w_zqT, DL.w_zqL, DL.w_bls, DL.w_tyN, DL.w_tyB, DL.w_tyI, DL.w_tyS, DL.w_tyL, DL.w_tyT, DL.w_tyD, DL.w_isNN, DL.w_isNI, DL.w_isNB, DL.w_isNS, DL.w_isNT, DL.w_isNL, DL.w_evB, DL.w_evI, DL.w_shI, DL.w_shB, DL.w_shN, DL.w_wrI, DL.w_wrT, DL.w_wrL, DL.w_at0, DL.w_at1, DL.w_at2, DL.w_nmN, DL.w_listN, DL.w_limR, DL.w_lstN, DL.w_seN, DL.w_lsL, DL.w_lsB, DL.w_lsN, DL.w_catN, DL.w_addL, DL.w_addT, DL.w_slN, DL.w_gSlN, DL.w_lcN, DL.w_rsN1, DL.w_rsN2, DL.w_rsZ1, DL.w_rsZ2, DL.w_callO, DL.w_callZ, DL.w_eO1, DL.w_eO2, DL.w_eO3, DL.w_eO4, DL.w_runO, DL.w_app, DL.w_putB, DL.w_plA, DL.w_aug, DL.w_pq, DL.w_par, DL.w_chain, DL.w_ints, DL.w_inN, DL.w_inC, DL.w_inM, DL.w_pIntI, DL.w_pIntB, DL.w_tupL, DL.w_tupT, DL.w_tupB, DL.w_rg2, DL.w_rng2, DL.w_evT, DL.w_evL, DL.w_evA0, DL.w_evA1, DL.w_tix, DL.w_a3, DL.w_pMax3, DL.w_pMin3, DL.w_rev, DL.w_revN, DL.w_revB, DL.w_ext, DL.w_rawN, DL.w_rawB, DL.w_plE, DL.w_intsB, DL.w_at3, DL.w_pBB, DL.w_putBS, DL.w_chain3, List.getElem?_cons_zero, List.getElem?_cons_succ, List.set_cons_zero, List.set_cons_succ, ↓reduceIte, Bool.false_eq_true]
  cases ns with
  | nil =>
    simp [PyData.eqv, PyData.eqvAll]
    refine ⟨⟨rfl, by decide⟩, rfl, rfl, 2, 1, [7], _, ⟨rfl, rfl⟩, ?_, rfl, by decide, by decide, by decide, ?_⟩
    · rw [dm_ct]
      rfl
    · rw [dm_ct]
      rfl
  | cons x r =>
    simp [PyData.eqv, PyData.eqvAll]
    refine ⟨rfl, rfl, 1, 0, x :: r, _, ⟨rfl, rfl⟩, ?_, rfl, by simp, h, by decide, ?_⟩
    · rw [dm_ct]
      rfl
    · rw [dm_ct]
      show (flatM (.lst (D.pu (.int x) :: r.map (D.pu ∘ PyData.int))) && (flatM _ && true)) = true
      rw [show flatM (.lst (D.pu (.int x) :: r.map (D.pu ∘ PyData.int))) = true from flat_ints (x :: r)]
      rfl
theorem begin_pu {ns : List Int} (h : ns.length ≤ 63) : W (m__law_begin [.pu (.list (ns.map .int))] []) fun r => ∃ n c cells S', r = (.rf n, S') ∧ StA S' n c cells 0 :=
  begin_go h fun Q q => w_gSlL.mpr (q _ rfl)
theorem begin_wr {ns : List Int} (h : ns.length ≤ 63) : W (m__law_begin [.wr (.list (ns.map .int))] []) fun r => ∃ n c cells S', r = (.rf n, S') ∧ StA S' n c cells 0 :=
  begin_go h fun Q q => w_gSlW.mpr (q _ rfl)
/-- a state of the draws, its numbers left out -/
def St (S : Sto) (n : Nat) (T : Int) : Prop := ∃ c cells t, StA S n c cells t ∧ t ≤ T
theorem St.fl {S : Sto} {n : Nat} {T : Int} (h : St S n T) : flatS S = true := let ⟨_, _, _, h, _⟩ := h; h.fl
theorem take_st {S : Sto} {n : Nat} {T m : Int} (h : St S n T) (hm : 0 < m) (hm2 : m < 1073741824) (hT : T < 1000000) {Q : D × Sto → Prop} (q : ∀ v S', 0 ≤ v → v < m → St S' n (T + 1) → Q (.pu (.int v), S')) : W (m__law_take [.rf n, .pu (.int m)] S) Q := by
  obtain ⟨c, cells, t, h, ht⟩ := h
  refine (take_ok h hm hm2 (by omega)).imp fun r hr => ?_
  obtain ⟨v, cells', S', rfl, h1, h2, h3, _⟩ := hr
  exact q v S' h1 h2 ⟨c, cells', _, h3, by omega⟩
theorem at3 {α : Type} {a b c : α} {k : Int} {Q : α → Prop} (h0 : 0 ≤ k) (h1 : k < 3) (qa : Q a) (qb : Q b) (qc : Q c) : W (atI [a, b, c] k) Q := by
  rcases (show k = 0 ∨ k = 1 ∨ k = 2 by omega) with rfl | rfl | rfl
  · exact ⟨_, rfl, qa⟩
  · exact ⟨_, rfl, qb⟩
  · exact ⟨_, rfl, qc⟩
theorem at2 {α : Type} {a b : α} {k : Int} {Q : α → Prop} (h0 : 0 ≤ k) (h1 : k < 2) (qa : Q a) (qb : Q b) : W (atI [a, b] k) Q := by
  rcases (show k = 0 ∨ k = 1 by omega) with rfl | rfl
  · exact ⟨_, rfl, qa⟩
  · exact ⟨_, rfl, qb⟩
theorem at4 {α : Type} {a b c d : α} {k : Int} {Q : α → Prop} (h0 : 0 ≤ k) (h1 : k < 4) (qa : Q a) (qb : Q b) (qc : Q c) (qd : Q d) : W (atI [a, b, c, d] k) Q := by
  rcases (show k = 0 ∨ k = 1 ∨ k = 2 ∨ k = 3 by omega) with rfl | rfl | rfl | rfl
  · exact ⟨_, rfl, qa⟩
  · exact ⟨_, rfl, qb⟩
  · exact ⟨_, rfl, qc⟩
  · exact ⟨_, rfl, qd⟩
theorem St.mono {S : Sto} {n : Nat} {T T' : Int} (h : St S n T) (l : T ≤ T') : St S n T' := let ⟨c, cells, t, h1, h2⟩ := h; ⟨c, cells, t, h1, by omega⟩
end DL
/-! DMI: sorted(set(x)) of a list of whole numbers. -/
namespace DL
open PySem PySem.Spec PyProof.Rows L2
section
variable {P : Program} {w : World} {A : Around} {E : Value → Shared → Prop} {s : Shared}
abbrev bareSet (w : World) : Obj := { cls := .type "set", dict := none, data := .set #[] 0 (.fresh 0 0 (!w.params.followText "set-order")) }
/-- set(l) of a list of ints -/
theorem call_setL {l : Addr} {items : Array Value} (ns : List Int) {Q : Value → Shared → Prop} (hh : A.handled = none) (hl : s.heap.IsList l items) (hit : IntsAre items.toList ns) (hb : ns.length + 1 < scanBound)
    (h : ∀ (h' : Heap) (tk c : Nat), SetR w h' s.heap.objs.size (fun j => decide (j ∈ ns)) c → (∀ b o, s.heap.get? b = some o → h'.get? b = some o) → Q (.ref s.heap.objs.size) { s with heap := h', toks := tk }) :
    wpAny (model P w) A (call (.type "set") [.ref l]) Q E s := by
  have hisz : items.size = ns.length := by
    have q := IntsAre.length hit
    rwa [Array.length_toList] at q
  obtain ⟨c, tl, hmro⟩ := F.called_set.mro
  have hmade := F.called_set.made
  have hsub := F.called_set.sub
  refine wpAny_call (codeAny_of_tree ?_)
  show wpAny _ _ (callAny (.type "set") _) _ _ _
  refine wpAny_pure ⟨Code.quiet_builtin _ (by decide +kernel), codeAny_builtin F.entry_type_call ?_⟩
  rw [Around.under_plain (weight_type_call_type "set" [.ref l] []) rfl]
  have h1 := F.called_set.notType
  have h2 := F.called_set.canCreate
  have hct := F.typeCall_set_1 (.ref l)
  repeat (any_goals (first | assumption | wp_step))
  refine codeAny_mono (code_set_led1 (.ref l) (E := E) (Q₁ := fun obj s₁ => obj = .ref s.heap.objs.size ∧ s₁ = { s with heap := s.heap.push (bareSet w) }) ⟨rfl, rfl⟩) fun r s₁ hr => ?_
  cases r with
  | error e => exact hr
  | ok fl =>
    cases fl with
    | ret obj =>
      obtain ⟨rfl, rfl⟩ := hr
      have hS : (s.heap.push (bareSet w)).get? s.heap.objs.size = some (bareSet w) := Heap.get?_push_size _ rfl
      have hT : Shared.TypeIs { s with heap := s.heap.push (bareSet w) } (.ref s.heap.objs.size) "set" := ⟨_, hS, rfl⟩
      have hli := F.called_set.init.lookup
      have hbi := F.called_set.init.bind (.ref s.heap.objs.size)
      repeat (any_goals (first | assumption | wp_step))
      refine codeAny_mono (codeAny_call_builtin (R := wants (fun r s₂ => r = .none ∧ ∃ h' tk c, s₂ = { s with heap := h', toks := tk } ∧ SetR w h' s.heap.objs.size (fun j => decide (j ∈ ns)) c ∧ (∀ b o, s.heap.get? b = some o → h'.get? b = some o)) E) F.called_set.init.plain F.entry_set_init (check_set_init_1 hT ?_)) fun r₂ s₂ hr₂ => ?_
      · obtain ⟨⟨ocls, odict, odata, oslots⟩, hol, hcl, nl, hdl⟩ := hl
        simp only at hcl hdl
        subst hcl; subst hdl
        have hol' : (s.heap.push (bareSet w)).get? l = some { cls := .type "list", dict := odict, data := .seq items nl, slots := oslots } := Heap.get?_push_of_some _ hol
        have hsls := F.sub_list_set
        have hslf := F.sub_list_frozenset
        have hne : (Value.type "list" == Value.type "dict") = false := by decide
        have hl1 : (s.heap.push (bareSet w)).IsList l items := ⟨_, hol', rfl, nl, rfl⟩
        unfold Builtin.«set.__init__» noKeywords Builtin.Frozenset.updateFrom
        generalize hPI : pyIter = PI
        wp_walk
        subst hPI
        refine wpAny_pyIter_list hl1 ?_
        refine wpAny_bind (wpAny_runValue ?_)
        have hlS : l < s.heap.objs.size := Heap.lt_size hol
        have hh3 : A.in1.in1.in1.handled = none := by simp [hh]
        have hz1 : (s.heap.push (bareSet w)).objs.size = s.heap.objs.size + 1 := Heap.size_push ..
        have hneI : l ≠ (s.heap.push (bareSet w)).objs.size := by rw [hz1]; exact Nat.ne_of_lt (Nat.lt_succ_of_lt hlS)
        have hSf : s.heap.objs.size ∉ [(s.heap.push (bareSet w)).objs.size, l] := by
          rw [hz1]
          simp only [List.mem_cons, List.mem_singleton, List.not_mem_nil, or_false, not_or]
          exact ⟨Nat.ne_of_lt (Nat.lt_succ_self _), Nat.ne_of_gt hlS⟩
        have hval : ∀ (i : Nat) (v : Value), items[i]? = some v → ∃ k t, ns[i]? = some k ∧ v = .int k t := fun i v hv => by
          have hi : i < ns.length := by rw [← hisz]; exact (Array.getElem?_eq_some_iff.mp hv).1
          obtain ⟨t, e⟩ := PyProof.Rows.IntsAre.int_at hit i v (by rw [Array.getElem?_toList]; exact hv)
          refine ⟨ns[i], t, List.getElem?_eq_getElem hi, ?_⟩
          rw [e, List.getD_eq_getElem?_getD, List.getElem?_eq_getElem hi]
          rfl
        refine set_update_ints ((Walks.list hh3 _ l hneI items).toS) s.heap.objs.size hSf ns hisz hb hval (items.size - 0) 0 _ (by omega) (Nat.zero_le _)
          ⟨⟨_, Heap.get?_push_size _ rfl, rfl, rfl⟩, (hl1.push _)⟩ ⟨0, Nat.le_refl 0, setR_new_at (Heap.get?_push_of_some _ hS)⟩ ?_
        intro s' c' hm _ hS'
        obtain ⟨h', g2, d', tk', os'⟩ := s'
        have eg : g2 = s.gens := hm.gens
        have ed : d' = s.drawn := hm.drawn
        have eo : os' = s.os := hm.os
        subst eg; subst ed; subst eo
        refine wpAny_pure ?_
        show wpAny _ _ (ret Value.none) _ _ _
        refine wpAny_pure ⟨rfl, h', tk', c', rfl, hS', fun b o e => ?_⟩
        have hb0 : b < s.heap.objs.size := Heap.lt_size e
        exact hm.heap b o (by
          rw [hz1]
          simp only [List.mem_cons, List.mem_singleton, List.not_mem_nil, or_false, not_or]
          exact ⟨Nat.ne_of_lt hb0, Nat.ne_of_lt (Nat.lt_succ_of_lt hb0)⟩) (Heap.get?_push_of_some _ (Heap.get?_push_of_some _ e))
      · cases r₂ with
        | error e => exact hr₂
        | ok fl₂ =>
          cases fl₂ with
          | ret r =>
            obtain ⟨rfl, h', tk, c', rfl, hS', hk'⟩ := hr₂
            repeat (any_goals (first | assumption | wp_step))
            exact h _ _ _ hS' hk'
          | _ => exact hr₂.elim
    | _ => exact hr.elim
end
end DL
/-! DMJ: sorted(set(x)) as a rule of the walk. -/
namespace DL
open PySem PySem.Spec PyProof.Rows L2
/-- the numbers of a list, rising, each once -/
def sset (ns : List Int) : List Int := ns.eraseDups.mergeSort fun a b => decide (a ≤ b)
theorem dups_nd : ∀ ns : List Int, ns.eraseDups.Nodup := fun ns => by
  induction h : ns.length using Nat.strongRecOn generalizing ns with
  | ind n ih =>
    cases ns with
    | nil => exact List.nodup_nil
    | cons a r =>
      rw [List.eraseDups_cons, List.nodup_cons]
      subst h
      refine ⟨fun m => ?_, ih _ ?_ _ rfl⟩
      · have := List.mem_eraseDups.mp m
        simp at this
      · rw [List.length_cons]
        exact Nat.lt_succ_of_le (List.length_filter_le ..)
theorem sset_mem {ns : List Int} {k : Int} : k ∈ sset ns ↔ k ∈ ns := by
  unfold sset
  rw [List.mem_mergeSort, List.mem_eraseDups]
theorem sset_rise (ns : List Int) : (sset ns).Pairwise (· < ·) := by
  have p := List.pairwise_mergeSort (le := fun a b : Int => decide (a ≤ b)) (fun a b c h k => by
    rw [decide_eq_true_eq] at *
    omega) (fun a b => by
    rw [Bool.or_eq_true, decide_eq_true_eq, decide_eq_true_eq]
    omega) ns.eraseDups
  have n : (sset ns).Nodup := (List.mergeSort_perm _ _).nodup_iff.mpr (dups_nd ns)
  refine (List.pairwise_and_iff.mpr ⟨p, n⟩).imp fun {a b} h => ?_
  obtain ⟨h1, h2⟩ := h
  rw [decide_eq_true_eq] at h1
  have h2 : a ≠ b := h2
  omega
theorem sset_is {ns xs : List Int} (h : xs.Pairwise (· < ·)) (hm : ∀ k, k ∈ xs ↔ k ∈ ns) : xs = sset ns :=
  rising_eq (r := fun a b : Int => a < b) (fun a h => Int.lt_irrefl a h) (fun a b c h k => Int.lt_trans h k) h (sset_rise ns) fun k => by rw [hm, sset_mem]
theorem nd_le : ∀ {xs ys : List Int}, xs.Nodup → (∀ x ∈ xs, x ∈ ys) → xs.length ≤ ys.length
  | [], _, _, _ => Nat.zero_le _
  | x :: xs, ys, nd, h => by
    rw [List.nodup_cons] at nd
    have m := h x List.mem_cons_self
    have := nd_le (ys := ys.erase x) nd.2 fun y hy => (List.mem_erase_of_ne (fun e => nd.1 (by rw [← e]; exact hy))).mpr (h y (List.mem_cons_of_mem _ hy))
    rw [List.length_erase_of_mem m] at this
    have := List.length_pos_of_mem m
    rw [List.length_cons]
    omega
section
variable {X : Cx} {G : Gx}
def tSortSet (K : PySem.W.Frag) (ta : TE) : TE := fun σ H Q => ta σ H fun x H1 => ∃ (l : Addr) (ns : List Int), x = .ref l ∧ SqL K H1 l (ns.map V.int) ∧ ns.length ≤ 4000 ∧ (sset ns).length < 64 ∧ ∀ p, H1 p = none → Q (.ref p) (upd H1 p (.lst ((sset ns).map V.int)))
theorem pe_sortSet {a : Expr} {ta : TE} {p p2 q pos : Pos} (hc : X.calm = true) (hg : Gl X "sorted") (hm : X.mg "sorted" = none) (hg2 : Gl X "set") (hm2 : X.mg "set" = none) (ha : PE X a ta)
    (na : starEach [a] X.env = (false, eval a X.env) :: starEach [] X.env := by rfl) (ns : starEach [.Call (.Name "set" p2) [a] [] q] X.env = (false, eval (.Call (.Name "set" p2) [a] [] q) X.env) :: starEach [] X.env := by rfl) (hpl : (backTo pos (starEach [] X.env)).any (·.1) = false := by rfl) :
    PE X (.Call (.Name "sorted" p) [.Call (.Name "set" p2) [a] [] q] [] pos) (tSortSet X.K ta) := by
  refine ⟨fun pins s σ H Q I h => ?_⟩
  refine wpAny_Call_Name_kw (ld_blt I hg hm rfl ?_)
  refine PyProof.Rows.callWith_builtin1 ?_ ns hpl
  rw [ns]
  show wpAny _ _ (spliced ((false, eval (.Call (.Name "set" p2) [a] [] q) X.env) :: backTo pos (starEach [] X.env))) _ _ s
  refine Calls.spliced_cons ?_
  refine wpAny_Call_Name_kw (ld_blt I hg2 hm2 rfl ?_)
  refine PyProof.Rows.callWith_type1 ?_ na rfl
  rw [na]
  show wpAny _ _ (spliced ((false, eval a X.env) :: backTo q (starEach [] X.env))) _ _ s
  refine Calls.spliced_cons (thn (ha.run pins s σ H _ I h) fun v s1 ⟨x, H1, I1, r1, q1⟩ => ?_)
  obtain ⟨l, xs, rfl, hq, hl, h64, q1⟩ := q1
  cases r1
  obtain ⟨its, r, pl, hz⟩ := I1.list hq
  refine Calls.spliced_nil ?_
  refine call_setL xs (I1.ok.hd hc) pl.isList (by simpa using ints_of_vals r) (by unfold scanBound; omega) fun h' tk c R hk => ?_
  have hc64 : c < 64 := by
    obtain ⟨o, es, ep, t, _, _, _, _, nd, hm, _, _, hn, _⟩ := R
    have h1 := nd_le nd fun k hk => sset_mem.mpr (of_decide_eq_true ((hm k).mpr hk))
    rw [List.length_map, Array.length_toList] at h1
    omega
  refine Calls.spliced_nil ?_
  refine sorted_set R (I1.ok.hd hc) hc64 fun s' b out c' ms k g o hp hg hi hr hmm hln => ?_
  have e1 : ms = sset xs := sset_is hr fun k => by rw [hmm, decide_eq_true_eq]
  subst e1
  have I2 : Inv X pins σ H1 { s1 with heap := h', toks := tk } := I1.kept hk
  have hn : H1 b = none := I2.hok.fresh hp
  have hlen : ((sset xs).map V.int).length ≤ sizeLine := by rw [List.length_map, sizeLine_eq]; omega
  have J : Inv X pins σ (upd H1 b (.lst ((sset xs).map V.int))) { ({ s1 with heap := h', toks := tk } : Shared) with heap := s'.heap, gens := s'.gens, drawn := s'.drawn, toks := s'.toks } :=
    I2.call (ch := []) (Un.laid k hp hn) (I2.hok.laid k hp ⟨hlen, out.toList, c', vals_of_ints hi, hg⟩) (by rw [g]; exact I2.bare) (fun _ z => nomatch z)
  have e : s' = { s1 with heap := s'.heap, gens := s'.gens, drawn := s'.drawn, toks := s'.toks } := by
    cases s'
    cases s1
    cases o
    rfl
  rw [e]
  exact ⟨.ref b, _, J, rfl, q1 b hn⟩
/-- sorted(set(x)) -/
def xSSet (x : Ex) : Ex := fun e S => (x e S).bind fun r => match seqD r.1 r.2 with
  | some (false, ds) => (intsOf ds).bind fun ns => if (decide (ns.length ≤ 4000) && decide ((sset ns).length < 64)) = true then some (.pu (.list ((sset ns).map .int)), r.2) else none
  | _ => none
theorem rep_is : ∀ {H : Hp} (ns : List Int), RepL H (ns.map V.int) (ns.map PyData.int)
  | _, [] => .nil
  | _, n :: ns => .cons (.int n) (rep_is ns)
theorem d_sortSet {a : Expr} {xa : Ex} {p p2 q pos : Pos} (hK : X.K = G.K) (hc : X.calm = true) (ha : DE X G a xa) (hg : Gl X "sorted") (hm : X.mg "sorted" = none) (hg2 : Gl X "set") (hm2 : X.mg "set" = none)
    (na : starEach [a] X.env = (false, eval a X.env) :: starEach [] X.env := by rfl) (ns : starEach [.Call (.Name "set" p2) [a] [] q] X.env = (false, eval (.Call (.Name "set" p2) [a] [] q) X.env) :: starEach [] X.env := by rfl) (hpl : (backTo pos (starEach [] X.env)).any (·.1) = false := by rfl) :
    DE X G (.Call (.Name "sorted" p) [.Call (.Name "set" p2) [a] [] q] [] pos) (xSSet xa) :=
  pe_mono (pe_gh (pe_sortSet hc hg hm hg2 hm2 ha na ns hpl)) fun σ H Q hw => by
    obtain ⟨e, S, f, r, d, S', hx, q⟩ := hw
    obtain ⟨⟨d0, S0⟩, h0, hx⟩ := Option.bind_eq_some_iff.mp hx
    refine ⟨e, S, f, r, d0, S0, h0, fun v0 H0 f0 r0 n0 p0 => ?_⟩
    dsimp only at hx
    cases hs : seqD d0 S0 with
    | none => rw [hs] at hx; cases hx
    | some kd =>
      obtain ⟨k, ds⟩ := kd
      rw [hs] at hx
      cases k with
      | true => cases hx
      | false =>
        obtain ⟨is, h1, h2⟩ := Option.bind_eq_some_iff.mp hx
        obtain ⟨a, vs, rfl, ht, hl, hp⟩ := seq_ok r0 p0 hs
        have e1 := intsOf_ok hp h1
        subst e1
        by_cases hC : (decide (is.length ≤ 4000) && decide ((sset is).length < 64)) = true
        · rw [if_pos hC] at h2
          cases h2
          rw [Bool.and_eq_true, decide_eq_true_eq, decide_eq_true_eq] at hC
          exact ⟨a, is, rfl, by rw [hK]; exact hl rfl, hC.1, hC.2, fun l nl => lst_fin nl (rep_is _) fun v H' s rv => q v H' f0 (r0.same s) (n0.trans (.of s _ _)) rv⟩
        · rw [if_neg hC] at h2
          cases h2
end
end DL
/-! DMC: {} as a cell. -/
namespace DL
open PySem PySem.Spec PyProof.Rows L2
section
variable {X : Cx} {G : Gx} {σ : L2.St} {H : Hp} {e : Envi} {S : Sto} {f : Nat → Addr}
def xDct : Ex := fun _ S => some (.rf S.length, S ++ [.dct []])
theorem d_dct {pos : Pos} : DE X G (.Dict [] [] pos) xDct := pe_mono (pe_gh pe_dnewT) fun σ H Q hw => by
  obtain ⟨e, S, f, r, d, S', hx, q⟩ := hw
  cases hx
  refine fun p np => .inl ?_
  have ra := r.alloc (o := .dT []) (c := .dct []) np ⟨[], .inr ⟨[], upd_same, rfl⟩, .nil, rfl⟩
  have nx := nx_alloc (f := f) (o := .dT []) S.length np
  rw [← len1 S (.dct [])] at nx
  exact q (.ref p) _ _ ra nx ⟨by rw [put1_at], by rw [len1]; omega⟩
end
end DL
/-! DMN: objects with fields, their making, their methods. -/
namespace DL
open PySem PySem.Spec PyProof.Rows L2
/-- what of the text a class with these fields must have -/
def ClsD (K : PySem.W.Frag) (cl : Str → Option Addr) (c f : Str) : Prop := ∀ C, cl c = some C → Cls K C ∧ NoAttr K C f
def fput (f : Str) (d : D) : List (Str × D) → List (Str × D)
  | [] => [(f, d)]
  | (g, x) :: r => if g = f then (g, d) :: r else (g, x) :: fput f d r
theorem fput_keys (f : Str) (v : V) (d : D) : ∀ {us : List (Str × V)} {fs : List (Str × D)}, us.map (·.1) = fs.map (·.1) → (putF f v us).map (·.1) = (fput f d fs).map (·.1)
  | [], [], _ => rfl
  | (g, x) :: us, (g', y) :: fs, h => by
    have h1 : g = g' ∧ us.map (·.1) = fs.map (·.1) := by simpa using h
    obtain ⟨rfl, h2⟩ := h1
    unfold putF fput
    by_cases c : g = f
    · rw [if_pos c, if_pos c, List.map_cons, List.map_cons, h2]
    · rw [if_neg c, if_neg c, List.map_cons, List.map_cons, fput_keys f v d h2]
theorem fput_pair {F : V → D → Prop} (f : Str) {v : V} {d : D} (hv : F v d) : ∀ {us : List (Str × V)} {fs : List (Str × D)}, us.map (·.1) = fs.map (·.1) → Paired F (us.map (·.2)) (fs.map (·.2)) → Paired F ((putF f v us).map (·.2)) ((fput f d fs).map (·.2))
  | [], [], _, _ => .cons hv .nil
  | (g, x) :: us, (g', y) :: fs, h, .cons p t => by
    have h1 : g = g' ∧ us.map (·.1) = fs.map (·.1) := by simpa using h
    obtain ⟨rfl, h2⟩ := h1
    unfold putF fput
    by_cases c : g = f
    · rw [if_pos c, if_pos c]
      exact .cons hv t
    · rw [if_neg c, if_neg c]
      exact .cons p (fput_pair f hv h2 t)
theorem fld_look {F : V → D → Prop} (f : Str) : ∀ {us : List (Str × V)} {fs : List (Str × D)}, us.map (·.1) = fs.map (·.1) → Paired F (us.map (·.2)) (fs.map (·.2)) → (∀ d, fs.lookup f = some d → ∃ v, us.lookup f = some v ∧ F v d) ∧ (fs.lookup f = none → us.lookup f = none)
  | [], [], _, _ => ⟨fun d h => (by cases h), fun _ => rfl⟩
  | (g, x) :: us, (g', y) :: fs, h, .cons p t => by
    have h1 : g = g' ∧ us.map (·.1) = fs.map (·.1) := by simpa using h
    obtain ⟨rfl, h2⟩ := h1
    obtain ⟨i1, i2⟩ := fld_look f h2 t
    by_cases c : (f == g) = true
    · refine ⟨fun d hd => ?_, fun hd => ?_⟩
      · rw [List.lookup_cons, c] at hd ⊢
        cases hd
        exact ⟨x, rfl, p⟩
      · rw [List.lookup_cons, c] at hd
        cases hd
    · have c' : (f == g) = false := by simpa using c
      refine ⟨fun d hd => ?_, fun hd => ?_⟩
      · rw [List.lookup_cons, c'] at hd ⊢
        exact i1 d hd
      · rw [List.lookup_cons, c'] at hd ⊢
        exact i2 hd
section
variable {X : Cx} {G : Gx} {σ : L2.St} {H : Hp} {e : Envi} {S : Sto} {f : Nat → Addr}
/-! ### a field -/
def objD (c : Str) (d : D) (S : Sto) : Option (Nat × List (Str × D)) := match d with
  | .rf n => match S[n]? with
    | some (.obj c' fs) => if c' = c then some (n, fs) else none
    | _ => none
  | _ => none
theorem obj_ok (r : R G σ H e S f) {c : Str} {d : D} {v : V} {n : Nat} {fs : List (Str × D)} (h : RE G σ H e f S.length v d) (ho : objD c d S = some (n, fs)) :
    d = .rf n ∧ S[n]? = some (.obj c fs) ∧ n < S.length ∧ v = .ref (f n) ∧ ∃ C dx us, G.cl c = some C ∧ H (f n) = some (.ins C dx us) ∧ Paired (RD G.K H f S.length) (us.map (·.2)) (fs.map (·.2)) ∧ us.map (·.1) = fs.map (·.1) := by
  unfold objD at ho
  cases d with
  | rf m =>
    dsimp only at ho
    cases hc : S[m]? with
    | none => rw [hc] at ho; cases ho
    | some cc =>
      rw [hc] at ho
      cases cc with
      | obj c' fs' =>
        dsimp only at ho
        by_cases k : c' = c
        · rw [if_pos k] at ho
          cases ho
          subst k
          obtain ⟨e1, l⟩ := (show v = .ref (f n) ∧ n < S.length from h)
          exact ⟨rfl, hc, l, e1, r.cel n _ hc⟩
        · rw [if_neg k] at ho
          cases ho
      | _ => cases ho
  | _ => cases ho
def xFld (c : Str) (x : Ex) (fl : Str) : Ex := fun e S => (x e S).bind fun r => (objD c r.1 r.2).bind fun q => (q.2.lookup fl).bind fun d => some (d, r.2)
theorem d_fld {c fl : Str} {a : Expr} {xa : Ex} {pos : Pos} (hK : X.K = G.K) (hC : ClsD G.K G.cl c fl) (ha : DE X G a xa) (hb : attributeBase a fl X.env (eval a X.env) = eval a X.env := by rfl) : DE X G (.Attribute a fl pos) (xFld c xa fl) :=
  pe_mono (pe_fld ha hb) fun σ H Q hw => by
    obtain ⟨e, S, f, r, d, S', hx, q⟩ := hw
    obtain ⟨⟨d1, S1⟩, h1, hx⟩ := Option.bind_eq_some_iff.mp hx
    obtain ⟨⟨n, fs⟩, h2, hx⟩ := Option.bind_eq_some_iff.mp hx
    obtain ⟨d2, h3, hx⟩ := Option.bind_eq_some_iff.mp hx
    cases hx
    refine ⟨e, S, f, r, d1, S1, h1, fun v H1 f1 r1 n1 p1 => ?_⟩
    obtain ⟨rfl, hc, l, rfl, C, dx, us, g1, g2, g3, g4⟩ := obj_ok r1 p1 h2
    obtain ⟨v2, k1, k2⟩ := (fld_look fl g4 g3).1 d h3
    obtain ⟨c1, c2⟩ := hC C g1
    exact ⟨f1 n, C, dx, us, v2, rfl, g2, by rw [hK]; exact c1, by rw [hK]; exact c2, k1, q v2 H1 f1 r1 n1 (RD.re k2)⟩
def sFldX (c fl : Str) (xo xv : Ex) : Sx := fun e S => (xv e S).bind fun r => (xo e r.2).bind fun q => (objD c q.1 q.2).bind fun o => if noBo [r.1] && decide (o.2.length < 1000) then some (.nx e (q.2.set o.1 (.obj c (fput fl r.1 o.2)))) else none
theorem ds_fld {c fl : Str} {o a : Expr} {xo xv : Ex} {pos pos' : Pos} (hK : X.K = G.K) (hC : ClsD G.K G.cl c fl) (ho : DE X G o xo) (hv : DE X G a xv) (hs : swapsWith a (some (.Attribute o fl pos')) pos.line X.env = pure false := by rfl) : DS X G (.Assign [.Attribute o fl pos'] a pos) (sFldX c fl xo xv) :=
  ps_mono (ps_fld ho hv hs) fun T σ H hw => by
    obtain ⟨e, S, f, r, o, hx, q⟩ := hw
    obtain ⟨⟨d1, S1⟩, h1, hx⟩ := Option.bind_eq_some_iff.mp hx
    obtain ⟨⟨d2, S2⟩, h2, hx⟩ := Option.bind_eq_some_iff.mp hx
    obtain ⟨⟨n, fs⟩, h3, hx⟩ := Option.bind_eq_some_iff.mp hx
    dsimp only at hx
    by_cases k : (noBo [d1] && decide (fs.length < 1000)) = true
    · rw [if_pos k] at hx
      cases hx
      rw [Bool.and_eq_true, decide_eq_true_eq] at k
      refine ⟨e, S, f, r, d1, S1, h1, fun v1 H1 f1 r1 n1 p1 => ⟨e, S1, f1, r1, d2, S2, h2, fun v2 H2 f2 r2 n2 p2 => ?_⟩⟩
      obtain ⟨rfl, hc, l, rfl, C, dx, us, g1, g2, g3, g4⟩ := obj_ok r2 p2 h3
      obtain ⟨c1, c2⟩ := hC C g1
      have pv := re_rd (p1.nx n2) k.1
      have hlen : us.length < 1000 := by
        have := congrArg List.length g4
        simp only [List.length_map] at this
        omega
      have x := raw_ext (H := H2) (o' := .ins C dx (putF fl v1 us)) g2 trivial
      obtain ⟨r3, x3⟩ := r2.cel_set (c := .obj c (fput fl d1 fs)) (o' := .ins C dx (putF fl v1 us)) hc rfl
        ⟨C, dx, putF fl v1 us, g1, upd_same, fput_pair fl (RD.ext x pv) g4 (Paired.mapP g3 fun _ _ => RD.ext x), fput_keys fl v1 d1 g4⟩
      exact ⟨f2 n, C, dx, us, rfl, g2, by rw [hK]; exact c1, by rw [hK]; exact c2, hlen, q _ _ _ r3 ((n1.trans n2).ext.trans x3)⟩
    · rw [if_neg k] at hx
      cases hx
/-! ### C(..) -/
def gMake (c : Str) (m : List D → Sto → Option (D × Sto)) (ds : List D) (S : Sto) : Option (D × Sto) := if noBo ds then (m (.rf S.length :: ds) (S ++ [.obj c []])).bind fun r => match r.1 with
    | .pu .none => some (.rf S.length, r.2)
    | _ => none
  else none
theorem v_make {n : Nat} {c : Str} {C : Addr} {m : List D → Sto → Option (D × Sto)} {E : XK} (hC : G.cl c = some C) (hl : ∀ ds S r, m ds S = some r → ds.length = n) :
    VA G (fun vs H Q => ∀ x dx, H x = none → H dx = none → dx ≠ x → SpF G.K G.cl n m (.ref x :: (vs ++ [])) (upd (upd H dx (.own x)) x (.ins C dx [])) (fun v H2 => v = .non ∧ Q (.ref x) H2) E) (gMake c m) := by
  intro σ H e S f vs ds d S' Q r0 rs hg q x dx hx hdx hne
  unfold gMake at hg
  by_cases k : noBo ds = true
  · rw [if_pos k] at hg
    obtain ⟨⟨d1, S1⟩, h1, hg⟩ := Option.bind_eq_some_iff.mp hg
    have hd : d1 = .pu .none ∧ d = .rf S.length ∧ S' = S1 := by
      dsimp only at hg
      split at hg
      · cases hg
        exact ⟨rfl, rfl, rfl⟩
      · cases hg
    obtain ⟨rfl, rfl, rfl⟩ := hd
    · have s1 := upd_new (o := .own x) hdx
      have r1 := r0.same s1
      have hx1 : upd H dx (.own x) x = none := by rw [upd_ne (fun z => hne z.symm)]; exact hx
      have nx1 := (Nx.of s1 f S.length).trans (nx_alloc (H := upd H dx (.own x)) (f := f) (o := .ins C dx []) S.length hx1)
      have r2 := r1.alloc (o := .ins C dx []) (c := .obj c []) hx1 ⟨C, dx, [], hC, upd_same, .nil, rfl⟩
      rw [← len1 S (.obj c [])] at nx1
      have pr : Paired (RD G.K (upd (upd H dx (.own x)) x (.ins C dx [])) (put1 f S.length x) (S ++ [MC.obj c []]).length) (.ref x :: vs) (.rf S.length :: ds) :=
        .cons ⟨by rw [put1_at], by rw [len1]; omega⟩ (Paired.mapP (re_rds rs k) fun _ _ => RD.nx nx1)
      rw [List.append_nil]
      refine ⟨(Paired.length pr).trans (hl _ _ _ h1), put1 f S.length x, S ++ [.obj c []], _, .pu .none, S', pr, Cells.re (G := G) (G' := ⟨G.K, G.cl, _, _, _⟩) rfl rfl r2.cells, h1, fun v H' f' cc nn rd => ⟨?_, .inl ?_⟩⟩
      · cases (show Rep H' v .none from rd)
        rfl
      · have r3 := r2.nx nn (Cells.re (G := ⟨G.K, G.cl, upd (upd H dx (HO.own x)) x (HO.ins C dx []), (S ++ [MC.obj c []]).length, put1 f S.length x⟩) (G' := G) rfl rfl cc)
        have e1 : f' S.length = x := by
          rw [nn.ag S.length (by rw [len1]; omega), put1_at]
        exact q _ H' f' r3 (nx1.trans nn) ⟨by rw [e1], Nat.lt_of_lt_of_le (by rw [len1]; omega) nn.le⟩
  · rw [if_neg k] at hg
    cases hg
/-- a class of the text, as it is made -/
structure CalleeC (Pg : Program) (w : World) (K : PySem.W.Frag) (mg : Str → Option Value) (base : Heap) (cl : Str → Option Addr) (k : Nat) (c : Str) (ps : List Str) (sp : Sp) : Prop where
  ex : ∃ C g fd, cl c = some C ∧ mg c = some (.ref C) ∧ Mk K C g ∧ FnOk Pg w K mg base CX0 k g fd ps sp ∧ Binds K fd ps []
/-- a method of the text -/
structure CalleeM (Pg : Program) (w : World) (K : PySem.W.Frag) (mg : Str → Option Value) (base : Heap) (cl : Str → Option Addr) (k : Nat) (c m : Str) (ps : List Str) (sp : Sp) : Prop where
  ex : ∃ C g fd, cl c = some C ∧ Cls K C ∧ Meth K C m g ∧ FnOk Pg w K mg base CX0 k g fd ps sp ∧ Binds K fd ps []
section
variable {k n : Nat} {ps : List Str} {x c m : Str} {p pos apos : Pos} {a o : Expr} {es : List Expr} {xa : Ax} {xo : Ex}
theorem d_make {mm : List D → Sto → Option (D × Sto)} (F : CalleeC X.prog X.w X.K X.mg X.base G.cl k c ps (SpF G.K G.cl n mm)) (hl : ∀ ds S r, mm ds S = some r → ds.length = n) (hr : Room (k + 1) X.A)
    (ha : DA X G (a :: es) xa) (hg : Gl X c := by rfl) (hdb : (c == ("__debug__" : Str)) = false := by decide) (he : starEach (a :: es) X.env = (false, eval a X.env) :: starEach es X.env := by rfl) (hpl : (backTo pos (starEach es X.env)).any (·.1) = false := by rfl) : DE X G (.Call (.Name c p) (a :: es) [] pos) (xA (gMake c mm) xa) := by
  obtain ⟨C, g, fd, h1, h2, M, F, hb⟩ := F
  exact pe_mono (pe_gh (pe_make M F hr hg h2 hb .nil pass0 ha hdb he hpl)) (tE.bA (v_make h1 hl))
def xMeth (c m : Str) (mm : List D → Sto → Option (D × Sto)) (xo : Ex) (xa : Ax) : Ex := fun e S => (xo e S).bind fun r => (objD c r.1 r.2).bind fun q => if q.2.lookup m = none then (xa e r.2).bind fun z => if noBo z.1 then mm (.rf q.1 :: z.1) z.2 else none else none
theorem d_meth {pl : Sem Bool} {mm : List D → Sto → Option (D × Sto)} (F : CalleeM X.prog X.w X.K X.mg X.base G.cl k c m ps (SpF G.K G.cl n mm)) (hl : ∀ ds S r, mm ds S = some r → ds.length = n) (hr : Room k X.A)
    (ho : DE X G o xo) (ha : DA X G (a :: es) xa)
    (hst : starEach (a :: es) X.env = (false, eval a X.env) :: starEach es X.env := by rfl) (hpl : (backTo pos (starEach es X.env)).any (·.1) = false := by rfl)
    (ht : eval (.Call (.Attribute o m apos) (a :: es) [] pos) X.env = (do
      let ov ← eval o X.env
      standAt apos.atName
      let (f, first) ← holding [ov] (getMethod ov m pl)
      callWith pos f first (backTo pos (starEach (a :: es) X.env)) (backToKw pos (keywordEach [] X.env))) := by rfl) : DE X G (.Call (.Attribute o m apos) (a :: es) [] pos) (xMeth c m mm xo xa) := by
  obtain ⟨C, g, fd, h1, hc, M, F, hb⟩ := F
  refine pe_mono (pe_gh (pe_meth (pl := pl) ho hc M F hr hb .nil pass0 ha hst hpl ht)) fun σ H Q hw => ?_
  obtain ⟨e, S, f, r, d, S', hx, q⟩ := hw
  obtain ⟨⟨d1, S1⟩, h2, hx⟩ := Option.bind_eq_some_iff.mp hx
  obtain ⟨⟨j, fs⟩, h3, hx⟩ := Option.bind_eq_some_iff.mp hx
  dsimp only at hx
  by_cases k1 : fs.lookup m = none
  · rw [if_pos k1] at hx
    obtain ⟨⟨ds, S2⟩, h4, hxx⟩ := Option.bind_eq_some_iff.mp hx
    dsimp only at hxx
    by_cases k2 : noBo ds = true
    · rw [if_pos k2] at hxx
      refine ⟨e, S, f, r, d1, S1, h2, fun v H1 f1 r1 n1 p1 => ?_⟩
      obtain ⟨rfl, hcel, l, rfl, C', dx, us, g1, g2, g3, g4⟩ := obj_ok r1 p1 h3
      rw [h1] at g1
      cases g1
      refine ⟨f1 j, dx, us, rfl, g2, (fld_look m g4 g3).2 k1, e, S1, f1, r1, ds, S2, h4, fun vs H2 f2 r2 n2 p2 => ?_⟩
      show SpF G.K G.cl n mm (V.ref (f1 j) :: (vs ++ [])) H2 (GQ Q) E0
      rw [List.append_nil]
      have pr : Paired (RD G.K H2 f2 S2.length) (.ref (f1 j) :: vs) (.rf j :: ds) := .cons ⟨by rw [n2.ag j l], Nat.lt_of_lt_of_le l n2.le⟩ (re_rds p2 k2)
      refine ⟨(Paired.length pr).trans (hl _ _ _ hxx), f2, S2, _, d, S', pr, Cells.re (G := G) (G' := ⟨G.K, G.cl, H2, S2.length, f2⟩) rfl rfl r2.cells, hxx, fun v H' f' cc nn rd => .inl (q v H' f' (r2.nx nn (Cells.re (G := ⟨G.K, G.cl, H2, S2.length, f2⟩) (G' := G) rfl rfl cc)) ((n1.trans n2).trans nn) rd.re)⟩
    · rw [if_neg k2] at hxx
      cases hxx
  · rw [if_neg k1] at hx
    cases hx
end
end
/-! ### the law's own def, with classes about -/
def SpL (K : PySem.W.Frag) (m : List D → Sto → Option (D × Sto)) : Sp := fun vs H Q _ => vs.length = 1 ∧ ∃ ds S', Paired (RD K H (fun _ => 0) 0) vs ds ∧ m ds [] = some (.pu (.bool true), S') ∧ ∀ H', Q (.bl true) H'
theorem fn_law {Pg : Program} {w : World} {K : PySem.W.Frag} {mg : Str → Option Value} {base : Heap} {f : Addr} {fd : FuncData} {ps : List Str} {k : Nat} {cl : Str → Option Addr} {m : List D → Sto → Option (D × Sto)} (F : FnOk Pg w K mg base CX0 k f fd ps (SpF K cl 1 m)) : FnOk Pg w K mg base CX0 k f fd ps (SpL K m) :=
  F.imp fun vs H Q E h => by
    obtain ⟨hl, ds, S', hp, hm, q⟩ := h
    refine ⟨hl, fun _ => 0, [], ds, _, S', hp, Cells.nil, hm, fun v H' f' cc nn rd => ?_⟩
    cases (show Rep H' v (.bool true) from rd)
    exact q H'
theorem sp_lawL {K : PySem.W.Frag} {m : List D → Sto → Option (D × Sto)} (ok : scriptOk m) {H : Hp} {a : Addr} {ns : List Int} (hl : ns.length ≤ 63) (hO : Only H) (hS : SqL K H a (ns.map V.int)) : SpL K m [.ref a] H (fun v _ => v = .bl true) fun _ _ _ => False := by
  obtain ⟨⟨S1, h1⟩, S2, h2⟩ := ok ns hl
  rcases hS with h | ⟨o, its, n, h3, h4, h5, h6, h7, h8⟩
  · have h' : FzL H a (ns.map V.int) := by
      rcases h with h | ⟨o, h⟩
      · rcases hO a with z | ⟨o, xs, z⟩
        · rw [h] at z; cases z
        · rw [h] at z; cases z
      · exact ⟨o, h⟩
    exact ⟨rfl, _, S1, .cons (show RD K H (fun _ => 0) 0 (.ref a) (.pu (.list (ns.map .int))) from Rep.lst h' (RepL.of_ints ns)) .nil, h1, fun _ => rfl⟩
  · exact ⟨rfl, _, S2, .cons (show RD K H (fun _ => 0) 0 (.ref a) (.wr (.list (ns.map .int))) from RepW.lst h3 h4 h5 h6 h7 h8 (repw_ints ns)) .nil, h2, fun _ => rfl⟩
end DL
/-! DMO: lists lent to a call of a def of data alone with a scalar result. -/
namespace DL
open PySem PySem.Spec PyProof.Rows L2
mutual
def lendD : Nat → Sto → D → Option P
  | _, _, .pu p => some p
  | _, _, .bo _ c => some (frzP c)
  | k, S, .rf n => lendR k S n
  | _, _, _ => none
def lendR : Nat → Sto → Nat → Option P
  | 0, _, _ => none
  | k + 1, S, n => match S[n]? with
    | some (.lst ds) => (lendDs k S ds).map .list
    | some (.tup ds) => (lendDs k S ds).map .tuple
    | some (.fz p) => some p
    | _ => none
def lendDs : Nat → Sto → List D → Option (List P)
  | _, _, [] => some []
  | k, S, d :: ds => (lendD k S d).bind fun p => (lendDs k S ds).map (p :: ·)
end
def gCallPL (m : List P → Option P) (ds : List D) (S : Sto) : Option (D × Sto) := (lendDs 3 S ds).bind fun ps => (m ps).bind fun p => if scal p = true then some (.pu p, S) else none
section
variable {X : Cx} {G : Gx} {σ : L2.St} {H : Hp} {e : Envi} {S : Sto} {f : Nat → Addr}
/-- what is lent, and how it is read -/
def LendOk (H : Hp) (B : List Addr) (vs : List V) (ps : List P) : Prop := B.Nodup ∧ (∀ b ∈ B, ∃ u, H b = some u ∧ Mut (some u)) ∧ ∀ Hl, Ext0 H Hl → (∀ b ∈ B, ∃ od u, H b = some u ∧ Hl b = some (.frz od u)) → RepL Hl vs ps
theorem LendOk.nil : LendOk H [] [] [] := ⟨List.nodup_nil, fun b hb => (by cases hb), fun _ _ _ => .nil⟩
theorem LendOk.join {B1 B2 : List Addr} {vs ws : List V} {ps qs : List P} (h1 : LendOk H B1 vs ps) (h2 : LendOk H B2 ws qs) : ∃ B, LendOk H B (vs ++ ws) (ps ++ qs) := by
  refine ⟨B1 ++ B2.filter (fun b => !decide (b ∈ B1)), ?_, fun b hb => ?_, fun Hl x hb => ?_⟩
  · rw [List.nodup_append]
    refine ⟨h1.1, h2.1.filter _, fun a ha b hb e => ?_⟩
    have := (List.mem_filter.mp hb).2
    simp at this
    exact this (e ▸ ha)
  · rcases List.mem_append.mp hb with z | z
    · exact h1.2.1 b z
    · exact h2.2.1 b (List.mem_filter.mp z).1
  · refine RepL.append (h1.2.2 Hl x fun b hb' => hb b (List.mem_append_left _ hb')) (h2.2.2 Hl x fun b hb' => ?_)
    by_cases c : b ∈ B1
    · exact hb b (List.mem_append_left _ c)
    · exact hb b (List.mem_append_right _ (List.mem_filter.mpr ⟨hb', by simpa using c⟩))
theorem LendOk.pure {v : V} {p : P} (r : Rep H v p) : LendOk H [] [v] [p] := ⟨List.nodup_nil, fun b hb => (by cases hb), fun Hl x _ => .cons (Rep.ext x r) .nil⟩
theorem LendOk.cell {b : Addr} {u : HO} {p : P} (hu : H b = some u) (mu : Mut (some u)) (r : ∀ Hl od, Ext0 H Hl → Hl b = some (.frz od u) → Rep Hl (.ref b) p) : LendOk H [b] [.ref b] [p] := by
  refine ⟨by simp, fun b' hb => ?_, fun Hl x hb => .cons ?_ .nil⟩
  · rw [List.mem_singleton.mp hb]
    exact ⟨u, hu, mu⟩
  · obtain ⟨od, u', h1, h2⟩ := hb b (by simp)
    rw [hu] at h1
    cases h1
    exact r Hl od x h2
/-- a list whose parts are lent, too -/
theorem LendOk.list {B : List Addr} {b : Addr} {vs : List V} {ps : List P} (h : LendOk H B vs ps) (hu : H b = some (.lst vs)) : ∃ B', LendOk H B' [.ref b] [.list ps] := by
  by_cases c : b ∈ B
  · refine ⟨B, h.1, h.2.1, fun Hl x hb => .cons ?_ .nil⟩
    obtain ⟨od, u', h1, h2⟩ := hb b c
    rw [hu] at h1
    cases h1
    exact .lst ⟨od, h2⟩ (h.2.2 Hl x hb)
  · refine ⟨b :: B, List.nodup_cons.mpr ⟨c, h.1⟩, fun b' hb' => ?_, fun Hl x hb => .cons ?_ .nil⟩
    · rcases List.mem_cons.mp hb' with e | hb'
      · subst e
        exact ⟨_, hu, trivial⟩
      · exact h.2.1 b' hb'
    · obtain ⟨od, u', h1, h2⟩ := hb b List.mem_cons_self
      rw [hu] at h1
      cases h1
      exact .lst ⟨od, h2⟩ (h.2.2 Hl x fun b' hb' => hb b' (List.mem_cons_of_mem _ hb'))
theorem LendOk.tuple {B : List Addr} {b : Addr} {vs : List V} {ps : List P} (h : LendOk H B vs ps) (hu : H b = some (.tup vs)) : LendOk H B [.ref b] [.tuple ps] :=
  ⟨h.1, h.2.1, fun Hl x hb => .cons (.tup (x.tups _ _ hu) (h.2.2 Hl x hb)) .nil⟩
theorem Paired.res {L : Nat} : ∀ {vs : List V} {ds : List D}, Paired (RD G.K H f L) vs ds → Paired (RE G σ H e f L) vs ds
  | _, _, .nil => .nil
  | _, _, .cons h t => .cons h.re (Paired.res t)
mutual
theorem lend1_ok (r : R G σ H e S f) : ∀ (k : Nat) {v : V} {d : D} {p : P}, RE G σ H e f S.length v d → lendD k S d = some p → ∃ B, LendOk H B [v] [p]
  | k, v, .pu q, p, hr, h => by
    unfold lendD at h
    cases h
    exact ⟨[], .pure hr⟩
  | k, v, .wr q, p, hr, h => by
    unfold lendD at h
    cases h
  | k, v, .nw c, p, hr, h => by
    unfold lendD at h
    cases h
  | k, v, .bo i c, p, hr, h => by
    unfold lendD at h
    cases h
    obtain ⟨k1, k2⟩ := (show σ[i]? = some (some v) ∧ e[i]? = some (some (.ow c)) from hr)
    obtain ⟨a, k3, k4, _⟩ := r.own i c k2
    rw [k1] at k3
    cases k3
    cases c with
    | lst xs =>
      obtain ⟨us, q1, q2⟩ := k4
      exact ⟨_, .cell q1 trivial fun Hl od x hl => .lst ⟨od, hl⟩ (RepL.ext x q2)⟩
    | dct xs =>
      obtain ⟨qs, q1, q2, q3⟩ := k4
      rcases q1 with ⟨kvs, q1, z⟩ | ⟨kvs, q1, z⟩
      · exact ⟨_, .cell q1 trivial fun Hl od x hl => .dct (.inl ⟨od, kvs, hl, z⟩) rfl rfl (RepL.ext x q2) q3⟩
      · exact ⟨_, .cell q1 trivial fun Hl od x hl => .dct (.inr ⟨od, kvs, hl, z⟩) rfl rfl (RepL.ext x q2) q3⟩
  | k, v, .rf n, p, hr, h => by
    unfold lendD at h
    obtain ⟨e1, l⟩ := (show v = .ref (f n) ∧ n < S.length from hr)
    subst e1
    exact lendR_ok r k h
theorem lendR_ok (r : R G σ H e S f) : ∀ (k : Nat) {n : Nat} {p : P}, lendR k S n = some p → ∃ B, LendOk H B [.ref (f n)] [p]
  | 0, n, p, h => by
    unfold lendR at h
    cases h
  | k + 1, n, p, h => by
    unfold lendR at h
    cases hc : S[n]? with
    | none => rw [hc] at h; cases h
    | some c =>
      rw [hc] at h
      cases c with
      | lst ds' =>
        obtain ⟨qs, h4, h5⟩ := Option.map_eq_some_iff.mp h
        subst h5
        obtain ⟨us, q1, q2⟩ := r.cel n _ hc
        obtain ⟨B, hB⟩ := lends_ok r k (Paired.res (σ := σ) (e := e) q2) h4
        exact hB.list q1
      | tup ds' =>
        obtain ⟨qs, h4, h5⟩ := Option.map_eq_some_iff.mp h
        subst h5
        obtain ⟨us, q1, q2⟩ := r.cel n _ hc
        obtain ⟨B, hB⟩ := lends_ok r k (Paired.res (σ := σ) (e := e) q2) h4
        exact ⟨B, hB.tuple q1⟩
      | fz q =>
        cases h
        obtain ⟨_, q2⟩ := r.cel n _ hc
        exact ⟨[], .pure q2⟩
      | _ => cases h
theorem lends_ok (r : R G σ H e S f) : ∀ (k : Nat) {vs : List V} {ds : List D} {ps : List P}, Paired (RE G σ H e f S.length) vs ds → lendDs k S ds = some ps → ∃ B, LendOk H B vs ps
  | k, _, [], ps, .nil, h => by
    unfold lendDs at h
    cases h
    exact ⟨[], .nil⟩
  | k, _, d :: ds, ps, .cons (a := v) p t, h => by
    unfold lendDs at h
    obtain ⟨p1, h1, h⟩ := Option.bind_eq_some_iff.mp h
    obtain ⟨ps2, h2, h3⟩ := Option.map_eq_some_iff.mp h
    subst h3
    obtain ⟨B1, hB1⟩ := lend1_ok r k p h1
    obtain ⟨B2, hB2⟩ := lends_ok r k t h2
    exact hB1.join hB2
end
theorem lend_ok (r : R G σ H e S f) {vs : List V} {ds : List D} {ps : List P} (p : Paired (RE G σ H e f S.length) vs ds) (h : lendDs 3 S ds = some ps) : ∃ B, LendOk H B vs ps := lends_ok r 3 p h
variable {k n : Nat} {ps : List Str} {g : Addr} {fd : FuncData} {m : List P → Option P}
theorem run_lend (F : FnOk X.prog X.w X.K X.mg X.base CX0 k g fd ps (SpP n m)) (hr : Room k X.A) (hb : Binds X.K fd ps []) {vs : List V} {us : List Value} {as : List P} {p : P} (rv : Vals vs us) (hn : vs.length = n) (hm : m as = some p) (sc : scal p = true) :
    ∀ (B : List Addr) {pins : List (Addr × Obj)} {σ : L2.St} {H : Hp} {s : Shared} {Q : VK}, Inv X pins σ H s → LendOk H B vs as → (∀ v H', Same H H' → Rep H' v p → Q v H') → wpAny (model X.prog X.w) X.A (call (.ref g) us) (EP X pins σ Q) X.xe s
  | [], pins, σ, H, s, Q, I, h, q => by
    refine run_fn (E := fun _ _ _ => False) F hr hb .nil pass0 I rv ?_
    rw [List.append_nil]
    exact ⟨hn, as, p, h.2.2 H (.refl _) (fun b hb => (by cases hb)), hm, q⟩
  | b :: B, pins, σ, H, s, Q, I, h, q => by
    obtain ⟨h1, h2, h3⟩ := h
    obtain ⟨nb, nB⟩ := List.nodup_cons.mp h1
    obtain ⟨u, hu, mu⟩ := h2 b List.mem_cons_self
    obtain ⟨od, I2⟩ := I.lock hu mu
    have x := raw_ext (o' := .frz od u) hu mu
    have raw : ∀ c' o', H c' = some o' → c' ≠ b → (upd H b (.frz od u)) c' = some o' := fun c' o' z nb => by rw [upd_ne nb]; exact z
    have ok : LendOk (upd H b (.frz od u)) B vs as := by
      refine ⟨nB, fun b' hb' => ?_, fun Hl xl hl => h3 Hl (x.trans xl) fun b' hb' => ?_⟩
      · obtain ⟨u', k1, k2⟩ := h2 b' (List.mem_cons_of_mem _ hb')
        exact ⟨u', raw b' u' k1 (fun z => nb (z ▸ hb')), k2⟩
      · rcases List.mem_cons.mp hb' with z | hb'
        · subst z
          exact ⟨od, u, hu, xl.frzs _ _ _ upd_same⟩
        · have ne : b' ≠ b := fun z => nb (z ▸ hb')
          obtain ⟨od', u', k1, k2⟩ := hl b' hb'
          rw [upd_ne ne] at k1
          exact ⟨od', u', k1, k2⟩
    refine thn (run_lend F hr hb rv hn hm sc B (Q := fun v H2 => H2 b = some (.frz od u) ∧ Q v (upd H2 b u)) I2 ok fun v H2 sm rp => ⟨sm b _ upd_same, q v _ (fun c' o' z => ?_) (scal_rep sc rp)⟩) fun w s2 hh => by
      obtain ⟨v, H2, I3, rv3, hb3, qq⟩ := hh
      exact ⟨v, _, I3.unlock hb3 (I.nofrz hu mu), rv3, qq⟩
    by_cases ne : c' = b
    · subst ne
      rw [upd_same, ← hu, z]
    · rw [upd_ne ne]
      exact sm c' o' (raw c' o' z ne)
theorem d_cPL {x : Str} {p pos : Pos} {a : Expr} {es : List Expr} {xa : Ax} (F : Callee X.prog X.w X.K X.mg X.base k x ps (SpP n m)) (hl : ∀ ps p, m ps = some p → ps.length = n) (hr : Room k X.A)
    (ha : DA X G (a :: es) xa) (hg : Gl X x := by rfl) (hdb : (x == ("__debug__" : Str)) = false := by decide) (he : starEach (a :: es) X.env = (false, eval a X.env) :: starEach es X.env := by rfl) (hpl : (backTo pos (starEach es X.env)).any (·.1) = false := by rfl) : DE X G (.Call (.Name x p) (a :: es) [] pos) (xA (gCallPL m) xa) := by
  obtain ⟨g, fd, F, hm, hk, hb⟩ := F
  refine ⟨fun pins s σ H Q I hw => ?_⟩
  obtain ⟨e, S, f, r, d, S', hx, q⟩ := hw
  obtain ⟨⟨ds, S1⟩, h1, hx⟩ := Option.bind_eq_some_iff.mp hx
  obtain ⟨as, h2, hx⟩ := Option.bind_eq_some_iff.mp hx
  obtain ⟨p, h3, hx⟩ := Option.bind_eq_some_iff.mp hx
  dsimp only at hx
  by_cases sc : scal p = true
  · rw [if_pos sc] at hx
    cases hx
    refine wpAny_Call_Name_kw (ld_glob I hg hm ?_ hdb)
    refine PySem.W.callWith_K (h₀ := X.base) I.ok.mod.kin hk (thn (ha.run pos pins s σ H (fun vs H1 => ∃ f1, R G σ H1 e S' f1 ∧ Nx H H1 f f1 S.length S'.length ∧ Paired (RE G σ H1 e f1 S'.length) vs ds) I ⟨e, S, f, r, ds, _, h1, fun vs H1 f1 r1 n1 p1 => ⟨f1, r1, n1, p1⟩⟩) fun us s1 ⟨vs, H1, I1, rv, f1, r1, n1, p1⟩ => ⟨I1.kIn, ?_⟩) he hpl
    obtain ⟨B, hB⟩ := lend_ok r1 p1 h2
    have hn : vs.length = n := by
      have k1 := (hB.2.2)
      have k2 := hl _ _ h3
      have k3 : ∀ {ds : List D} {ps : List P}, lendDs 3 S' ds = some ps → ds.length = ps.length := by
        intro ds
        induction ds with
        | nil => intro ps h; unfold lendDs at h; cases h; rfl
        | cons d ds ih =>
          intro ps h
          unfold lendDs at h
          obtain ⟨p1, _, h⟩ := Option.bind_eq_some_iff.mp h
          obtain ⟨ps2, h5, h6⟩ := Option.map_eq_some_iff.mp h
          subst h6
          rw [List.length_cons, List.length_cons, ih h5]
      rw [Paired.length p1, k3 h2, k2]
    exact run_lend F hr hb rv hn h3 sc B I1 hB fun v H' sm rp => q v H' f1 (r1.same sm) (n1.trans (.of sm _ _)) rp
  · rw [if_neg sc] at hx
    cases hx
end
end DL
/-! DMK: xs.pop(i) as a statement, of a list that stands by itself. -/
namespace DL
open PySem PySem.Spec PyProof.Rows L2
section
variable {X : Cx} {G : Gx} {σ : L2.St} {H : Hp} {e : Envi} {S : Sto} {f : Nat → Addr}
theorem Paired.erase {α β : Type} {F : α → β → Prop} : ∀ {l : List α} {m : List β}, Paired F l m → ∀ k : Nat, Paired F (l.eraseIdx k) (m.eraseIdx k)
  | _, _, .nil, _ => .nil
  | _, _, .cons h t, 0 => t
  | _, _, .cons h t, k + 1 => .cons h (Paired.erase t k)
end
end DL
/-! DMA: list(range(n)). -/
namespace DL
open PySem PySem.Spec PyProof.Rows L2
section
variable {X : Cx} {G : Gx}
end
end DL
/-! DM2: d.pop(k, x) of a dict that stands by itself, its keys tuples, what it tells thrown away. -/
namespace DT
open PySem PySem.Spec PyProof.Rows L2
section
variable {K : Type} [DecidableEq K] {prog : Program} {w : World} {knd : HeapKind prog w K}
end
end DT
namespace DL
open PySem PySem.Spec PyProof.Rows L2
section
variable {X : Cx} {G : Gx} {σ : L2.St} {H : Hp} {e : Envi} {S : Sto} {f : Nat → Addr}
/-- without one key -/
def dpop {α : Type} (ps : List (P × α)) (p : P) : List (P × α) := ps.filter fun q => !PyData.eqv q.1 p
theorem TP'.drop {α : Type} {F : V → α → Prop} {k : List Key} : ∀ {kvs : List (List Key × V)} {ps : List (P × α)}, TP' F kvs ps → TP' F (dropK kvs k) (dpop ps (.tuple (k.map keyP)))
  | [], [], .nil => .nil
  | kv :: kvs, q :: ps, .cons h t => by
    have ih := TP'.drop (k := k) t
    have e1 : PyData.eqv q.1 (.tuple (k.map keyP)) = decide (kv.1 = k) := by rw [h.1, eqv_tkeys]
    unfold dropK dpop at ih ⊢
    by_cases c : kv.1 = k
    · rw [List.filter_cons_of_neg (by simp [c]), List.filter_cons_of_neg (by rw [e1, decide_eq_true c]; simp)]
      exact ih
    · rw [List.filter_cons_of_pos (by simp [c]), List.filter_cons_of_pos (by rw [e1, decide_eq_false c]; rfl)]
      exact .cons h ih
/-! ### d.pop(k) -/
end
end DL
/-! DM9: d.pop(k) of a dict that is a cell, its keys tuples. -/
namespace DL
open PySem PySem.Spec PyProof.Rows L2
section
variable {X : Cx} {G : Gx} {σ : L2.St} {H : Hp} {e : Envi} {S : Sto} {f : Nat → Addr}
end
end DL
/-! DME: reversed(range(n)) as a walk; d.setdefault(k, x) of a dict that is a cell, its keys ints. -/
namespace DL
open PySem PySem.Spec PyProof.Rows L2
section
variable {X : Cx} {G : Gx}
end
section
variable {X : Cx} {G : Gx} {σ : L2.St} {H : Hp} {e : Envi} {S : Sto} {f : Nat → Addr}
theorem nx_cel {H : Hp} {f : Nat → Addr} {L n : Nat} {o' : HO} (hn : n < L) (x : Ext0 H (upd H (f n) o')) : Nx H (upd H (f n) o') f f L L where
  ext := x
  ag := fun _ _ => rfl
  le := Nat.le_refl _
  oth := fun b o hb hf => by rw [upd_ne (fun e => hf n hn e.symm)]; exact hb
  fr := fun m h1 h2 => absurd h2 (Nat.not_lt.mpr h1)
  th := fun b o hb => by
    by_cases e : b = f n
    · exact ⟨o', by rw [e, upd_same]⟩
    · exact ⟨o, by rw [upd_ne e]; exact hb⟩
end
end DL
/-! DMP: xs.pop(i) as an expression, of a cell. -/
namespace DL
open PySem PySem.Spec PyProof.Rows L2
section
variable {X : Cx} {G : Gx}
def xPopI (a i : Ex) : Ex := fun e S => (a e S).bind fun r => (lstD r.1 r.2).bind fun _ => (i e r.2).bind fun w => match r.1, w.1 with
  | .rf n, .pu (.int k) => match w.2[n]? with
    | some (.lst ds) => if 0 ≤ k ∧ k < 2 ^ 63 then (ds[k.toNat]?).bind fun d => some (d, w.2.set n (.lst (ds.eraseIdx k.toNat))) else none
    | _ => none
  | _, _ => none
theorem d_popI {o i : Expr} {xo xi : Ex} {apos cpos : Pos} (ho : DE X G o xo) (hi : DE X G i xi)
    (hbase : attributeBase o "pop" X.env (eval o X.env) = eval o X.env := by rfl)
    (hfew : ((backTo cpos (starEach [i] X.env)).all (fun x => !x.1) && (backToKw cpos (keywordEach [] X.env)).all (fun x => x.1.isSome)
      && decide (([i] : List Expr).length + ([] : List Keyword).length + (if ([] : List Keyword).isEmpty then 0 else 1) < 30)) = true := by rfl)
    (hline : (apos.endLine == cpos.line) = true := by rfl) (hs : starEach [i] X.env = (false, eval i X.env) :: starEach [] X.env := by rfl) (hplain : (backTo cpos (starEach [] X.env)).any (·.1) = false := by rfl) :
    DE X G (.Call (.Attribute o "pop" apos) [i] [] cpos) (xPopI xo xi) :=
  pe_mono (pe_bm PySem.F.plainAttrs_list PySem.F.slot_list_pop PySem.F.type_list_pop mt_popAt ho (pa_cons hi pa_nil hs) hbase hfew hline hs hplain) fun σ H Q hw => by
    obtain ⟨e, S, f, r, d, S', hx, q⟩ := hw
    obtain ⟨⟨d0, S0⟩, h0, hx1⟩ := Option.bind_eq_some_iff.mp hx
    obtain ⟨l0, hl0, hx2⟩ := Option.bind_eq_some_iff.mp hx1
    obtain ⟨⟨d1, S1⟩, h1, hx3⟩ := Option.bind_eq_some_iff.mp hx2
    clear hx hx1 hx2
    dsimp only at hx3 hl0
    have hd : ∃ n k, d0 = .rf n ∧ d1 = .pu (.int k) := by
      split at hx3
      · exact ⟨_, _, rfl, rfl⟩
      · cases hx3
    obtain ⟨n, k, hn, hk⟩ := hd
    · subst hn hk
      have hx := hx3
      dsimp only at hx
      cases hc : S1[n]? with
      | none => rw [hc] at hx; cases hx
      | some c =>
        rw [hc] at hx
        cases c with
        | lst ds =>
          dsimp only at hx
          by_cases ck : 0 ≤ k ∧ k < 2 ^ 63
          · rw [if_pos ck] at hx
            obtain ⟨d3, h3, hx⟩ := Option.bind_eq_some_iff.mp hx
            cases hx
            refine ⟨e, S, f, r, _, S0, h0, fun v0 H0 f0 r0 n0 p0 => ?_⟩
            refine ⟨?_, e, S0, f0, r0, _, S1, h1, fun v1 H1 f1 r1 n1 p1 => ?_⟩
            · obtain ⟨a, xs, e1, e2, _⟩ := lst_rd r0 p0 hl0
              subst e1
              exact .inl ⟨rfl, xs, .inl e2⟩
            · cases (show Rep _ v1 (.int k) from p1)
              obtain ⟨e2, l⟩ := (show v0 = .ref (f1 n) ∧ n < S1.length from p0.nx n1)
              subst e2
              obtain ⟨vs, g1, g2⟩ := r1.cel n _ hc
              obtain ⟨y, k1, k2⟩ := Paired.get2 g2 h3
              have x := raw_ext (H := H1) (o' := .lst (vs.eraseIdx k.toNat)) g1 trivial
              obtain ⟨r3, x3⟩ := r1.cel_set (c := .lst (ds.eraseIdx k.toNat)) (o' := .lst (vs.eraseIdx k.toNat)) hc rfl ⟨_, upd_same, Paired.mapP (Paired.erase g2 _) fun _ _ => RD.ext x⟩
              have hkl : k.toNat < vs.length := (List.getElem?_eq_some_iff.mp k1).1
              have hs : seqIndex? k vs.length = some k.toNat := by
                unfold seqIndex?
                have e : (if k < 0 then k + (vs.length : Int) else k) = k := if_neg (by omega)
                simp only [e]
                rw [if_pos]
                rw [Bool.and_eq_true, decide_eq_true_eq, decide_eq_true_eq]
                omega
              have nn := nx_cel (H := H1) (f := f1) l x3
              have len : (S1.set n (.lst (ds.eraseIdx k.toNat))).length = S1.length := List.length_set
              exact ⟨f1 n, vs, k, k.toNat, y, rfl, rfl, g1, by omega, ck.2, hs, k1, q y _ f1 r3 (by rw [len]; exact (n0.trans n1).trans nn) (by rw [len]; exact RD.re (RD.ext x3 k2))⟩
          · rw [if_neg ck] at hx
            cases hx
        | _ => cases hx
/-! ### list(range(n)) as a cell -/
def xLr1C (xa : Ex) : Ex := fun e S => (xa e S).bind fun r => match r.1 with
  | .pu (.int j) => if (rOk j && decide (j.toNat ≤ 100000)) = true then some (.rf r.2.length, r.2 ++ [.lst ((rngP 0 j.toNat).map .pu)]) else none
  | _ => none
theorem d_listRg1C {a : Expr} {xa : Ex} {p p2 pos pos2 : Pos} (hc : X.calm = true) (hg : Gl X "list") (hm : X.mg "list" = none) (hg2 : Gl X "range") (hm2 : X.mg "range" = none) (ha : DE X G a xa)
    (na : starEach [a] X.env = (false, eval a X.env) :: starEach [] X.env := by rfl)
    (ns : starEach [.Call (.Name "range" p2) [a] [] pos2] X.env = (false, eval (.Call (.Name "range" p2) [a] [] pos2) X.env) :: starEach [] X.env := by rfl) : DE X G (.Call (.Name "list" p) [.Call (.Name "range" p2) [a] [] pos2] [] pos) (xLr1C xa) :=
  pe_mono (pe_gh (pe_listRg hc hg hm (prg_1 hg2 hm2 ha na) ns)) fun σ H Q hw => by
    obtain ⟨e, S, f, r, d, S', hx, q⟩ := hw
    obtain ⟨⟨d1, S1⟩, h1, hx⟩ := Option.bind_eq_some_iff.mp hx
    dsimp only at hx
    match d1, h1, hx with
    | .pu (.int j), h1, hx =>
      by_cases c : (rOk j && decide (j.toNat ≤ 100000)) = true
      · dsimp only at hx
        rw [if_pos c] at hx
        cases hx
        rw [Bool.and_eq_true, rOk_iff, decide_eq_true_eq] at c
        refine ⟨e, S, f, r, _, S1, h1, fun v1 H1 f1 r1 n1 p1 => ?_⟩
        cases (show Rep H1 _ (.int j) from p1)
        have e0 : (j - 0).toNat = j.toNat := by omega
        refine ⟨j, rfl, ⟨by omega, by omega, by omega, by omega, by omega⟩, fun p np => cel_fin r1 np ?_ fun v H' f' r' n' p' => q v H' f' r' (n1.trans n') p'⟩
        have := rep_rng (H := H1) 0 j.toNat
        rw [← e0] at this ⊢
        exact reps_rd this
      · dsimp only at hx
        rw [if_neg c] at hx
        cases hx
end
end DL
/-! DLZ: cells frozen: a list of lists, a dict of lists becomes data. -/
namespace DL
open PySem PySem.Spec PyProof.Rows L2
section
variable {X : Cx} {G : Gx} {pins : List (Addr × Obj)} {σ : L2.St} {H : Hp} {e : Envi} {S S' : Sto} {f : Nat → Addr} {s : Shared}
end
section
variable {X : Cx} {G : Gx}
end
end DL
/-! DM4: d != {} of a dict. -/
namespace DL
open PySem PySem.Spec PyProof.Rows L2
section
variable {prog : Program} {w : World} {A : Around} {E : Value → Shared → Prop} {s : Shared}
def DOb (h : Heap) (a : Addr) (n : Nat) : Prop := (a == sysModules) = false ∧ ∃ o es ep, h.get? a = some o ∧ o.cls = .type "dict" ∧ o.data = .dict es ep ∧ es.size = n
end
section
variable {X : Cx} {G : Gx} {σ : L2.St} {H : Hp} {e : Envi} {S : Sto} {f : Nat → Addr}
def RdN (H : Hp) (a : Addr) (n : Nat) : Prop := (∃ kvs, Rd H a (.dK kvs) ∧ kvs.length = n) ∨ ∃ kvs, Rd H a (.dT kvs) ∧ kvs.length = n
theorem RdN.ob {P : Program} {w : World} {h : Heap} {a : Addr} {n : Nat} (ok : HOk P w H h) (r : RdN H a n) : DOb h a n := by
  rcases r with ⟨kvs, r, e⟩ | ⟨kvs, r, e⟩
  · obtain ⟨z, hd, vs, rk, o, es, ep, ho, ⟨hc, _⟩, hdat, hk, hp, _⟩ := dk_rd ok r
    refine ⟨hd, o, es, ep, ho, hc, hdat, ?_⟩
    rw [← e, Paired.length rk, ← hp.length]
    simp
  · obtain ⟨z, hd, ys, rel, o, es, ep, ho, ⟨hc, _⟩, hdat, he, _⟩ := dt_rd ok r
    refine ⟨hd, o, es, ep, ho, hc, hdat, ?_⟩
    rw [← e, Paired.length rel, size_of_entries he]
end
end DL
/-! DM7: x in d, x not in d, where d may be empty (x a tuple). -/
namespace DL
open PySem PySem.Spec PyProof.Rows L2
section
variable {X : Cx} {G : Gx} {σ : L2.St} {H : Hp} {e : Envi} {S : Sto} {f : Nat → Addr}
theorem empty_keys {P : Program} {w : World} {h : Heap} {a : Addr} (ok : HOk P w H h) (r : RdN H a 0) : (a == sysModules) = false ∧ h.DictOfH (tupleKind (mixKind P w)) a [] := by
  rcases r with ⟨kvs, r, e⟩ | ⟨kvs, r, e⟩
  · have ez : kvs = [] := List.length_eq_zero_iff.mp e
    subst ez
    obtain ⟨z, hd, vs, rk, o, es, ep, ho, hc, hdat, hk, hp, _⟩ := dk_rd ok r
    cases rk
    refine ⟨hd, o, es, ep, ho, hc, hdat, ?_, fun x hx => (by cases hx), List.nodup_nil⟩
    have := hp.length
    exact List.length_eq_zero_iff.mp (by simpa using this)
  · have ez : kvs = [] := List.length_eq_zero_iff.mp e
    subst ez
    obtain ⟨z, hd, ys, rel, dd⟩ := dt_rd ok r
    cases rel
    exact ⟨hd, dd⟩
def rInE (neg : Bool) : R2 := fun x y H Q => ∃ a b ks, y = .ref a ∧ x = .ref b ∧ H b = some (.tup (List.map kV ks)) ∧ RdN H a 0 ∧ Q (.bl neg) H
def rInZ (neg : Bool) (K : PySem.W.Frag) : R2 := fun x y H Q => rInX neg K x y H Q ∨ rInE neg x y H Q
theorem op_notInZ (hu : X.A.units + 65 < cLine) : OpR X (compareOp .NotIn) (rInZ true X.K) := by
  intro pins s σ H x y v u Q I rx ry h
  rcases h with h | ⟨a, b, ks, rfl, rfl, hb, hr, q⟩
  · exact op_notInX hu pins s σ H x y v u Q I rx ry h
  · obtain rfl : u = .ref a := ry
    obtain rfl : v = .ref b := rx
    obtain ⟨hd, dd⟩ := empty_keys I.hok hr
    exact wpAny_notIn_heap (tupleKind_room_in1 (by omega)) (key_of I.hok hb) hd dd ⟨.bl true, H, I.tok _, rfl, q⟩
/-- in, of dicts; an empty one holds no tuple -/
def gInZ (neg : Bool) (d1 d2 : D) (S : Sto) : Option (D × Sto) := match dicD d2 S, d1 with
  | some [], .pu (.tuple xs) => (flatKs xs).bind fun _ => some (.pu (.bool neg), S)
  | _, _ => gInX neg d1 d2 S
theorem v_inZ {neg : Bool} (hK : X.K = G.K) : V2 G (rInZ neg X.K) (gInZ neg) := by
  intro σ H e S f x y dx dy d S' Q r0 rx ry hg q
  unfold gInZ at hg
  split at hg
  · rename_i xs hd
    obtain ⟨ks, hk, hg⟩ := Option.bind_eq_some_iff.mp hg
    cases hg
    have ek := flatKs_eq hk
    subst ek
    cases (show Rep H x (.tuple (ks.map keyP)) from rx) with
    | tup hb hbs =>
      rename_i b vs
      have e5 := rep_keys hbs
      subst e5
      obtain ⟨a, rfl, h⟩ := dic_ok r0 ry hd
      refine .inr ⟨a, b, ks, rfl, rfl, hb, ?_, .inl (q _ H f r0 (.refl _ _ _) (.bl _))⟩
      rcases h with ⟨kvs, h, kp⟩ | ⟨kvs, h, kp⟩
      · exact .inl ⟨kvs, h, Paired.length kp⟩
      · exact .inr ⟨kvs, h, Paired.length kp⟩
  · exact .inl (v_inX hK σ H e S f x y _ _ d S' Q r0 rx ry hg q)
end
end DL
namespace DL
open PySem PySem.Spec PyProof.Rows L2
noncomputable def b__law_jobs : Sx := sSeq (sSet 3 (xLr1C (xVar 1))) (sSeq (sSetLc 4 (iRange1 (aCons (xVar 1) (aNil))) (gNm 11) (tYesX) (xPopI (xVar 3) (xA (gCallF m__law_take) (aCons (xVar 0) (aCons (xA gLen (aCons (xVar 3) (aNil))) (aNil))))) [11]) (sSeq (sSet 5 (x2 gIx (xA gLst (aCons (xA gLst (aCons (xP (.int 0)) (aCons (xP (.int 1)) (aCons (xP (.int 2)) (aCons (xP (.int 3)) (aCons (xP (.int 4)) (aNil))))))) (aCons (xA gLst (aCons (xP (.int 3)) (aCons (xP (.int 7)) (aCons (xP (.int 0)) (aCons (xP (.int 11)) (aCons (xP (.int 2)) (aNil))))))) (aCons (xA gLst (aCons (xP (.int 40)) (aCons (xP (.int 5)) (aCons (xP (.int 1)) (aCons (xP (.int 6)) (aCons (xP (.int 0)) (aNil))))))) (aNil))))) (xA (gCallF m__law_take) (aCons (xVar 0) (aCons (xP (.int 3)) (aNil)))))) (sSeq (sSet 6 (x2 gRepN (xA gLstN (aCons (xA gTup (aCons (xP (.int 0)) (aCons (xA gLst (aNil)) (aNil)))) (aNil))) (xVar 1))) (sSeq (sSet 7 (x2 gIx (xA gLst (aCons (xP (.int 1)) (aCons (xP (.int 2)) (aCons (xP (.int 3)) (aCons (xP (.int 8)) (aNil)))))) (xA (gCallF m__law_take) (aCons (xVar 0) (aCons (xP (.int 4)) (aNil)))))) (sFq 4 (sSeq (sFor (iEnumX (aCons (xVar 4) (aNil))) (gtLst 2 (gnCons (gNm 8) (gnCons (gNm 9) (gnNil)))) (sSeq (sSet 10 (xA gLstN (aNil))) (sSeq (sFor (iRange1 (aCons (xIte (tOfE (x2 (s2 (pIB fun i j => decide (j < i))) (xVar 8) (xP (.int 0)))) (xA (gCallF m__law_take) (aCons (xVar 0) (aCons (x2 gAdd (xVar 7) (xP (.int 1))) (aNil)))) (xP (.int 0))) (aNil))) (gNm 11) (sSeq (sApp (xVar 10) (x2 gGet (xVar 4) (xA (gCallF m__law_take) (aCons (xVar 0) (aCons (xVar 8) (aNil)))))) (sNil))) (sFq 10 (sSeq (sAsg (xA gTup (aCons (x2 gGet (xVar 5) (xA (gCallF m__law_take) (aCons (xVar 0) (aCons (xVar 2) (aNil))))) (aCons (xVar 10) (aNil)))) (gSubT (xVar 6) (xVar 9))) (sNil)))))) (sFq 6 (sSeq (sRet (xVar 6)) (sNil)))))))))
noncomputable def m__law_jobs : List D → Sto → Option (D × Sto) := runF 3 12 b__law_jobs
theorem l__law_jobs {ds : List D} {S : Sto} {p : D × Sto} (h : m__law_jobs ds S = some p) : ds.length = 3 := runF_len h
noncomputable def b_tools_of : Sx := sSeq (sRet (xSSet (xLc (iSeq (xVar 0)) (gNm 1) (tYesX) (x2 gIx (xVar 1) (xP (.int 0))) [1]))) (sNil)
noncomputable def m_tools_of : List P → Option P := runP 1 2 b_tools_of
theorem l_tools_of {ps : List P} {p : P} (h : m_tools_of ps = some p) : ps.length = 1 := runP_len h
noncomputable def b_Taking___init__ : Sx := sSeq (sFldX "Taking" "jobs" (xVar 0) (xVar 1)) (sSeq (sFldX "Taking" "tools" (xVar 0) (xA (gCallP m_tools_of) (aCons (xVar 1) (aNil)))) (sSeq (sFldX "Taking" "known" (xVar 0) (xDct)) (sNil)))
noncomputable def m_Taking___init__ : List D → Sto → Option (D × Sto) := runF 2 2 b_Taking___init__
theorem l_Taking___init__ {ds : List D} {S : Sto} {p : D × Sto} (h : m_Taking___init__ ds S = some p) : ds.length = 2 := runF_len h
noncomputable def b_can_be_done : Sx := sSeq (sRet (xAndX (x2 (gIn true) (xVar 1) (xVar 2)) (xA (gBls fun bs => bs.all id) (aCons (xLc (iSeq (x2 gIx (x2 gGet (xVar 0) (xVar 1)) (xP (.int 1)))) (gNm 3) (tYesX) (x2 (gIn false) (xVar 3) (xVar 2)) [3]) (aNil))))) (sNil)
noncomputable def m_can_be_done : List P → Option P := runP 3 4 b_can_be_done
theorem l_can_be_done {ps : List P} {p : P} (h : m_can_be_done ps = some p) : ps.length = 3 := runP_len h
noncomputable def b_gone_on : Sx := sSeq (sSet 3 (xA gListN (aCons (xVar 2) (aNil)))) (sSeq (sSet 4 (xP (.bool true))) (sSeq (sWhile (tOfE (xVar 4)) (sSeq (sSet 4 (xP (.bool false))) (sSeq (sFor (iEnumY (aCons (xVar 0) (aNil))) (gtLst 2 (gnCons (gNm 5) (gnCons (gNm 6) (gnNil)))) (sSeq (sIf (tAndX (tOfE (x2 (gEq false) (x2 gIx (xVar 6) (xP (.int 0))) (xVar 1))) (tOfE (xTf 3 (xA (gCallP m_can_be_done) (aCons (xVar 0) (aCons (xVar 5) (aCons (xVar 3) (aNil)))))))) (sSeq (sApp (xVar 3) (xVar 5)) (sSeq (sSet 4 (xP (.bool true))) (sNil))) (sNil)) (sNil))) (sNil)))) (sSeq (sRet (xA gTupleA (aCons (xA gSorted (aCons (xVar 3) (aNil))) (aNil)))) (sNil))))
noncomputable def m_gone_on : List P → Option P := runP 3 7 b_gone_on
theorem l_gone_on {ps : List P} {p : P} (h : m_gone_on ps = some p) : ps.length = 3 := runP_len h
noncomputable def b_Taking_takes_from (r : List D → Sto → Option (D × Sto)) : Sx := sSeq (sIf (tOfE (x2 (gEq false) (xA gLenA (aCons (xVar 1) (aNil))) (xA gLenA (aCons (xFld "Taking" (xVar 0) "jobs") (aNil))))) (sSeq (sRet (xP (.int 0))) (sNil)) (sNil)) (sSeq (sIf (tOfE (x2 (gInZ true) (xVar 1) (xFld "Taking" (xVar 0) "known"))) (sSeq (sSetLc 2 (iAny (xFld "Taking" (xVar 0) "tools")) (gNm 3) (tYesX) (xA (gCallP m_gone_on) (aCons (xFld "Taking" (xVar 0) "jobs") (aCons (xVar 3) (aCons (xVar 1) (aNil))))) [3]) (sFq 2 (sSeq (sAsg (x2 gAdd (xP (.int 1)) (xA gMinL (aCons (xLc (iAny (xVar 2)) (gNm 4) (tOfE (x2 (gEq true) (xVar 4) (xVar 1))) (xMeth "Taking" "takes_from" r (xVar 0) (aCons (xVar 4) (aNil))) [4]) (aNil)))) (gSubT (xFld "Taking" (xVar 0) "known") (xVar 1))) (sNil)))) (sNil)) (sSeq (sRet (x2 gGet (xFld "Taking" (xVar 0) "known") (xVar 1))) (sNil)))
noncomputable def m_Taking_takes_from : Nat → List D → Sto → Option (D × Sto)
  | 0 => fun _ _ => none
  | j + 1 => runF 2 5 (b_Taking_takes_from (m_Taking_takes_from j))
theorem l_Taking_takes_from : ∀ {j : Nat} {ds : List D} {S : Sto} {p : D × Sto}, m_Taking_takes_from j ds S = some p → ds.length = 2
  | 0, _, _, _, h => (by cases h)
  | _ + 1, _, _, _, h => runF_len h
noncomputable def b_Taking_takes_behind : Sx := sSeq (sRet (xMeth "Taking" "takes_from" (m_Taking_takes_from 12) (xVar 0) (aCons (xA (gCallP m_gone_on) (aCons (xFld "Taking" (xVar 0) "jobs") (aCons (x2 gIx (x2 gGet (xFld "Taking" (xVar 0) "jobs") (xVar 2)) (xP (.int 0))) (aCons (x2 gAdd (xVar 1) (xA gLst (aCons (xVar 2) (aNil)))) (aNil))))) (aNil)))) (sNil)
noncomputable def m_Taking_takes_behind : List D → Sto → Option (D × Sto) := runF 3 3 b_Taking_takes_behind
theorem l_Taking_takes_behind {ds : List D} {S : Sto} {p : D × Sto} (h : m_Taking_takes_behind ds S = some p) : ds.length = 3 := runF_len h
noncomputable def b_Taking_next_job : Sx := sSeq (sFor (iEnumY (aCons (xFld "Taking" (xVar 0) "jobs") (aNil))) (gtLst 2 (gnCons (gNm 4) (gnCons (gNm 5) (gnNil)))) (sSeq (sIf (tOfE (xA (gCallPL m_can_be_done) (aCons (xFld "Taking" (xVar 0) "jobs") (aCons (xVar 4) (aCons (xVar 1) (aNil)))))) (sSeq (sIf (tOfE (x2 (s2 (pIB fun i j => decide (i ≤ j))) (x2 gAdd (xA (a1 pInt) (aCons (x2 (gEq true) (x2 gIx (xVar 5) (xP (.int 0))) (xVar 2)) (aNil))) (xMeth "Taking" "takes_behind" m_Taking_takes_behind (xVar 0) (aCons (xVar 1) (aCons (xVar 4) (aNil))))) (xVar 3))) (sSeq (sRet (xVar 4)) (sNil)) (sNil)) (sNil)) (sNil)) (sNil))) (sSeq (sRet (xP .none)) (sNil))
noncomputable def m_Taking_next_job : List D → Sto → Option (D × Sto) := runF 4 6 b_Taking_next_job
theorem l_Taking_next_job {ds : List D} {S : Sto} {p : D × Sto} (h : m_Taking_next_job ds S = some p) : ds.length = 4 := runF_len h
noncomputable def b_look_round : Sx := sSeq (sSet 1 (xA gLst (aNil))) (sSeq (sSet 2 (xP (.bool true))) (sSeq (sWhile (tOfE (xVar 2)) (sSeq (sSetLc 3 (iRange1 (aCons (xA gLen (aCons (xVar 0) (aNil))) (aNil))) (gNm 4) (tOfE (xA (gCallP m_can_be_done) (aCons (xVar 0) (aCons (xVar 4) (aCons (xVar 1) (aNil)))))) (xVar 4) [4]) (sFq 3 (sSeq (sSet 1 (x2 gAdd (xVar 1) (xVar 3))) (sSeq (sSet 2 (x2 (s2 (pIB fun i j => decide (j < i))) (xA gLen (aCons (xVar 3) (aNil))) (xP (.int 0)))) (sNil)))))) (sSeq (sIf (tOfE (x2 (s2 (pIB fun i j => decide (i < j))) (xA gLen (aCons (xVar 1) (aNil))) (xA gLen (aCons (xVar 0) (aNil))))) (sNever) (sNil)) (sNil))))
noncomputable def m_look_round : List P → Option P := runP 1 5 b_look_round
end DL
/-! LF: loops over numbers, over encoded lists. -/
namespace DL
open PySem PySem.Spec PyProof.Rows L2
theorem for_rng {b : D → Envi → Sto → Option Out} {Q : Out → Prop} {lo : Int} {n : Nat} {e : Envi} {S : Sto} (I : Int → Envi → Sto → Prop) (h0 : I lo e S)
    (st : ∀ i e S, lo ≤ i → i < lo + n → I i e S → W (b (.pu (.int i)) e S) (loopQ (I (i + 1)) Q)) (q : ∀ e S, I (lo + n) e S → Q (.nx e S)) : W (forD b (rngD lo n) e S) Q := by
  refine for_inv (fun j e S => I (lo + j) e S) _ 0 _ _ (by simpa using h0) (fun i d e S hd hi => ?_) fun e S h => ?_
  · obtain ⟨hn, rfl⟩ := rng_get hd
    have := st (lo + i) e S (by omega) (by omega) (by simpa using hi)
    refine this.imp fun o h => ?_
    have e1 : lo + ((0 + i + 1 : Nat) : Int) = lo + i + 1 := by omega
    rw [e1]
    exact h
  · rw [rng_len, Nat.zero_add] at h
    exact q e S h
theorem for_map {α : Type} {f : α → P} {xs : List α} {b : D → Envi → Sto → Option Out} {Q : Out → Prop} {e : Envi} {S : Sto} (I : Nat → Envi → Sto → Prop) (h0 : I 0 e S)
    (st : ∀ i a e S, xs[i]? = some a → I i e S → W (b (.pu (f a)) e S) (loopQ (I (i + 1)) Q)) (q : ∀ e S, I xs.length e S → Q (.nx e S)) : W (forD b ((xs.map f).map D.pu) e S) Q := by
  refine for_inv I _ 0 _ _ h0 (fun i d e S hd hi => ?_) fun e S h => ?_
  · rw [List.map_map, List.getElem?_map] at hd
    obtain ⟨a, ha, rfl⟩ := Option.map_eq_some_iff.mp hd
    rw [Nat.zero_add] at hi
    have := st i a e S ha hi
    rw [Nat.zero_add]
    exact this
  · rw [Nat.zero_add, List.length_map, List.length_map] at h
    exact q e S h
section
variable {α : Type} [DecidableEq α]
omit [DecidableEq α] in
end
end DL
/-! JB: jobs as they are handed in; what a tool can do. -/
namespace JJ
open PySem PySem.Spec PyProof.Rows L2 DL
def SqP (p : P) (xs : List P) : Prop := p = .list xs ∨ p = .tuple xs
abbrev nI (n : Nat) : P := .int (n : Nat)
def tN (D : List Nat) : P := .tuple (D.map nI)
def JR (p : P) (j : Job) : Prop := ∃ q, SqP q (j.2.map nI) ∧ SqP p [.int j.1, q]
/-- small enough -/
def Sml (js : List Job) : Prop := js.length ≤ 20 ∧ ∀ n, (nd js n).length ≤ 1000
def JS (p : P) (js : List Job) : Prop := (∃ ps, SqP p ps ∧ Paired JR ps js) ∧ Sml js
section
variable {S : Sto} {e : Envi} {p : P} {xs : List P}
theorem sq_len (h : SqP p xs) {Q : D × Sto → Prop} (q : Q (.pu (.int xs.length), S)) : W (gLen [.pu p] S) Q := by
  rcases h with rfl | rfl
  · refine ⟨_, ?_, q⟩
    simp [gLen, seqD]
  · refine ⟨_, ?_, q⟩
    simp [gLen, seqD]
theorem sq_lenA (h : SqP p xs) {Q : D × Sto → Prop} (q : Q (.pu (.int xs.length), S)) : W (gLenA [.pu p] S) Q := by
  have h1 := sq_len (S := S) h q
  rcases h with rfl | rfl <;> exact h1
theorem sq_it (h : SqP p xs) {Q : Bool × List D → Prop} (q : ∀ b, Q (b, xs.map .pu)) : W (itemsD (.pu p)) Q := by
  rcases h with rfl | rfl
  · exact ⟨_, rfl, q false⟩
  · exact ⟨_, rfl, q true⟩
theorem sq_seq (h : SqP p xs) {Q : Bool × List D → Prop} (q : ∀ b, Q (b, xs.map .pu)) : W (seqD (.pu p) S) Q := by
  rcases h with rfl | rfl
  · exact ⟨_, rfl, q false⟩
  · exact ⟨_, rfl, q true⟩
theorem atI_nat {α : Type} {l : List α} {i : Nat} {x : α} (h : l[i]? = some x) : atI l (i : Int) = some x := by
  have hi := (List.getElem?_eq_some_iff.mp h).1
  unfold atI ixN
  rw [if_pos (by omega), if_pos (by omega)]
  simpa using h
theorem sq_ix (h : SqP p xs) {i : Nat} {x : P} (hx : xs[i]? = some x) {Q : D × Sto → Prop} (q : Q (.pu x, S)) : W (gIx (.pu p) (.pu (.int i)) S) Q := by
  have a := atI_nat (l := xs.map D.pu) (i := i) (x := .pu x) (by rw [List.getElem?_map, hx]; rfl)
  rcases h with rfl | rfl
  · refine ⟨_, ?_, q⟩
    show (seqD (.pu (.list xs)) S).bind (fun q => (atI q.2 (i : Int)).bind fun z => some (z, S)) = _
    show (atI (xs.map D.pu) (i : Int)).bind (fun z => some (z, S)) = _
    rw [a]
    rfl
  · refine ⟨_, ?_, q⟩
    show (seqD (.pu (.tuple xs)) S).bind (fun q => (atI q.2 (i : Int)).bind fun z => some (z, S)) = _
    show (atI (xs.map D.pu) (i : Int)).bind (fun z => some (z, S)) = _
    rw [a]
    rfl
theorem sq_get (h : SqP p xs) {i : Nat} {x : P} (hx : xs[i]? = some x) {Q : D × Sto → Prop} (q : Q (.pu x, S)) : W (gGet (.pu p) (.pu (.int i)) S) Q := by
  have h1 := sq_ix (S := S) h hx q
  have e1 : gGet (.pu p) (.pu (.int i)) S = gIx (.pu p) (.pu (.int i)) S := by
    rcases h with rfl | rfl <;> rfl
  rw [e1]
  exact h1
theorem shp_ints (ns : List P) (h : ∀ p ∈ ns, ∃ i, p = .int i) (k : Nat) : ns.all (shp (k + 1)) = true := by
  refine List.all_eq_true.mpr fun p hp => ?_
  obtain ⟨i, rfl⟩ := h p hp
  rfl
theorem any_nat (O : List Nat) (n : Nat) : ((O.map nI).any fun z => PyData.eqv z (nI n)) = decide (n ∈ O) := by
  rw [Bool.eq_iff_iff, List.any_eq_true, decide_eq_true_eq]
  constructor
  · rintro ⟨z, hz, e⟩
    obtain ⟨m, hm, rfl⟩ := List.mem_map.mp hz
    have : (m : Int) = (n : Int) := by
      have e : (decide ((m : Int) = (n : Int))) = true := by simpa [PyData.eqv] using e
      exact of_decide_eq_true e
    rw [← Int.ofNat.inj this]
    exact hm
  · intro h
    exact ⟨_, List.mem_map.mpr ⟨n, h, rfl⟩, by simp [PyData.eqv]⟩
theorem in_nat {neg : Bool} {n : Nat} {O : List Nat} (h : SqP p (O.map nI)) {Q : D × Sto → Prop} (q : Q (.pu (.bool (if neg then !decide (n ∈ O) else decide (n ∈ O))), S)) : W (gIn neg (.pu (.int n)) (.pu p) S) Q := by
  have hs : (O.map nI).all (shp 8) = true := shp_ints _ (fun p hp => by obtain ⟨m, _, rfl⟩ := List.mem_map.mp hp; exact ⟨_, rfl⟩) 7
  have a := any_nat O n
  rcases h with rfl | rfl
  · refine w_inL.mpr ⟨?_, ?_⟩
    · show (true && (O.map nI).all (shp 8)) = true
      rw [hs]
      rfl
    · rw [a]
      exact q
  · refine w_inT.mpr ⟨?_, ?_⟩
    · show (true && (O.map nI).all (shp 8)) = true
      rw [hs]
      rfl
    · rw [a]
      exact q
theorem bls_fn {α : Type} (f : α → Bool) : ∀ xs : List α, blsOf ((xs.map fun x => PyData.bool (f x)).map D.pu) = some (xs.map f)
  | [] => rfl
  | x :: xs => by
    show (blsOf ((xs.map fun x => PyData.bool (f x)).map D.pu)).bind _ = _
    rw [bls_fn f xs]
    rfl
theorem bls_w {α : Type} {f : α → Bool} {xs : List α} {Q : List Bool → Prop} (q : Q (xs.map f)) : W (blsOf ((xs.map fun x => PyData.bool (f x)).map D.pu)) Q := by
  rw [bls_fn, w_some]
  exact q
/-! ### jobs -/
variable {js : List Job} {n : Nat}
theorem js_get (h : JS p js) (hn : n < js.length) : ∃ ps x, SqP p ps ∧ ps.length = js.length ∧ ps[n]? = some x ∧ JR x (tl js n, nd js n) := by
  obtain ⟨⟨ps, h1, h2⟩, _⟩ := h
  obtain ⟨x, e, r⟩ := Paired.get2 h2 (List.getElem?_eq_getElem hn)
  refine ⟨ps, x, h1, Paired.length h2, e, ?_⟩
  have e2 : js.getD n (0, []) = js[n] := by rw [List.getD_eq_getElem?_getD, List.getElem?_eq_getElem hn]; rfl
  unfold tl nd
  rw [e2]
  exact r
theorem job_of (h : JS p js) (hn : n < js.length) {Q : D × Sto → Prop} (q : ∀ x, JR x (tl js n, nd js n) → Q (.pu x, S)) : W (gGet (.pu p) (.pu (.int n)) S) Q := by
  obtain ⟨ps, x, h1, _, h2, h3⟩ := js_get h hn
  exact sq_get h1 h2 (q x h3)
theorem jr_tl {x : P} {j : Job} (h : JR x j) {Q : D × Sto → Prop} (q : Q (.pu (.int j.1), S)) : W (gIx (.pu x) (.pu (.int 0)) S) Q := by
  obtain ⟨y, _, h2⟩ := h
  exact sq_ix (i := 0) h2 rfl q
theorem jr_nd {x : P} {j : Job} (h : JR x j) {Q : D × Sto → Prop} (q : ∀ y, SqP y (j.2.map nI) → Q (.pu y, S)) : W (gIx (.pu x) (.pu (.int 1)) S) Q := by
  obtain ⟨y, h1, h2⟩ := h
  exact sq_ix (i := 1) h2 rfl (q y h1)
theorem js_len (h : JS p js) {Q : D × Sto → Prop} (q : Q (.pu (.int js.length), S)) : W (gLen [.pu p] S) Q := by
  obtain ⟨⟨ps, h1, h2⟩, _⟩ := h
  refine sq_len h1 ?_
  rw [Paired.length h2]
  exact q
theorem js_lenA (h : JS p js) {Q : D × Sto → Prop} (q : Q (.pu (.int js.length), S)) : W (gLenA [.pu p] S) Q := by
  obtain ⟨⟨ps, h1, h2⟩, _⟩ := h
  refine sq_lenA h1 ?_
  rw [Paired.length h2]
  exact q
instance {O : List Nat} : Decidable (Can js O n) := by unfold Can; infer_instance
theorem can_ok {d : P} {O : List Nat} (h : JS p js) (hn : n < js.length) (hd : SqP d (O.map nI)) {Q : P → Prop} (q : Q (.bool (decide (Can js O n)))) : W (m_can_be_done [p, .int n, d]) Q := by
  unfold m_can_be_done
  rw [w_runP]
  refine ⟨⟨rfl, by decide⟩, ?_⟩
  rw [show env0 4 (List.map D.pu [p, .int n, d]) = [some (.val (.pu p)), some (.val (.pu (.int n))), some (.val (.pu d)), none] from rfl]
  unfold b_can_be_done
  simp only [DL.evA, DL.evH, DL.evJ, DL.evM, DL.evQ, DL.evU, DL.evX, List.getElem?_cons_zero, List.getElem?_cons_succ, List.set_cons_zero, List.set_cons_succ, ↓reduceIte, Bool.false_eq_true, List.map_cons, List.map_nil, List.length_cons, List.length_nil, Bool.not_true, Bool.not_false]
  refine in_nat hd ?_
  simp only [DL.evA, DL.evH, DL.evJ, DL.evM, DL.evQ, DL.evU, DL.evX, List.getElem?_cons_zero, List.getElem?_cons_succ, List.set_cons_zero, List.set_cons_succ, ↓reduceIte, Bool.false_eq_true, List.map_cons, List.map_nil, List.length_cons, List.length_nil, Bool.not_true, Bool.not_false]
  refine both (fun h1 => ?_) fun h1 => ?_
  · have h1 : n ∉ O := by simpa using h1
    refine job_of h hn fun x hx => ?_
    simp only [DL.evA, DL.evH, DL.evJ, DL.evM, DL.evQ, DL.evU, DL.evX, List.getElem?_cons_zero, List.getElem?_cons_succ, List.set_cons_zero, List.set_cons_succ, ↓reduceIte, Bool.false_eq_true, List.map_cons, List.map_nil, List.length_cons, List.length_nil, Bool.not_true, Bool.not_false]
    refine jr_nd hx fun y hy => sq_it hy fun b => ?_
    simp only [DL.evA, DL.evH, DL.evJ, DL.evM, DL.evQ, DL.evU, DL.evX, List.getElem?_cons_zero, List.getElem?_cons_succ, List.set_cons_zero, List.set_cons_succ, ↓reduceIte, Bool.false_eq_true, List.map_cons, List.map_nil, List.length_cons, List.length_nil, Bool.not_true, Bool.not_false]
    refine comp_on nI (fun m => .bool (decide (m ∈ O))) _ (fun m hm R r => ?_) (by have := h.2.2 n; unfold lim; omega) ?_
    · simp only [wipeE, DL.evA, DL.evH, DL.evJ, DL.evM, DL.evQ, DL.evU, DL.evX, List.getElem?_cons_zero, List.getElem?_cons_succ, List.set_cons_zero, List.set_cons_succ, ↓reduceIte, Bool.false_eq_true, List.map_cons, List.map_nil, List.length_cons, List.length_nil, Bool.not_true, Bool.not_false]
      refine ⟨trivial, in_nat hd ?_⟩
      (try simp only [DL.evA, DL.evH, DL.evJ, DL.evM, DL.evQ, DL.evU, DL.evX, List.getElem?_cons_zero, List.getElem?_cons_succ, List.set_cons_zero, List.set_cons_succ, ↓reduceIte, Bool.false_eq_true, List.map_cons, List.map_nil, List.length_cons, List.length_nil, Bool.not_true, Bool.not_false])
      exact r
    · simp only [DL.evA, DL.evH, DL.evJ, DL.evM, DL.evQ, DL.evU, DL.evX, List.getElem?_cons_zero, List.getElem?_cons_succ, List.set_cons_zero, List.set_cons_succ, ↓reduceIte, Bool.false_eq_true, List.map_cons, List.map_nil, List.length_cons, List.length_nil, Bool.not_true, Bool.not_false]
      refine bls_w ?_
      rw [List.all_map]
      have e1 : decide (Can js O n) = (nd js n).all (id ∘ fun m => decide (m ∈ O)) := by
        rw [Bool.eq_iff_iff, decide_eq_true_eq, List.all_eq_true]
        exact ⟨fun z m hm => decide_eq_true (z.2 m hm), fun z => ⟨h1, fun m hm => of_decide_eq_true (z m hm)⟩⟩
      rw [e1] at q
      exact q
  · have h1 : n ∈ O := by simpa using h1
    rw [decide_eq_false (p := Can js O n) fun z => z.1 h1] at q
    exact q
end
end JJ
/-! JC: what a tool can do, walked. -/
namespace JJ
open PySem PySem.Spec PyProof.Rows L2 DL
section
variable {S : Sto} {e : Envi} {p : P} {xs : List P} {js : List Job} {n : Nat} {O F : List Nat} {t : Int}
theorem sq_ey (h : SqP p xs) {Q : List D × Sto → Prop} (q : Q (numD 0 xs, S)) : eyQ Q S [.pu p] := by
  rcases h with rfl | rfl <;> exact q
/-- a walk over jobs, numbered -/
theorem for_jobs {ps : List P} (h : Paired JR ps js) {b : D → Envi → Sto → Option Out} {Q : Out → Prop} (I : Nat → Envi → Sto → Prop) (h0 : I 0 e S)
    (st : ∀ n x e S, n < js.length → JR x (tl js n, nd js n) → I n e S → W (b (.pu (.tuple [.int n, x])) e S) (loopQ (I (n + 1)) Q)) (q : ∀ e S, I js.length e S → Q (.nx e S)) : W (forD b (numD 0 ps) e S) Q := by
  refine for_inv (fun j e S => I j e S) _ 0 _ _ h0 (fun i d e S hd hi => ?_) fun e S hq => ?_
  · obtain ⟨x, hx, rfl⟩ := numD_get 0 ps i d hd
    obtain ⟨j, hj, r⟩ := Paired.get1 h hx
    have hn := (List.getElem?_eq_some_iff.mp hj).1
    rw [Nat.zero_add] at hi ⊢
    refine st i x e S hn ?_ hi
    unfold tl nd
    rw [List.getD_eq_getElem?_getD, hj]
    exact r
  · rw [Nat.zero_add] at hq
    have hl : (numD 0 ps).length = js.length := by
      have key : ∀ (k : Nat) (ps : List P), (numD k ps).length = ps.length := by
        intro k ps
        induction ps generalizing k with
        | nil => rfl
        | cons x ps ih => show (numD (k + 1) ps).length + 1 = _; rw [ih]; rfl
      rw [key, Paired.length h]
    rw [hl] at hq
    exact q e S hq
/-- found so far -/
structure Fnd (js : List Job) (t : Int) (O F : List Nat) : Prop where
  nd : F.Nodup
  up : ∀ m ∈ O, m ∈ F
  cl : ∀ m ∈ F, m < js.length ∧ Cl js t O m
theorem Fnd.len (h : Fnd js t O F) : F.length ≤ js.length := len_le h.nd fun m hm => (h.cl m hm).1
theorem Fnd.put (h : Fnd js t O F) (hn : n < js.length) (ht : tl js n = t) (c : Can js F n) : Fnd js t O (F ++ [n]) := by
  refine ⟨?_, fun m hm => List.mem_append_left _ (h.up m hm), fun m hm => ?_⟩
  · rw [List.nodup_append]
    refine ⟨h.nd, by simp, fun a ha b hb e => ?_⟩
    rw [List.mem_singleton.mp hb] at e
    exact c.1 (e ▸ ha)
  · rcases List.mem_append.mp hm with z | z
    · exact h.cl m z
    · rw [List.mem_singleton.mp z]
      exact ⟨hn, .step hn ht fun m hm => (h.cl m (c.2 m hm)).2⟩
theorem Fnd.fin (h : Fnd js t O F) (z : ∀ n < js.length, tl js n = t → ¬ Can js F n) : (F.mergeSort fun a b => decide (a ≤ b)) = gone js t O := by
  refine srt_ext ?_ srt_gone fun m => ?_
  · have hs := List.pairwise_mergeSort (le := fun a b : Nat => decide (a ≤ b)) (fun a b c h1 h2 => by simp at *; omega) (fun a b => by simp; omega) F
    have hn : (F.mergeSort fun a b => decide (a ≤ b)).Nodup := (List.mergeSort_perm F _).nodup_iff.mpr h.nd
    refine (hs.and hn).imp fun {a b} hh => ?_
    obtain ⟨h1, h2⟩ := hh
    rw [decide_eq_true_eq] at h1
    have : a ≠ b := h2
    omega
  · rw [List.mem_mergeSort, mem_gone]
    exact ⟨fun k => h.cl m k, fun k => gone_none z (k.2.mono h.up)⟩
theorem leP_nat (a b : Nat) : leP (nI a) (nI b) = decide (a ≤ b) := by
  show (!PySem.W.dataLt (nI b) (nI a)) = _
  rw [PySem.W.dataLt_int, ← decide_not]
  congr 1
  simp only [eq_iff_iff]
  omega
theorem sort_nat (F : List Nat) : (F.map nI).mergeSort leP = (F.mergeSort fun a b => decide (a ≤ b)).map nI :=
  (List.map_mergeSort (r := fun a b : Nat => decide (a ≤ b)) (s := leP) (f := nI) fun a _ b _ => (leP_nat a b).symm).symm
theorem srt_i {zs : List Int} (h : zs.length ≤ lim) : srtOk (zs.map PyData.int) = true := by
  have a1 : (zs.map PyData.int).all (fun d => (zs.map PyData.int).all fun d' => PySem.W.alike d d') = true := List.all_eq_true.mpr fun x hx => List.all_eq_true.mpr fun y hy => by
    obtain ⟨a, _, rfl⟩ := List.mem_map.mp hx
    obtain ⟨b, _, rfl⟩ := List.mem_map.mp hy
    rfl
  have a2 : (zs.map PyData.int).all noTup = true := List.all_eq_true.mpr fun x hx => by
    obtain ⟨a, _, rfl⟩ := List.mem_map.mp hx
    rfl
  have a3 : (zs.map PyData.int).all (shp 8) = true := List.all_eq_true.mpr fun x hx => by
    obtain ⟨a, _, rfl⟩ := List.mem_map.mp hx
    rfl
  unfold srtOk
  rw [a1, a2, a3, List.length_map]
  simp [h]
theorem srt_okN (h : F.length ≤ 1000) : srtOk (F.map nI) = true := by
  have := srt_i (zs := F.map fun n : Nat => (n : Int)) (by rw [List.length_map]; unfold lim; omega)
  rw [List.map_map] at this
  exact this
theorem eq_int {a b : Int} {Q : D × Sto → Prop} (q : Q (.pu (.bool (decide (a = b))), S)) : W (gEq false (.pu (.int a)) (.pu (.int b)) S) Q := by
  refine w_eq.mpr ⟨rfl, ?_⟩
  have e : PyData.eqv (.int a) (.int b) = decide (a = b) := by
    rw [Bool.eq_iff_iff, decide_eq_true_eq]
    simp [PyData.eqv]
  rw [if_neg Bool.false_ne_true, e]
  exact q
theorem gone_on_ok {d : P} (h : JS p js) (hd : SqP d (O.map nI)) (hO : O.Nodup) (hs : Sub js O) {Q : P → Prop} (q : Q (tN (gone js t O))) : W (m_gone_on [p, .int t, d]) Q := by
  have hOl := len_le hO hs
  have h1000 := h.2.1
  unfold m_gone_on
  rw [w_runP]
  refine ⟨⟨rfl, by decide⟩, ?_⟩
  rw [show env0 7 (List.map D.pu [p, .int t, d]) = [some (.val (.pu p)), some (.val (.pu (.int t))), some (.val (.pu d)), none, none, none, none] from rfl]
  unfold b_gone_on
  simp only [DL.evA, DL.evH, DL.evJ, DL.evM, DL.evQ, DL.evU, DL.evX, List.getElem?_cons_zero, List.getElem?_cons_succ, List.set_cons_zero, List.set_cons_succ, ↓reduceIte, Bool.false_eq_true, List.map_cons, List.map_nil, List.length_cons, List.length_nil, Bool.not_true, Bool.not_false]
  refine sq_seq hd fun b => ?_
  simp only [DL.evA, DL.evH, DL.evJ, DL.evM, DL.evQ, DL.evU, DL.evX, List.getElem?_cons_zero, List.getElem?_cons_succ, List.set_cons_zero, List.set_cons_succ, ↓reduceIte, Bool.false_eq_true, List.map_cons, List.map_nil, List.length_cons, List.length_nil, Bool.not_true, Bool.not_false]
  refine ⟨by decide, ?_⟩
  refine while_inv (fun k e S => ∃ (F : List Nat) (g : Bool) (e5 e6 : Option Sl), e = [some (.val (.pu p)), some (.val (.pu (.int t))), some (.val (.pu d)), some (.ow (.lst (F.map nI))), some (.val (.pu (.bool g))), e5, e6] ∧ S = [] ∧ Fnd js t O F ∧ (g = false → ∀ n < js.length, tl js n = t → ¬ Can js F n) ∧ k = 2 * (js.length - F.length) + g.toNat) ?_ _ _ _ ⟨O, true, _, _, rfl, rfl, ⟨hO, fun _ h => h, fun m hm => ⟨hs m hm, .base hm⟩⟩, fun z => (by cases z), rfl⟩
  rintro k e S ⟨F, g, e5, e6, rfl, rfl, hF, hg, rfl⟩
  have hFl := hF.len
  (try simp only [DL.evA, DL.evH, DL.evJ, DL.evM, DL.evQ, DL.evU, DL.evX, List.getElem?_cons_zero, List.getElem?_cons_succ, List.set_cons_zero, List.set_cons_succ, ↓reduceIte, Bool.false_eq_true, List.map_cons, List.map_nil, List.length_cons, List.length_nil, Bool.not_true, Bool.not_false])
  cases g with
  | false =>
    rw [if_neg Bool.false_ne_true]
    (try simp only [DL.evA, DL.evH, DL.evJ, DL.evM, DL.evQ, DL.evU, DL.evX, List.getElem?_cons_zero, List.getElem?_cons_succ, List.set_cons_zero, List.set_cons_succ, ↓reduceIte, Bool.false_eq_true, List.map_cons, List.map_nil, List.length_cons, List.length_nil, Bool.not_true, Bool.not_false])
    refine sort_own (srt_okN (by omega)) ?_
    (try simp only [DL.evA, DL.evH, DL.evJ, DL.evM, DL.evQ, DL.evU, DL.evX, List.getElem?_cons_zero, List.getElem?_cons_succ, List.set_cons_zero, List.set_cons_succ, ↓reduceIte, Bool.false_eq_true, List.map_cons, List.map_nil, List.length_cons, List.length_nil, Bool.not_true, Bool.not_false])
    rw [sort_nat, hF.fin (hg rfl)]
    exact q
  | true =>
    rw [if_pos rfl]
    (try simp only [DL.evA, DL.evH, DL.evJ, DL.evM, DL.evQ, DL.evU, DL.evX, List.getElem?_cons_zero, List.getElem?_cons_succ, List.set_cons_zero, List.set_cons_succ, ↓reduceIte, Bool.false_eq_true, List.map_cons, List.map_nil, List.length_cons, List.length_nil, Bool.not_true, Bool.not_false])
    obtain ⟨⟨ps, hp1, hp2⟩, _⟩ := id h
    refine enumY_of ?_
    (try simp only [DL.evA, DL.evH, DL.evJ, DL.evM, DL.evQ, DL.evU, DL.evX, List.getElem?_cons_zero, List.getElem?_cons_succ, List.set_cons_zero, List.set_cons_succ, ↓reduceIte, Bool.false_eq_true, List.map_cons, List.map_nil, List.length_cons, List.length_nil, Bool.not_true, Bool.not_false])
    refine sq_ey hp1 ?_
    refine for_jobs hp2 (fun i e S => ∃ (F' : List Nat) (g : Bool) (e5 e6 : Option Sl), e = [some (.val (.pu p)), some (.val (.pu (.int t))), some (.val (.pu d)), some (.ow (.lst (F'.map nI))), some (.val (.pu (.bool g))), e5, e6] ∧ S = [] ∧ Fnd js t O F' ∧ (g = true → F.length < F'.length) ∧ (g = false → F' = F ∧ ∀ n < i, tl js n = t → ¬ Can js F n)) ⟨F, false, _, _, rfl, rfl, hF, fun z => (by cases z), fun _ => ⟨rfl, fun n hn => absurd hn (Nat.not_lt_zero _)⟩⟩ ?_ ?_
    · rintro n x e S hn hx ⟨F', g, e5, e6, rfl, rfl, hF', hg1, hg2⟩
      have hFl' := hF'.len
      (try simp only [DL.evA, DL.evH, DL.evJ, DL.evM, DL.evQ, DL.evU, DL.evX, List.getElem?_cons_zero, List.getElem?_cons_succ, List.set_cons_zero, List.set_cons_succ, ↓reduceIte, Bool.false_eq_true, List.map_cons, List.map_nil, List.length_cons, List.length_nil, Bool.not_true, Bool.not_false])
      refine ⟨trivial, jr_tl hx (eq_int ?_)⟩
      (try simp only [DL.evA, DL.evH, DL.evJ, DL.evM, DL.evQ, DL.evU, DL.evX, List.getElem?_cons_zero, List.getElem?_cons_succ, List.set_cons_zero, List.set_cons_succ, ↓reduceIte, Bool.false_eq_true, List.map_cons, List.map_nil, List.length_cons, List.length_nil, Bool.not_true, Bool.not_false])
      refine both (fun ht => ?_) fun ht => ?_
      · have ht : tl js n = t := by simpa using ht
        refine tf_own rfl rfl ?_
        (try simp only [DL.evA, DL.evH, DL.evJ, DL.evM, DL.evQ, DL.evU, DL.evX, List.getElem?_cons_zero, List.getElem?_cons_succ, List.set_cons_zero, List.set_cons_succ, ↓reduceIte, Bool.false_eq_true, List.map_cons, List.map_nil, List.length_cons, List.length_nil, Bool.not_true, Bool.not_false])
        refine can_ok h hn (.inl rfl) ?_
        refine ⟨_, rfl, rfl, ?_⟩
        (try simp only [DL.evA, DL.evH, DL.evJ, DL.evM, DL.evQ, DL.evU, DL.evX, List.getElem?_cons_zero, List.getElem?_cons_succ, List.set_cons_zero, List.set_cons_succ, ↓reduceIte, Bool.false_eq_true, List.map_cons, List.map_nil, List.length_cons, List.length_nil, Bool.not_true, Bool.not_false])
        refine both (fun hc => ?_) fun hc => ?_
        · have hc : Can js F' n := by simpa using hc
          (try simp only [DL.evA, DL.evH, DL.evJ, DL.evM, DL.evQ, DL.evU, DL.evX, List.getElem?_cons_zero, List.getElem?_cons_succ, List.set_cons_zero, List.set_cons_succ, ↓reduceIte, Bool.false_eq_true, List.map_cons, List.map_nil, List.length_cons, List.length_nil, Bool.not_true, Bool.not_false])
          (repeat refine And.intro (by first | exact True.intro | exact Nat.le_of_ble_eq_true rfl | with_reducible_and_instances rfl | exact rfl | decide) ?_)
          refine ⟨by rw [List.length_map]; unfold lim; omega, F' ++ [n], true, _, _, by rw [List.map_append]; rfl, trivial, hF'.put hn ht hc, fun _ => ?_, fun z => (by cases z)⟩
          rw [List.length_append, List.length_singleton]
          cases g with
          | true => have := hg1 rfl; omega
          | false => rw [(hg2 rfl).1]; omega
        · have hc : ¬ Can js F' n := by simpa using hc
          (try simp only [DL.evA, DL.evH, DL.evJ, DL.evM, DL.evQ, DL.evU, DL.evX, List.getElem?_cons_zero, List.getElem?_cons_succ, List.set_cons_zero, List.set_cons_succ, ↓reduceIte, Bool.false_eq_true, List.map_cons, List.map_nil, List.length_cons, List.length_nil, Bool.not_true, Bool.not_false])
          refine ⟨F', g, _, _, rfl, trivial, hF', hg1, fun z => ⟨(hg2 z).1, fun m hm htm => ?_⟩⟩
          by_cases e : m = n
          · subst e
            rw [← (hg2 z).1]
            exact hc
          · exact (hg2 z).2 m (by omega) htm
      · have ht : ¬ tl js n = t := by simpa using ht
        (try simp only [DL.evA, DL.evH, DL.evJ, DL.evM, DL.evQ, DL.evU, DL.evX, List.getElem?_cons_zero, List.getElem?_cons_succ, List.set_cons_zero, List.set_cons_succ, ↓reduceIte, Bool.false_eq_true, List.map_cons, List.map_nil, List.length_cons, List.length_nil, Bool.not_true, Bool.not_false])
        refine ⟨F', g, _, _, rfl, trivial, hF', hg1, fun z => ⟨(hg2 z).1, fun m hm htm => ?_⟩⟩
        by_cases e : m = n
        · subst e
          exact absurd htm ht
        · exact (hg2 z).2 m (by omega) htm
    · rintro e S ⟨F', g, e5, e6, rfl, rfl, hF', hg1, hg2⟩
      (try simp only [DL.evA, DL.evH, DL.evJ, DL.evM, DL.evQ, DL.evU, DL.evX, List.getElem?_cons_zero, List.getElem?_cons_succ, List.set_cons_zero, List.set_cons_succ, ↓reduceIte, Bool.false_eq_true, List.map_cons, List.map_nil, List.length_cons, List.length_nil, Bool.not_true, Bool.not_false])
      have hFl' := hF'.len
      refine ⟨_, ?_, F', g, _, _, rfl, trivial, hF', fun z n hn htn => ?_, rfl⟩
      · cases g with
        | true => have := hg1 rfl; simp only [Bool.toNat_true]; omega
        | false => rw [(hg2 rfl).1]; simp only [Bool.toNat_true, Bool.toNat_false]; omega
      · rw [(hg2 z).1]
        exact (hg2 z).2 n hn htn
/-! ### the law's own -/
end
end JJ
/-! JD: the tools, no ring. -/
namespace JJ
open PySem PySem.Spec PyProof.Rows L2 DL
section
variable {S : Sto} {e : Envi} {p : P} {xs : List P} {js : List Job} {n : Nat} {O F : List Nat} {t : Int}
theorem paired_zip {α β : Type} {R : α → β → Prop} : ∀ {xs : List α} {ys : List β}, Paired R xs ys → xs = (xs.zip ys).map (·.1) ∧ ys = (xs.zip ys).map (·.2) ∧ ∀ z ∈ xs.zip ys, R z.1 z.2
  | _, _, .nil => ⟨rfl, rfl, fun z hz => (by cases hz)⟩
  | x :: xs, y :: ys, .cons h t => by
    obtain ⟨h1, h2, h3⟩ := paired_zip t
    refine ⟨by rw [List.zip_cons_cons, List.map_cons, ← h1], by rw [List.zip_cons_cons, List.map_cons, ← h2], fun z hz => ?_⟩
    rw [List.zip_cons_cons] at hz
    rcases List.mem_cons.mp hz with rfl | hz
    · exact h
    · exact h3 z hz
theorem comp_jobs {ps : List P} (h : Paired JR ps js) {g : Gt} {t : Tx} {x : Ex} (hh : Job → P) (hl : js.length ≤ 20) (st : ∀ y j, JR y j → ∀ Q : P → Sto → Prop, Q (hh j) S → W (g (.pu y) e S) fun q => W (t q.1 q.2) fun b => b.1 = true ∧ W (x q.1 b.2) fun r => puQ Q r.2 r.1) {Q : List P × Sto → Prop} (q : Q (js.map hh, S)) : W (compD g t x e (ps.map .pu) S []) Q := by
  obtain ⟨h1, h2, h3⟩ := paired_zip h
  have hl2 := Paired.length h
  rw [h1]
  refine comp_on (fun z : P × Job => z.1) (fun z => hh z.2) (ps.zip js) (fun z hz R r => st z.1 z.2 (h3 z hz) R r) (by rw [List.length_zip]; unfold lim; omega) ?_
  have e1 : (ps.zip js).map (fun z => hh z.2) = js.map hh := by
    conv => rhs; rw [h2, List.map_map]
    rfl
  rw [e1]
  exact q
def tls (js : List Job) : List Int := sset (js.map (·.1))
theorem ints_map : ∀ ns : List Int, intsOf ((ns.map PyData.int).map D.pu) = some ns
  | [] => rfl
  | n :: ns => by
    show (intsOf ((ns.map PyData.int).map D.pu)).bind _ = _
    rw [ints_map ns]
    rfl
theorem sset_of {x : Ex} {Q : D × Sto → Prop} (h : W (x e S) fun r => ∃ ns : List Int, r.1 = .pu (.list (ns.map .int)) ∧ ns.length ≤ 4000 ∧ (sset ns).length < 64 ∧ Q (.pu (.list ((sset ns).map .int)), r.2)) : W (xSSet x e S) Q := by
  unfold xSSet
  rw [DL.w_bind]
  refine h.imp fun r hr => ?_
  obtain ⟨d, S1⟩ := r
  obtain ⟨ns, rfl, h1, h2, q⟩ := hr
  show W ((intsOf ((ns.map PyData.int).map D.pu)).bind fun ns => if (decide (ns.length ≤ 4000) && decide ((sset ns).length < 64)) = true then some (.pu (.list ((sset ns).map .int)), S1) else none) Q
  rw [ints_map, Option.bind_some, decide_eq_true h1, decide_eq_true h2, if_pos (by decide), w_some]
  exact q
theorem nd_len {α : Type} [DecidableEq α] : ∀ (l D : List α), l.Nodup → (∀ x ∈ l, x ∈ D) → l.length ≤ D.length
  | [], _, _, _ => Nat.zero_le _
  | x :: l, D, hn, hs => by
    obtain ⟨h1, h2⟩ := List.nodup_cons.mp hn
    have hx : x ∈ D := hs x List.mem_cons_self
    have ih := nd_len l (D.erase x) h2 fun y hy => (List.mem_erase_of_ne fun e => h1 (by rw [← e]; exact hy)).2 (hs y (List.mem_cons_of_mem _ hy))
    have e := List.length_erase_of_mem hx
    have hp : 0 < D.length := List.length_pos_of_mem hx
    rw [List.length_cons]
    omega
theorem sset_le (ns : List Int) : (sset ns).length ≤ ns.length :=
  nd_len _ _ ((sset_rise ns).imp fun {a b} h => by intro e; omega) fun x hx => sset_mem.mp hx
theorem tls_len (h : js.length ≤ 20) : (tls js).length ≤ 20 := by
  have := sset_le (js.map (·.1))
  rw [List.length_map] at this
  unfold tls
  omega
theorem mem_tls : t ∈ tls js ↔ ∃ n, n < js.length ∧ tl js n = t := by
  unfold tls
  rw [sset_mem, List.mem_map]
  constructor
  · rintro ⟨j, hj, rfl⟩
    obtain ⟨n, hn, e⟩ := List.getElem_of_mem hj
    refine ⟨n, hn, ?_⟩
    unfold tl
    rw [List.getD_eq_getElem?_getD, List.getElem?_eq_getElem hn, ← e]
    rfl
  · rintro ⟨n, hn, e⟩
    refine ⟨js[n], List.getElem_mem hn, ?_⟩
    rw [← e]
    unfold tl
    rw [List.getD_eq_getElem?_getD, List.getElem?_eq_getElem hn]
    rfl
theorem tools_ok (h : JS p js) {Q : P → Prop} (q : Q (.list ((tls js).map .int))) : W (m_tools_of [p]) Q := by
  obtain ⟨⟨ps, hp1, hp2⟩, sm⟩ := h
  have h1 := sm.1
  unfold m_tools_of
  rw [w_runP]
  refine ⟨⟨rfl, by decide⟩, ?_⟩
  rw [show env0 2 (List.map D.pu [p]) = [some (.val (.pu p)), none] from rfl]
  unfold b_tools_of
  simp only [DL.evA, DL.evH, DL.evJ, DL.evM, DL.evQ, DL.evU, DL.evX, List.getElem?_cons_zero, List.getElem?_cons_succ, List.set_cons_zero, List.set_cons_succ, ↓reduceIte, Bool.false_eq_true, List.map_cons, List.map_nil, List.length_cons, List.length_nil, Bool.not_true, Bool.not_false]
  refine sset_of ?_
  (try simp only [DL.evA, DL.evH, DL.evJ, DL.evM, DL.evQ, DL.evU, DL.evX, List.getElem?_cons_zero, List.getElem?_cons_succ, List.set_cons_zero, List.set_cons_succ, ↓reduceIte, Bool.false_eq_true, List.map_cons, List.map_nil, List.length_cons, List.length_nil, Bool.not_true, Bool.not_false])
  refine sq_it hp1 fun b => ?_
  (try simp only [DL.evA, DL.evH, DL.evJ, DL.evM, DL.evQ, DL.evU, DL.evX, List.getElem?_cons_zero, List.getElem?_cons_succ, List.set_cons_zero, List.set_cons_succ, ↓reduceIte, Bool.false_eq_true, List.map_cons, List.map_nil, List.length_cons, List.length_nil, Bool.not_true, Bool.not_false])
  refine comp_jobs hp2 (fun j => .int j.1) h1 (fun y j hy R r => ?_) ?_
  · simp only [wipeE, DL.evA, DL.evH, DL.evJ, DL.evM, DL.evQ, DL.evU, DL.evX, List.getElem?_cons_zero, List.getElem?_cons_succ, List.set_cons_zero, List.set_cons_succ, ↓reduceIte, Bool.false_eq_true, List.map_cons, List.map_nil, List.length_cons, List.length_nil, Bool.not_true, Bool.not_false]
    refine ⟨trivial, jr_tl hy ?_⟩
    exact r
  · (try simp only [DL.evA, DL.evH, DL.evJ, DL.evM, DL.evQ, DL.evU, DL.evX, List.getElem?_cons_zero, List.getElem?_cons_succ, List.set_cons_zero, List.set_cons_succ, ↓reduceIte, Bool.false_eq_true, List.map_cons, List.map_nil, List.length_cons, List.length_nil, Bool.not_true, Bool.not_false])
    have hs := sset_le (js.map (·.1))
    rw [List.length_map] at hs
    refine ⟨js.map (·.1), by rw [List.map_map]; rfl, by rw [List.length_map]; omega, by omega, ?_⟩
    exact q
theorem rng0 (n : Nat) : rngD 0 n = ((List.range n).map nI).map D.pu := by
  unfold rngD
  rw [List.map_map]
  refine List.map_congr_left fun j _ => ?_
  show D.pu (.int (0 + (j : Int))) = D.pu (.int j)
  rw [Int.zero_add]
theorem round_ok (h : JS p js) (ac : Acy js) {Q : P → Prop} (q : Q .none) : W (m_look_round [p]) Q := by
  have h1 := h.2.1
  unfold m_look_round
  rw [w_runP]
  refine ⟨⟨rfl, by decide⟩, ?_⟩
  rw [show env0 5 (List.map D.pu [p]) = [some (.val (.pu p)), none, none, none, none] from rfl]
  unfold b_look_round
  simp only [DL.evA, DL.evH, DL.evJ, DL.evM, DL.evQ, DL.evU, DL.evX, List.getElem?_cons_zero, List.getElem?_cons_succ, List.set_cons_zero, List.set_cons_succ, ↓reduceIte, Bool.false_eq_true, List.map_cons, List.map_nil, List.length_cons, List.length_nil, Bool.not_true, Bool.not_false]
  refine ⟨(Nat.le_of_ble_eq_true rfl), ?_⟩
  refine while_inv (fun k e S => ∃ (F : List Nat) (g : Bool) (e3 e4 : Option Sl), e = [some (.val (.pu p)), some (.val (.pu (.list (F.map nI)))), some (.val (.pu (.bool g))), e3, e4] ∧ S = [] ∧ F.Nodup ∧ Sub js F ∧ (g = false → ∀ n < js.length, ¬ Can js F n) ∧ k = 2 * (js.length - F.length) + g.toNat) ?_ _ _ _ ⟨[], true, _, _, rfl, rfl, List.nodup_nil, fun n hn => (by cases hn), fun z => (by cases z), rfl⟩
  rintro k e S ⟨F, g, e3, e4, rfl, rfl, hn, hs, hg, rfl⟩
  have hFl := len_le hn hs
  (try simp only [DL.evA, DL.evH, DL.evJ, DL.evM, DL.evQ, DL.evU, DL.evX, List.getElem?_cons_zero, List.getElem?_cons_succ, List.set_cons_zero, List.set_cons_succ, ↓reduceIte, Bool.false_eq_true, List.map_cons, List.map_nil, List.length_cons, List.length_nil, Bool.not_true, Bool.not_false])
  cases g with
  | false =>
    rw [if_neg Bool.false_ne_true]
    (try simp only [DL.evA, DL.evH, DL.evJ, DL.evM, DL.evQ, DL.evU, DL.evX, List.getElem?_cons_zero, List.getElem?_cons_succ, List.set_cons_zero, List.set_cons_succ, ↓reduceIte, Bool.false_eq_true, List.map_cons, List.map_nil, List.length_cons, List.length_nil, Bool.not_true, Bool.not_false])
    refine js_len h ?_
    (try simp only [DL.evA, DL.evH, DL.evJ, DL.evM, DL.evQ, DL.evU, DL.evX, List.getElem?_cons_zero, List.getElem?_cons_succ, List.set_cons_zero, List.set_cons_succ, ↓reduceIte, Bool.false_eq_true, List.map_cons, List.map_nil, List.length_cons, List.length_nil, Bool.not_true, Bool.not_false])
    have all : js.length ≤ F.length := by
      rcases Nat.lt_or_ge F.length js.length with c | c
      · obtain ⟨m, m1, m2⟩ := some_left c
        obtain ⟨n, n1, n2, n3⟩ := ac F ⟨m, m1, m2⟩
        exact absurd ⟨n2, n3⟩ (hg rfl n n1)
      · exact c
    rw [List.length_map]
    refine both (fun z => ?_) fun z => ?_
    · have z : (F.length : Int) < js.length := by simpa using z
      omega
    · (try simp only [DL.evA, DL.evH, DL.evJ, DL.evM, DL.evQ, DL.evU, DL.evX, List.getElem?_cons_zero, List.getElem?_cons_succ, List.set_cons_zero, List.set_cons_succ, ↓reduceIte, Bool.false_eq_true, List.map_cons, List.map_nil, List.length_cons, List.length_nil, Bool.not_true, Bool.not_false])
      exact q
  | true =>
    rw [if_pos rfl]
    (try simp only [DL.evA, DL.evH, DL.evJ, DL.evM, DL.evQ, DL.evU, DL.evX, List.getElem?_cons_zero, List.getElem?_cons_succ, List.set_cons_zero, List.set_cons_succ, ↓reduceIte, Bool.false_eq_true, List.map_cons, List.map_nil, List.length_cons, List.length_nil, Bool.not_true, Bool.not_false])
    refine js_len h ?_
    refine w_rg.mpr ⟨by unfold rOk; simp; omega, ?_⟩
    rw [Int.toNat_natCast, rng0]
    refine comp_if nI nI (fun n => decide (Can js F n)) _ (fun n hn R N r1 r2 => ?_) (by rw [List.length_range]; unfold lim; omega) ?_
    · simp only [wipeE, DL.evA, DL.evH, DL.evJ, DL.evM, DL.evQ, DL.evU, DL.evX, List.getElem?_cons_zero, List.getElem?_cons_succ, List.set_cons_zero, List.set_cons_succ, ↓reduceIte, Bool.false_eq_true, List.map_cons, List.map_nil, List.length_cons, List.length_nil, Bool.not_true, Bool.not_false]
      refine can_ok h (List.mem_range.mp hn) (.inl rfl) ?_
      refine both (fun z => ?_) fun z => ?_
      · exact r1 z
      · exact r2 (by simpa using z)
    · have hM : ∀ m ∈ (List.range js.length).filter (fun n => decide (Can js F n)), m < js.length ∧ Can js F m := fun m hm => by
        rw [List.mem_filter, List.mem_range, decide_eq_true_eq] at hm
        exact hm
      have hnd : (F ++ (List.range js.length).filter (fun n => decide (Can js F n))).Nodup := by
        rw [List.nodup_append]
        exact ⟨hn, List.nodup_range.filter _, fun a ha b hb e => (hM b hb).2.1 (e ▸ ha)⟩
      have hsb : Sub js (F ++ (List.range js.length).filter (fun n => decide (Can js F n))) := fun m hm => (List.mem_append.mp hm).elim (hs m) fun z => (hM m z).1
      have hl2 := len_le hnd hsb
      rw [List.length_append] at hl2
      have fz : frzP (.lst (((List.range js.length).filter (fun n => decide (Can js F n))).map nI)) = .list (((List.range js.length).filter (fun n => decide (Can js F n))).map nI) := rfl
      rw [fz]
      (try simp only [DL.evA, DL.evH, DL.evJ, DL.evM, DL.evQ, DL.evU, DL.evX, List.getElem?_cons_zero, List.getElem?_cons_succ, List.set_cons_zero, List.set_cons_succ, ↓reduceIte, Bool.false_eq_true, List.map_cons, List.map_nil, List.length_cons, List.length_nil, Bool.not_true, Bool.not_false])
      (repeat refine And.intro (by first | exact True.intro | exact Nat.le_of_ble_eq_true rfl | with_reducible_and_instances rfl | exact rfl | decide) ?_)
      refine ⟨by rw [List.length_map, List.length_map]; unfold lim; omega, ?_⟩
      (try simp only [DL.evA, DL.evH, DL.evJ, DL.evM, DL.evQ, DL.evU, DL.evX, List.getElem?_cons_zero, List.getElem?_cons_succ, List.set_cons_zero, List.set_cons_succ, ↓reduceIte, Bool.false_eq_true, List.map_cons, List.map_nil, List.length_cons, List.length_nil, Bool.not_true, Bool.not_false])
      rw [List.length_map]
      refine ⟨_, ?_, F ++ (List.range js.length).filter (fun n => decide (Can js F n)), decide (0 < ((List.range js.length).filter (fun n => decide (Can js F n))).length), _, _, by rw [List.map_append]; congr 6; simp, trivial, hnd, hsb, fun z n hn hc => ?_, rfl⟩
      · rw [List.length_append]
        by_cases z : 0 < ((List.range js.length).filter (fun n => decide (Can js F n))).length
        · rw [decide_eq_true z]
          simp only [Bool.toNat_true]
          omega
        · rw [decide_eq_false z]
          simp only [Bool.toNat_true, Bool.toNat_false]
          omega
      · have z : ((List.range js.length).filter (fun n => decide (Can js F n))).length = 0 := by
          have := of_decide_eq_false z
          omega
        have e0 := List.length_eq_zero_iff.mp z
        have hc0 : Can js F n := ⟨fun x => hc.1 (List.mem_append_left _ x), fun m hm => by
          have := hc.2 m hm
          rw [e0, List.append_nil] at this
          exact this⟩
        have : n ∈ (List.range js.length).filter (fun n => decide (Can js F n)) := by
          rw [List.mem_filter, List.mem_range, decide_eq_true_eq]
          exact ⟨hn, hc0⟩
        rw [e0] at this
        cases this
end
end JJ
/-! LWZ: rules of frozen cells. -/
namespace DL
open PySem PySem.Spec PyProof.Rows L2
section
variable {e : Envi} {S : Sto}
theorem seq_rf {n : Nat} {ds : List D} (h : S[n]? = some (.lst ds)) : seqD (.rf n) S = some (false, ds) := by
  show (match S[n]? with | some (.lst ds) => some (false, ds) | some (.tup ds) => some (true, ds) | _ => none) = _
  rw [h]
theorem ls_rf {n : Nat} {ds : List D} {Q : List D → Prop} (h : S[n]? = some (.lst ds)) : W (lstD (.rf n) S) Q ↔ Q ds := by
  have e1 : lstD (.rf n) S = some ds := by
    show (seqD (.rf n) S).bind _ = _
    rw [seq_rf h]
    rfl
  rw [e1, w_some]
theorem putL_rf {n : Nat} {ds ds' : List D} {f : List D → Option (List D)} {Q : Envi × Sto → Prop} (h : S[n]? = some (.lst ds)) (hf : f ds = some ds') (hl : ds'.length ≤ lim) (q : Q (e, S.set n (.lst ds'))) : W (putL (.rf n) f e S) Q := by
  unfold putL
  dsimp only
  rw [h]
  dsimp only
  rw [hf, Option.bind_some, if_pos hl]
  exact w_some.mpr q
end
end DL
/-! JE: objects with fields; what is known of takes. -/
namespace JJ
open PySem PySem.Spec PyProof.Rows L2 DL
section
variable {S : Sto} {e : Envi} {p : P} {js : List Job} {n o c : Nat} {O F : List Nat} {t : Int}
/-! ### rules of objects -/
theorem w_fld {cn fl : Str} {x : Ex} {Q : D × Sto → Prop} : W (xFld cn x fl e S) Q ↔ W (x e S) fun r => W (objD cn r.1 r.2) fun q => W (q.2.lookup fl) fun d => Q (d, r.2) := by
  unfold xFld
  simp only [DL.w_bind, DL.w_some]
theorem w_meth {cn m : Str} {mm : List D → Sto → Option (D × Sto)} {xo : Ex} {xa : Ax} {Q : D × Sto → Prop} : W (xMeth cn m mm xo xa e S) Q ↔ W (xo e S) fun r => W (objD cn r.1 r.2) fun q => if q.2.lookup m = none then W (xa e r.2) fun z => if noBo z.1 = true then W (mm (.rf q.1 :: z.1) z.2) Q else False else False := by
  unfold xMeth
  simp only [DL.w_bind, DL.w_ite, DL.w_none]
theorem w_sfld {cn fl : Str} {xo xv : Ex} {Q : Out → Prop} : W (sFldX cn fl xo xv e S) Q ↔ W (xv e S) fun r => W (xo e r.2) fun q => W (objD cn q.1 q.2) fun o => if (noBo [r.1] && decide (o.2.length < 1000)) = true then Q (.nx e (q.2.set o.1 (.obj cn (fput fl r.1 o.2)))) else False := by
  unfold sFldX
  simp only [DL.w_bind, DL.w_ite, DL.w_none, DL.w_some]
theorem w_callPL {m : List P → Option P} {ds : List D} {Q : D × Sto → Prop} : W (gCallPL m ds S) Q ↔ W (lendDs 3 S ds) fun ps => W (m ps) fun p => if scal p = true then Q (.pu p, S) else False := by
  unfold gCallPL
  simp only [DL.w_bind, DL.w_ite, DL.w_none, DL.w_some]
theorem make_of {cn : Str} {m : List D → Sto → Option (D × Sto)} {ds : List D} {Q : D × Sto → Prop} (hb : noBo ds = true) (h : W (m (.rf S.length :: ds) (S ++ [.obj cn []])) fun r => r.1 = .pu .none ∧ Q (.rf S.length, r.2)) : W (gMake cn m ds S) Q := by
  unfold gMake
  rw [if_pos hb, DL.w_bind]
  refine h.imp fun r hr => ?_
  obtain ⟨d, S1⟩ := r
  obtain ⟨h1, h2⟩ := hr
  dsimp only at h1
  subst h1
  exact w_some.mpr h2
def flds (a b c : D) : List (Str × D) := [("jobs", a), ("tools", b), ("known", c)]
theorem obj_at {cn : Str} {fs : List (Str × D)} (h : S[o]? = some (.obj cn fs)) {Q : Nat × List (Str × D) → Prop} (q : Q (o, fs)) : W (objD cn (.rf o) S) Q := by
  unfold objD
  dsimp only
  rw [h]
  dsimp only
  rw [if_pos rfl]
  exact w_some.mpr q
theorem lk_jobs {a b c : D} : (flds a b c).lookup ("jobs" : Str) = some a := rfl
theorem lk_tools {a b c : D} : (flds a b c).lookup ("tools" : Str) = some b := by
  unfold flds
  rw [List.lookup_cons, show (("tools" : Str) == "jobs") = false from by decide +kernel]
  rfl
theorem lk_known {a b c : D} : (flds a b c).lookup ("known" : Str) = some c := by
  unfold flds
  rw [List.lookup_cons, show (("known" : Str) == "jobs") = false from by decide +kernel]
  dsimp only
  rw [List.lookup_cons, show (("known" : Str) == "tools") = false from by decide +kernel]
  rfl
theorem lk_no {a b c : D} {m : Str} (h1 : (m == "jobs") = false) (h2 : (m == "tools") = false) (h3 : (m == "known") = false) : (flds a b c).lookup m = none := by
  unfold flds
  rw [List.lookup_cons, h1]
  dsimp only
  rw [List.lookup_cons, h2]
  dsimp only
  rw [List.lookup_cons, h3]
  rfl
/-- a Taking -/
structure Tk (js : List Job) (p : P) (o c : Nat) (S : Sto) (kn : List (List Nat)) : Prop where
  ob : S[o]? = some (.obj "Taking" (flds (.pu p) (.pu (.list ((tls js).map .int))) (.rf c)))
theorem Tk.jobs {kn : List (List Nat)} (h : Tk js p o c S kn) {Q : D → Prop} (q : Q (.pu p)) : W (objD "Taking" (.rf o) S) fun q => W (q.2.lookup ("jobs" : Str)) Q := obj_at h.ob (by rw [lk_jobs]; exact w_some.mpr q)
/-! ### what is known -/
theorem enc_n : KEnc tN where
  eqv := fun a b => by
    have h := eqv_tkeys (a.map fun n : Nat => (Sum.inl (n : Int) : Key)) (b.map fun n : Nat => (Sum.inl (n : Int) : Key))
    have e : ∀ a : List Nat, (a.map fun n : Nat => (Sum.inl (n : Int) : Key)).map keyP = a.map nI := fun a => by rw [List.map_map]; rfl
    rw [e, e] at h
    show PyData.eqv (.tuple (a.map nI)) (.tuple (b.map nI)) = _
    rw [h]
    congr 1
    rw [eq_iff_iff]
    refine ⟨fun z => ?_, fun z => by rw [z]⟩
    have inj : ∀ (a b : List Nat), (a.map fun n : Nat => (Sum.inl (n : Int) : Key)) = (b.map fun n : Nat => (Sum.inl (n : Int) : Key)) → a = b := by
      intro a
      induction a with
      | nil => intro b h; cases b with
        | nil => rfl
        | cons _ _ => cases h
      | cons x a ih => intro b h; cases b with
        | nil => cases h
        | cons y b =>
          rw [List.map_cons, List.map_cons] at h
          injection h with h1 h2
          injection h1 with h1
          rw [ih b h2, Int.ofNat.inj h1]
    exact inj a b z
  key := fun a => by
    have e : ∀ a : List Nat, (flatKs (a.map nI)).isSome = true := by
      intro a
      induction a with
      | nil => rfl
      | cons x a ih =>
        obtain ⟨k, hk⟩ := Option.isSome_iff_exists.mp ih
        show ((flatK (nI x)).bind fun k => (flatKs (a.map nI)).bind fun ks => some (k :: ks)).isSome = true
        rw [hk]
        rfl
    obtain ⟨k, hk⟩ := Option.isSome_iff_exists.mp (e a)
    show ((flatKs (a.map nI)).bind fun ks => some (Sum.inr ks)).isSome = true
    rw [hk]
    rfl
  knd := fun _ _ => rfl
def asT (f : List Nat → Nat) (kn : List (List Nat)) : List (P × D) := kn.map fun O => (tN O, .pu (.int (f O : Nat)))
variable {f : List Nat → Nat} {kn : List (List Nat)}
theorem any_t (kn : List (List Nat)) (O : List Nat) : ((asT f kn).any fun q => PyData.eqv q.1 (tN O)) = decide (O ∈ kn) := by
  induction kn with
  | nil => simp [asT]
  | cons b qs ih =>
    show (PyData.eqv (tN b) (tN O) || ((asT f qs).any fun q => PyData.eqv q.1 (tN O))) = _
    rw [ih, enc_n.eqv]
    by_cases h : b = O
    · simp [h]
    · have h' : ¬ O = b := fun e => h e.symm
      simp [h, h']
theorem look_t (kn : List (List Nat)) (O : List Nat) : dlook (asT f kn) (tN O) = if O ∈ kn then some (.pu (.int (f O : Nat))) else none := by
  induction kn with
  | nil => rfl
  | cons b qs ih =>
    show dlook ((tN b, D.pu (.int (f b : Nat))) :: asT f qs) (tN O) = _
    rw [dlook_cons, enc_n.eqv, ih]
    by_cases h : b = O
    · simp [h]
    · have h' : ¬ O = b := fun e => h e.symm
      simp [h, h']
theorem dput_t (kn : List (List Nat)) (O : List Nat) : dput (asT f kn) (tN O) (.pu (.int (f O : Nat))) = asT f (addK kn O) := by
  unfold dput
  rw [any_t]
  unfold addK
  by_cases h : O ∈ kn
  · rw [if_pos (decide_eq_true h), if_pos h]
    unfold asT
    rw [List.map_map]
    refine List.map_congr_left fun b _ => ?_
    show (if PyData.eqv (tN b) (tN O) = true then (tN b, D.pu (.int (f O : Nat))) else (tN b, .pu (.int (f b : Nat)))) = _
    rw [enc_n.eqv]
    by_cases e : b = O
    · rw [if_pos (decide_eq_true e), e]
    · rw [if_neg (by simpa using e)]
  · rw [if_neg (by simpa using h), if_neg h]
    unfold asT
    rw [List.map_append]
    rfl
theorem kOk_t (kn : List (List Nat)) (O : List Nat) : kOk (asT f kn) (tN O) = true := by
  cases kn with
  | nil => rfl
  | cons b qs => rfl
theorem inZ_t {neg : Bool} (he : S[c]? = some (.dct (asT f kn))) {Q : D × Sto → Prop} (q : Q (.pu (.bool (if neg = true then !decide (O ∈ kn) else decide (O ∈ kn))), S)) : W (gInZ neg (.pu (tN O)) (.rf c) S) Q := by
  have hd : dicD (.rf c) S = some (asT f kn) := by
    unfold dicD
    dsimp only
    rw [he]
  obtain ⟨k, hk⟩ := Option.isSome_iff_exists.mp (enc_n.key O)
  cases kn with
  | nil =>
    obtain ⟨ks, hks⟩ : ∃ ks, flatKs (O.map nI) = some ks := by
      have hk : (flatKs (O.map nI)).bind (fun ks => some (Sum.inr ks)) = some k := hk
      obtain ⟨ks, h1, _⟩ := Option.bind_eq_some_iff.mp hk
      exact ⟨ks, h1⟩
    unfold gInZ
    rw [hd]
    show W ((flatKs (O.map nI)).bind fun _ => some (D.pu (.bool neg), S)) Q
    rw [hks, Option.bind_some]
    refine w_some.mpr ?_
    cases neg <;> simpa using q
  | cons b qs =>
    have h1 : gInZ neg (.pu (tN O)) (.rf c) S = gInX neg (.pu (tN O)) (.rf c) S := by
      unfold gInZ
      rw [hd]
      rfl
    rw [h1]
    unfold gInX
    rw [hd]
    show W ((keyD (tN O)).bind fun _ => if (isT (tN b) == isT (tN O)) = true then some (D.pu (.bool (if neg = true then !(dlook (asT f (b :: qs)) (tN O)).isSome else (dlook (asT f (b :: qs)) (tN O)).isSome)), S) else none) Q
    rw [hk, Option.bind_some, if_pos (by rw [enc_n.knd b O]; exact beq_self_eq_true _), look_t]
    have e1 : (if O ∈ b :: qs then some (D.pu (.int (f O : Nat))) else none).isSome = decide (O ∈ b :: qs) := by
      by_cases h : O ∈ b :: qs
      · rw [if_pos h, decide_eq_true h]; rfl
      · rw [if_neg h, decide_eq_false h]; rfl
    rw [e1]
    exact w_some.mpr q
theorem get_t (he : S[c]? = some (.dct (asT f kn))) (hO : O ∈ kn) {Q : D × Sto → Prop} (q : Q (.pu (.int (f O : Nat)), S)) : W (gGet (.rf c) (.pu (tN O)) S) Q := by
  have hd : dicD (.rf c) S = some (asT f kn) := by
    unfold dicD
    dsimp only
    rw [he]
  obtain ⟨k, hk⟩ := Option.isSome_iff_exists.mp (enc_n.key O)
  unfold gGet
  rw [hd]
  show W ((keyD (tN O)).bind fun _ => (dlook (asT f kn) (tN O)).bind fun z => some (z, S)) Q
  rw [hk, Option.bind_some, look_t, if_pos hO, Option.bind_some]
  exact w_some.mpr q
theorem put_t (he : S[c]? = some (.dct (asT f kn))) (hl : kn.length < lim) {Q : Envi × Sto → Prop} (q : Q (e, S.set c (.dct (asT f (addK kn O))))) : W (putS (.rf c) (.pu (tN O)) (.pu (.int (f O : Nat))) e S) Q := by
  have hn : lstD (.rf c) S = none := by
    unfold lstD
    dsimp only
    unfold seqD
    dsimp only
    rw [he]
    rfl
  obtain ⟨k, hk⟩ := Option.isSome_iff_exists.mp (enc_n.key O)
  have h2 : putS (.rf c) (.pu (tN O)) (.pu (.int (f O : Nat))) e S = putD (.rf c) (tN O) (.pu (.int (f O : Nat))) e S := by
    unfold putS
    rw [hn]
  rw [h2]
  unfold putD
  dsimp only
  rw [he]
  dsimp only
  rw [hk, Option.bind_some, kOk_t, if_pos (by rw [Bool.true_and]; exact decide_eq_true (by unfold asT; rw [List.length_map]; exact hl)), dput_t]
  exact w_some.mpr q
/-! ### all sets of numbers -/
def subs : Nat → List (List Nat)
  | 0 => [[]]
  | k + 1 => subs k ++ (subs k).map (· ++ [k])
theorem subs_len : ∀ k, (subs k).length = 2 ^ k
  | 0 => rfl
  | k + 1 => by
    show (subs k ++ (subs k).map (· ++ [k])).length = _
    rw [List.length_append, List.length_map, subs_len k, Nat.pow_succ]
    omega
theorem subs_all : ∀ (k : Nat) (O : List Nat), Srt O → (∀ n ∈ O, n < k) → O ∈ subs k
  | 0, O, _, h => by
    cases O with
    | nil => exact List.mem_cons_self
    | cons a O => exact absurd (h a List.mem_cons_self) (Nat.not_lt_zero _)
  | k + 1, O, s, h => by
    show O ∈ subs k ++ (subs k).map (· ++ [k])
    rw [List.mem_append]
    rcases Classical.em (k ∈ O) with c | c
    · right
      rcases List.eq_nil_or_concat O with e | ⟨O', a, e⟩
      · rw [e] at c; cases c
      · rw [List.concat_eq_append] at e
        subst e
        obtain ⟨s1, _, s3⟩ := List.pairwise_append.mp s
        have ha := h a (by simp)
        have hk : k ≤ a := by
          rcases List.mem_append.mp c with z | z
          · exact Nat.le_of_lt (s3 k z a (by simp))
          · rw [List.mem_singleton.mp z]
            exact Nat.le_refl _
        have e2 : a = k := by omega
        subst e2
        exact List.mem_map.mpr ⟨O', subs_all a O' s1 fun n hn => s3 n hn a (by simp), rfl⟩
    · left
      refine subs_all k O s fun n hn => ?_
      have := h n hn
      rcases Nat.lt_or_ge n k with z | z
      · exact z
      · have e2 : n = k := by omega
        exact absurd (e2 ▸ hn) c
structure KnOk (js : List Job) (kn : List (List Nat)) : Prop where
  nd : kn.Nodup
  ok : ∀ O ∈ kn, Srt O ∧ Sub js O
theorem KnOk.len (h : KnOk js kn) (hl : js.length ≤ 20) : kn.length < lim := by
  have h1 := nd_len kn (subs js.length) h.nd fun O hO => subs_all _ O (h.ok O hO).1 (h.ok O hO).2
  rw [subs_len] at h1
  have h2 : 2 ^ js.length ≤ 2 ^ 20 := Nat.pow_le_pow_right (by decide) hl
  unfold lim
  omega
theorem KnOk.put (h : KnOk js kn) (s : Srt O) (b : Sub js O) : KnOk js (addK kn O) := ⟨addK_nodup h.nd, fun O' hO' => (addK_mem.mp hO').elim (h.ok O') fun e => e ▸ ⟨s, b⟩⟩
/-- a comprehension with a test, whose turns change what is known -/
theorem comp_st {g : Gt} {t : Tx} {x : Ex} {α : Type} {gg hh : α → P} {c : α → Bool} (I : Sto → Prop) : ∀ (xs : List α) (acc : List P) (S : Sto), I S → (∀ a ∈ xs, ∀ S, I S → ∀ R : P → Sto → Prop, ∀ N : Sto → Prop, (c a = true → ∀ S', I S' → R (hh a) S') → (c a = false → N S) → W (g (.pu (gg a)) e S) fun q => W (t q.1 q.2) fun b => if b.1 = true then W (x q.1 b.2) fun r => puQ R r.2 r.1 else N b.2) → acc.length + xs.length ≤ lim →
    ∀ Q : List P × Sto → Prop, (∀ S', I S' → Q (acc ++ (xs.filter c).map hh, S')) → W (compD g t x e ((xs.map gg).map .pu) S acc) Q
  | [], acc, S, hI, _, _, Q, q => by
    have q := q S hI
    rw [List.filter_nil, List.map_nil, List.append_nil] at q
    exact comp_nil.mpr q
  | a :: xs, acc, S, hI, st, hl, Q, q => by
    rw [List.length_cons] at hl
    rw [List.map_cons, List.map_cons, comp_cons]
    have rest := fun d hd => st d (List.mem_cons_of_mem a hd)
    refine st a List.mem_cons_self S hI (fun p' S' => acc.length < lim ∧ W (compD g t x e ((xs.map gg).map .pu) S' (acc ++ [p'])) Q) (fun S' => W (compD g t x e ((xs.map gg).map .pu) S' acc) Q) (fun hc S' hI' => ⟨by omega, ?_⟩) fun hc => ?_
    · refine comp_st I xs (acc ++ [hh a]) S' hI' rest (by rw [List.length_append, List.length_singleton]; omega) Q fun S'' h'' => ?_
      have q := q S'' h''
      rw [List.filter_cons, if_pos hc, List.map_cons] at q
      rw [List.append_assoc]
      exact q
    · refine comp_st I xs acc S hI rest (by omega) Q fun S'' h'' => ?_
      have q := q S'' h''
      rw [List.filter_cons, if_neg (by rw [hc]; decide)] at q
      exact q
/-- one take more than the best of what comes -/
theorem T_min (ac : Acy js) (w : Wf js) (s : Srt O) (b : Sub js O) (h : ∃ m, m < js.length ∧ m ∉ O) :
    (∃ t ∈ tls js, gone js t O ≠ O ∧ T js O = 1 + T js (gone js t O)) ∧ ∀ t, T js O ≤ 1 + T js (gone js t O) := by
  refine ⟨?_, fun t => T_step ac t O⟩
  obtain ⟨n, h1, h2, h3⟩ := T_best ac w h
  refine ⟨tl js n, mem_tls.mpr ⟨n, h1, rfl⟩, fun e => ?_, h3⟩
  have : n ∈ gone js (tl js n) O := mem_gone.mpr ⟨h1, .step h1 rfl fun m hm => .base (h2.2 m hm)⟩
  rw [e] at this
  exact h2.1 this
theorem left_gone (s : Srt O) (b : Sub js O) (h : gone js t O ≠ O) : left js (gone js t O) < left js O := by
  have : ∃ n, n ∈ gone js t O ∧ n ∉ O := by
    rcases Classical.em (∃ n, n ∈ gone js t O ∧ n ∉ O) with c | c
    · exact c
    · refine absurd (srt_ext srt_gone s fun n => ⟨fun hn => ?_, fun hn => in_gone (b n hn) hn⟩) h
      rcases Classical.em (n ∈ O) with z | z
      · exact z
      · exact absurd ⟨n, hn, z⟩ c
  obtain ⟨n, h1, h2⟩ := this
  exact left_lt (fun m hm hO => in_gone hm hO) (sub_gone n h1) h2 h1
end
end JJ
/-! JF: the least takes, walked. -/
namespace JJ
open PySem PySem.Spec PyProof.Rows L2 DL
theorem minL_mem : ∀ (x : Int) (r : List Int), minL (x :: r) ∈ x :: r
  | x, [] => by simp [minL]
  | x, y :: r => by
    rw [minL_cons]
    have ih := minL_mem y r
    split
    · exact List.mem_cons_of_mem _ ih
    · exact List.mem_cons_self
theorem minL_le : ∀ (x : Int) (r : List Int) (z : Int), z ∈ x :: r → minL (x :: r) ≤ z
  | x, [], z, h => by rw [List.mem_singleton] at h; rw [h]; exact Int.le_refl _
  | x, y :: r, z, h => by
    rw [minL_cons]
    have ih := minL_le y r
    rcases List.mem_cons.mp h with e | e
    · subst e
      split <;> omega
    · have := ih z e
      split <;> omega
theorem minL_of {l : List Int} {m : Int} (h1 : m ∈ l) (h2 : ∀ y ∈ l, m ≤ y) : minL l = m := by
  cases l with
  | nil => cases h1
  | cons x r =>
    have a := minL_le x r m h1
    have b := h2 _ (minL_mem x r)
    omega
section
variable {S : Sto} {e : Envi} {p : P} {js : List Job} {n o c : Nat} {O F : List Nat} {t : Int} {kn : List (List Nat)}
theorem jobs_f (h : S[o]? = some (.obj "Taking" (flds (.pu p) (.pu (.list ((tls js).map .int))) (.rf c)))) {Q : D → Prop} (q : Q (.pu p)) : W (objD "Taking" (.rf o) S) fun q => W (q.2.lookup ("jobs" : Str)) Q := obj_at h (by rw [lk_jobs]; exact w_some.mpr q)
theorem tools_f (h : S[o]? = some (.obj "Taking" (flds (.pu p) (.pu (.list ((tls js).map .int))) (.rf c)))) {Q : D → Prop} (q : Q (.pu (.list ((tls js).map .int)))) : W (objD "Taking" (.rf o) S) fun q => W (q.2.lookup ("tools" : Str)) Q := obj_at h (by rw [lk_tools]; exact w_some.mpr q)
theorem known_f (h : S[o]? = some (.obj "Taking" (flds (.pu p) (.pu (.list ((tls js).map .int))) (.rf c)))) {Q : D → Prop} (q : Q (.rf c)) : W (objD "Taking" (.rf o) S) fun q => W (q.2.lookup ("known" : Str)) Q := obj_at h (by rw [lk_known]; exact w_some.mpr q)
theorem eq_nat {a b : Nat} {Q : D × Sto → Prop} (q : Q (.pu (.bool (decide (a = b))), S)) : W (gEq false (.pu (.int a)) (.pu (.int b)) S) Q := by
  refine eq_int ?_
  rw [show decide ((a : Int) = (b : Int)) = decide (a = b) by rw [Bool.eq_iff_iff, decide_eq_true_eq, decide_eq_true_eq]; omega]
  exact q
theorem shpN (A : List Nat) : shp 9 (tN A) = true := shp_ints _ (fun p hp => by obtain ⟨m, _, rfl⟩ := List.mem_map.mp hp; exact ⟨_, rfl⟩) 7
/-- the state with something known -/
def St2 (js : List Job) (S0 : Sto) (c : Nat) (S : Sto) : Prop := ∃ kn, KnOk js kn ∧ S = S0.set c (.dct (asT (T js) kn))
theorem St2.obj {S0 : Sto} (h : St2 js S0 c S) {k : Nat} (hk : k ≠ c) : S[k]? = S0[k]? := by
  obtain ⟨kn, _, rfl⟩ := h
  rw [List.getElem?_set_ne (Ne.symm hk)]
theorem best_of (ac : Acy js) (w : Wf js) (s : Srt O) (b : Sub js O) (h : ∃ m, m < js.length ∧ m ∉ O) : 1 + minL (((tls js).filter fun t => !decide (gone js t O = O)).map fun t => ((T js (gone js t O) : Nat) : Int)) = (T js O : Nat) ∧ ((tls js).filter fun t => !decide (gone js t O = O)) ≠ [] := by
  obtain ⟨⟨t, h1, h2, h3⟩, h4⟩ := T_min ac w s b h
  have hm : t ∈ (tls js).filter fun t => !decide (gone js t O = O) := by
    rw [List.mem_filter]
    exact ⟨h1, by simpa using h2⟩
  refine ⟨?_, fun e => by rw [e] at hm; cases hm⟩
  rw [minL_of (m := ((T js (gone js t O) : Nat) : Int)) (List.mem_map.mpr ⟨t, hm, rfl⟩) fun y hy => ?_]
  · omega
  · obtain ⟨t', _, rfl⟩ := List.mem_map.mp hy
    have := h4 t'
    omega
theorem takes_ok (h : JS p js) (ac : Acy js) (w : Wf js) (oc : o ≠ c) : ∀ (j : Nat) (O : List Nat), Srt O → Sub js O → left js O < j → ∀ (S0 S : Sto), S0[o]? = some (.obj "Taking" (flds (.pu p) (.pu (.list ((tls js).map .int))) (.rf c))) → c < S0.length → St2 js S0 c S → ∀ Q : D × Sto → Prop, (∀ S', St2 js S0 c S' → Q (.pu (.int (T js O : Nat)), S')) → W (m_Taking_takes_from j [.rf o, .pu (tN O)] S) Q := by
  intro j
  induction j with
  | zero => intro O _ _ h; exact absurd h (Nat.not_lt_zero _)
  | succ j ih =>
    intro O s b hl S0 S ho hc hS Q q
    have h20 := h.2.1
    have hO : S[o]? = some (.obj "Taking" (flds (.pu p) (.pu (.list ((tls js).map .int))) (.rf c))) := (hS.obj oc).trans ho
    rw [show m_Taking_takes_from (j + 1) = runF 2 5 (b_Taking_takes_from (m_Taking_takes_from j)) from rfl]
    rw [w_runF]
    refine ⟨⟨rfl, by decide⟩, ?_⟩
    rw [show env0 5 [.rf o, .pu (tN O)] = [some (.val (.rf o)), some (.val (.pu (tN O))), none, none, none] from rfl]
    unfold b_Taking_takes_from
    simp only [DL.evA, DL.evH, DL.evJ, DL.evM, DL.evQ, DL.evU, DL.evX, List.getElem?_cons_zero, List.getElem?_cons_succ, List.set_cons_zero, List.set_cons_succ, ↓reduceIte, Bool.false_eq_true, List.map_cons, List.map_nil, List.length_cons, List.length_nil, Bool.not_true, Bool.not_false, w_fld, w_meth]
    refine sq_lenA (.inr rfl) ?_
    refine jobs_f hO ?_
    refine js_lenA h ?_
    rw [List.length_map]
    refine eq_nat ?_
    simp only [DL.evA, DL.evH, DL.evJ, DL.evM, DL.evQ, DL.evU, DL.evX, List.getElem?_cons_zero, List.getElem?_cons_succ, List.set_cons_zero, List.set_cons_succ, ↓reduceIte, Bool.false_eq_true, List.map_cons, List.map_nil, List.length_cons, List.length_nil, Bool.not_true, Bool.not_false]
    have hn := s.imp (fun {a b} h => Nat.ne_of_lt h)
    refine both (fun hz => ?_) fun hz => ?_
    · have hz : O.length = js.length := by simpa using hz
      (try simp only [DL.evA, DL.evH, DL.evJ, DL.evM, DL.evQ, DL.evU, DL.evX, List.getElem?_cons_zero, List.getElem?_cons_succ, List.set_cons_zero, List.set_cons_succ, ↓reduceIte, Bool.false_eq_true, List.map_cons, List.map_nil, List.length_cons, List.length_nil, Bool.not_true, Bool.not_false])
      refine ⟨rfl, ?_⟩
      have := q S hS
      rw [T_full ac (all_there hn b (by omega))] at this
      exact this
    · have hz : O.length ≠ js.length := by simpa using hz
      have hlt : O.length < js.length := by have := len_le hn b; omega
      obtain ⟨kn, hkn, rfl⟩ := hS
      have hcl : c < (S0.set c (.dct (asT (T js) kn))).length := by rw [List.length_set]; exact hc
      (try simp only [DL.evA, DL.evH, DL.evJ, DL.evM, DL.evQ, DL.evU, DL.evX, List.getElem?_cons_zero, List.getElem?_cons_succ, List.set_cons_zero, List.set_cons_succ, ↓reduceIte, Bool.false_eq_true, List.map_cons, List.map_nil, List.length_cons, List.length_nil, Bool.not_true, Bool.not_false, w_fld, w_meth])
      refine known_f hO ?_
      have hcc : ∀ kn, (S0.set c (MC.dct (asT (T js) kn)))[c]? = some (.dct (asT (T js) kn)) := fun kn => List.getElem?_set_self hc
      refine inZ_t (hcc kn) ?_
      simp only [DL.evA, DL.evH, DL.evJ, DL.evM, DL.evQ, DL.evU, DL.evX, List.getElem?_cons_zero, List.getElem?_cons_succ, List.set_cons_zero, List.set_cons_succ, ↓reduceIte, Bool.false_eq_true, List.map_cons, List.map_nil, List.length_cons, List.length_nil, Bool.not_true, Bool.not_false]
      refine both (fun h1 => ?_) fun h1 => ?_
      · (try simp only [DL.evA, DL.evH, DL.evJ, DL.evM, DL.evQ, DL.evU, DL.evX, List.getElem?_cons_zero, List.getElem?_cons_succ, List.set_cons_zero, List.set_cons_succ, ↓reduceIte, Bool.false_eq_true, List.map_cons, List.map_nil, List.length_cons, List.length_nil, Bool.not_true, Bool.not_false, w_fld, w_meth])
        refine tools_f hO ?_
        refine w_anyL.mpr ⟨_, rfl, ?_⟩
        refine comp_on PyData.int (fun t => tN (gone js t O)) (tls js) (fun t _ R r => ?_) (by have := tls_len h20; unfold lim; omega) ?_
        · simp only [wipeE, DL.evA, DL.evH, DL.evJ, DL.evM, DL.evQ, DL.evU, DL.evX, List.getElem?_cons_zero, List.getElem?_cons_succ, List.set_cons_zero, List.set_cons_succ, ↓reduceIte, Bool.false_eq_true, List.map_cons, List.map_nil, List.length_cons, List.length_nil, Bool.not_true, Bool.not_false, w_fld]
          refine ⟨trivial, jobs_f hO ?_⟩
          simp only [DL.evA, DL.evH, DL.evJ, DL.evM, DL.evQ, DL.evU, DL.evX, List.getElem?_cons_zero, List.getElem?_cons_succ, List.set_cons_zero, List.set_cons_succ, ↓reduceIte, Bool.false_eq_true, List.map_cons, List.map_nil, List.length_cons, List.length_nil, Bool.not_true, Bool.not_false]
          refine gone_on_ok h (.inr rfl) hn b ?_
          exact r
        · (try simp only [DL.evA, DL.evH, DL.evJ, DL.evM, DL.evQ, DL.evU, DL.evX, List.getElem?_cons_zero, List.getElem?_cons_succ, List.set_cons_zero, List.set_cons_succ, ↓reduceIte, Bool.false_eq_true, List.map_cons, List.map_nil, List.length_cons, List.length_nil, Bool.not_true, Bool.not_false, w_fld, w_meth])
          rw [show frzP (.lst ((tls js).map fun t => tN (gone js t O))) = .list ((tls js).map fun t => tN (gone js t O)) from rfl]
          refine w_anyL.mpr ⟨_, rfl, ?_⟩
          refine comp_st (St2 js S0 c) (gg := fun t => tN (gone js t O)) (hh := fun t => .int (T js (gone js t O) : Nat)) (c := fun t => !decide (gone js t O = O)) (tls js) [] _ ⟨kn, hkn, rfl⟩ (fun t _ S1 hS1 R N r1 r2 => ?_) (by have := tls_len h20; unfold lim; simp; omega) _ fun S2 hS2 => ?_
          · have hO1 := (hS1.obj oc).trans ho
            simp only [wipeE, DL.evA, DL.evH, DL.evJ, DL.evM, DL.evQ, DL.evU, DL.evX, List.getElem?_cons_zero, List.getElem?_cons_succ, List.set_cons_zero, List.set_cons_succ, ↓reduceIte, Bool.false_eq_true, List.map_cons, List.map_nil, List.length_cons, List.length_nil, Bool.not_true, Bool.not_false, w_fld, w_meth]
            refine ⟨by rw [shpN, shpN]; rfl, ?_⟩
            rw [enc_n.eqv]
            refine both (fun z => ?_) fun z => ?_
            · have z' : gone js t O ≠ O := by simpa using z
              refine obj_at hO1 ?_
              rw [if_pos (lk_no (by decide +kernel) (by decide +kernel) (by decide +kernel))]
              simp only [DL.evA, DL.evH, DL.evJ, DL.evM, DL.evQ, DL.evU, DL.evX, List.getElem?_cons_zero, List.getElem?_cons_succ, List.set_cons_zero, List.set_cons_succ, ↓reduceIte, Bool.false_eq_true, List.map_cons, List.map_nil, List.length_cons, List.length_nil, Bool.not_true, Bool.not_false]
              refine ih (gone js t O) srt_gone sub_gone (by have := left_gone s b z'; omega) S0 S1 ho hc hS1 _ fun S' hS' => ?_
              exact r1 z S' hS'
            · exact r2 (by simpa using z)
          · obtain ⟨b1, b2⟩ := best_of ac w s b (some_left hlt)
            obtain ⟨kn2, hkn2, rfl⟩ := hS2
            rw [List.nil_append]
            simp only [DL.evA, DL.evH, DL.evJ, DL.evM, DL.evQ, DL.evU, DL.evX, List.getElem?_cons_zero, List.getElem?_cons_succ, List.set_cons_zero, List.set_cons_succ, ↓reduceIte, Bool.false_eq_true, List.map_cons, List.map_nil, List.length_cons, List.length_nil, Bool.not_true, Bool.not_false]
            rw [show (((tls js).filter fun t => !decide (gone js t O = O)).map fun t => PyData.int (T js (gone js t O) : Nat)) = ((((tls js).filter fun t => !decide (gone js t O = O)).map fun t => ((T js (gone js t O) : Nat) : Int))).map PyData.int by rw [List.map_map]; rfl, JJ.ints_map, w_some]
            refine ⟨?_, ?_⟩
            · cases e1 : ((tls js).filter fun t => !decide (gone js t O = O)) with
              | nil => exact absurd e1 b2
              | cons _ _ => rfl
            rw [b1]
            refine known_f ((List.getElem?_set_ne (Ne.symm oc)).trans ho) ?_
            refine ⟨rfl, ?_⟩
            refine put_t (f := T js) (hcc kn2) (hkn2.len h20) ?_
            rw [List.set_set]
            (try simp only [DL.evA, DL.evH, DL.evJ, DL.evM, DL.evQ, DL.evU, DL.evX, List.getElem?_cons_zero, List.getElem?_cons_succ, List.set_cons_zero, List.set_cons_succ, ↓reduceIte, Bool.false_eq_true, List.map_cons, List.map_nil, List.length_cons, List.length_nil, Bool.not_true, Bool.not_false])
            refine known_f ((List.getElem?_set_ne (Ne.symm oc)).trans ho) ?_
            (try simp only [DL.evA, DL.evH, DL.evJ, DL.evM, DL.evQ, DL.evU, DL.evX, List.getElem?_cons_zero, List.getElem?_cons_succ, List.set_cons_zero, List.set_cons_succ, ↓reduceIte, Bool.false_eq_true, List.map_cons, List.map_nil, List.length_cons, List.length_nil, Bool.not_true, Bool.not_false])
            refine get_t (f := T js) (hcc _) (addK_mem.mpr (.inr rfl)) ?_
            exact ⟨rfl, q _ ⟨_, hkn2.put s b, rfl⟩⟩
      · have h1 : O ∈ kn := by simpa using h1
        (try simp only [DL.evA, DL.evH, DL.evJ, DL.evM, DL.evQ, DL.evU, DL.evX, List.getElem?_cons_zero, List.getElem?_cons_succ, List.set_cons_zero, List.set_cons_succ, ↓reduceIte, Bool.false_eq_true, List.map_cons, List.map_nil, List.length_cons, List.length_nil, Bool.not_true, Bool.not_false, w_fld, w_meth])
        refine known_f hO ?_
        (try simp only [DL.evA, DL.evH, DL.evJ, DL.evM, DL.evQ, DL.evU, DL.evX, List.getElem?_cons_zero, List.getElem?_cons_succ, List.set_cons_zero, List.set_cons_succ, ↓reduceIte, Bool.false_eq_true, List.map_cons, List.map_nil, List.length_cons, List.length_nil, Bool.not_true, Bool.not_false, w_fld, w_meth])
        refine get_t (f := T js) (hcc _) h1 ?_
        exact ⟨rfl, q _ ⟨_, hkn, rfl⟩⟩
/-! ### the law's own -/
end
end JJ
/-! LWL: a list of lists in cells: the first inner list is cell 0, the outer one cell 1, the others follow. -/
namespace DL
open PySem PySem.Spec PyProof.Rows L2
section
variable {e : Envi}
end
section
variable {e : Envi} {S : Sto}
end
end DL
/-! JG: a Taking made, the first order. -/
namespace JJ
open PySem PySem.Spec PyProof.Rows L2 DL
section
variable {S : Sto} {e : Envi} {p : P} {js : List Job} {n o c d : Nat} {O F : List Nat} {t : Int} {kn : List (List Nat)}
theorem app_at {S : Sto} {a b : MC} : (S ++ [a]).set S.length b = S ++ [b] := by
  rw [List.set_append_right _ _ (Nat.le_refl _), Nat.sub_self]
  rfl
theorem app_get {S : Sto} {a : MC} : (S ++ [a])[S.length]? = some a := by
  rw [List.getElem?_append_right (Nat.le_refl _), Nat.sub_self]
  rfl
theorem fput_flds {a b c : D} : fput ("known" : Str) c (fput ("tools" : Str) b (fput ("jobs" : Str) a [])) = flds a b c := by
  have h1 : ¬ (("jobs" : Str) = "tools") := by decide +kernel
  have h2 : ¬ (("jobs" : Str) = "known") := by decide +kernel
  have h3 : ¬ (("tools" : Str) = "known") := by decide +kernel
  show fput ("known" : Str) c (if ("jobs" : Str) = "tools" then _ else (("jobs" : Str), a) :: fput ("tools" : Str) b []) = _
  rw [if_neg h1]
  show (if ("jobs" : Str) = "known" then _ else (("jobs" : Str), a) :: fput ("known" : Str) c [(("tools" : Str), b)]) = _
  rw [if_neg h2]
  show (("jobs" : Str), a) :: (if ("tools" : Str) = "known" then _ else (("tools" : Str), b) :: fput ("known" : Str) c []) = _
  rw [if_neg h3]
  rfl
theorem make_ok (h : JS p js) {Q : D × Sto → Prop} (q : Q (.rf S.length, S ++ [.obj "Taking" (flds (.pu p) (.pu (.list ((tls js).map .int))) (.rf (S.length + 1))), .dct []])) : W (gMake "Taking" m_Taking___init__ [.pu p] S) Q := by
  refine make_of rfl ?_
  unfold m_Taking___init__
  rw [w_runF]
  refine ⟨⟨rfl, by decide⟩, ?_⟩
  rw [show env0 2 [.rf S.length, .pu p] = [some (.val (.rf S.length)), some (.val (.pu p))] from rfl]
  unfold b_Taking___init__
  simp only [DL.evA, DL.evH, DL.evJ, DL.evM, DL.evQ, DL.evU, DL.evX, List.getElem?_cons_zero, List.getElem?_cons_succ, List.set_cons_zero, List.set_cons_succ, ↓reduceIte, Bool.false_eq_true, List.map_cons, List.map_nil, List.length_cons, List.length_nil, Bool.not_true, Bool.not_false, w_sfld]
  refine obj_at app_get ?_
  rw [if_pos (by rfl), app_at]
  (try simp only [DL.evA, DL.evH, DL.evJ, DL.evM, DL.evQ, DL.evU, DL.evX, List.getElem?_cons_zero, List.getElem?_cons_succ, List.set_cons_zero, List.set_cons_succ, ↓reduceIte, Bool.false_eq_true, List.map_cons, List.map_nil, List.length_cons, List.length_nil, Bool.not_true, Bool.not_false, w_sfld])
  refine tools_ok h ?_
  (try simp only [DL.evA, DL.evH, DL.evJ, DL.evM, DL.evQ, DL.evU, DL.evX, List.getElem?_cons_zero, List.getElem?_cons_succ, List.set_cons_zero, List.set_cons_succ, ↓reduceIte, Bool.false_eq_true, List.map_cons, List.map_nil, List.length_cons, List.length_nil, Bool.not_true, Bool.not_false, w_sfld])
  refine obj_at app_get ?_
  rw [if_pos (by rfl), app_at]
  have ed : ∀ {e : Envi} {S : Sto} {Q : D × Sto → Prop}, W (xDct e S) Q ↔ Q (.rf S.length, S ++ [.dct []]) := w_some
  simp only [DL.evA, DL.evH, DL.evJ, DL.evM, DL.evQ, DL.evU, DL.evX, List.getElem?_cons_zero, List.getElem?_cons_succ, List.set_cons_zero, List.set_cons_succ, ↓reduceIte, Bool.false_eq_true, List.map_cons, List.map_nil, List.length_cons, List.length_nil, Bool.not_true, Bool.not_false, w_sfld, ed]
  have g2 : ∀ {a b : MC}, (S ++ [a] ++ [b])[S.length]? = some a := fun {a b} => by
    rw [List.append_assoc, List.getElem?_append_right (Nat.le_refl _), Nat.sub_self]
    rfl
  refine obj_at g2 ?_
  rw [if_pos (by rfl)]
  refine ⟨trivial, ?_⟩
  have e2 : ∀ {a b x : MC}, (S ++ [a] ++ [b]).set S.length x = S ++ [x, b] := fun {a b x} => by
    rw [List.append_assoc, List.set_append_right _ _ (Nat.le_refl _), Nat.sub_self]
    rfl
  rw [e2, fput_flds, len1]
  exact q
/-! ### a job put behind -/
theorem add_rf {xs ys : List P} (hd : S[d]? = some (.lst (xs.map .pu))) (hl : xs.length + ys.length ≤ lim) {Q : D × Sto → Prop} (q : Q (.pu (.list (xs ++ ys)), S)) : W (gAdd (.rf d) (.pu (.list ys)) S) Q := by
  have e1 : gAdd (.rf d) (.pu (.list ys)) S = (lstD (.rf d) S).bind fun xs => (lstD (.pu (.list ys)) S).bind fun ys => (pusOf xs).bind fun ps => (pusOf ys).bind fun qs => if ps.length + qs.length ≤ lim then some (.pu (.list (ps ++ qs)), S) else none := rfl
  have e2 : lstD (.rf d) S = some (xs.map .pu) := by
    show (seqD (.rf d) S).bind _ = _
    rw [seq_rf hd]
    rfl
  have e3 : lstD (.pu (.list ys)) S = some (ys.map .pu) := rfl
  rw [e1, e2, e3, Option.bind_some, Option.bind_some, pus_map, pus_map, Option.bind_some, Option.bind_some, if_pos hl]
  exact w_some.mpr q
theorem Going.srt (g : Going js O) (hn : n < js.length) (c : Can js O n) : (O ++ [n]).Nodup ∧ Sub js (O ++ [n]) := ⟨(g.put hn c).1, (g.put hn c).2.1⟩
theorem left_le (js : List Job) (O : List Nat) : left js O ≤ js.length := by
  unfold left
  exact Nat.le_trans (List.length_filter_le _ _) (by rw [List.length_range]; exact Nat.le_refl _)
abbrev Ob (js : List Job) (p : P) (o c : Nat) (S0 : Sto) : Prop := S0[o]? = some (.obj "Taking" (flds (.pu p) (.pu (.list ((tls js).map .int))) (.rf c)))
theorem behind_ok (h : JS p js) (h11 : js.length ≤ 11) (ac : Acy js) (w : Wf js) (oc : o ≠ c) (dc : d ≠ c) {S0 : Sto} (ho : Ob js p o c S0) (hc : c < S0.length) (hd : S0[d]? = some (.lst ((O.map nI).map .pu))) (g : Going js O) (hn : n < js.length) (cn : Can js O n) (hS : St2 js S0 c S) {Q : D × Sto → Prop} (q : ∀ S', St2 js S0 c S' → Q (.pu (.int (T js (gone js (tl js n) (O ++ [n])) : Nat)), S')) : W (m_Taking_takes_behind [.rf o, .rf d, .pu (.int n)] S) Q := by
  have hl := len_le g.1 g.2.1
  unfold m_Taking_takes_behind
  rw [w_runF]
  refine ⟨⟨rfl, by decide⟩, ?_⟩
  rw [show env0 3 [.rf o, .rf d, .pu (.int n)] = [some (.val (.rf o)), some (.val (.rf d)), some (.val (.pu (.int n)))] from rfl]
  unfold b_Taking_takes_behind
  simp only [DL.evA, DL.evH, DL.evJ, DL.evM, DL.evQ, DL.evU, DL.evX, List.getElem?_cons_zero, List.getElem?_cons_succ, List.set_cons_zero, List.set_cons_succ, ↓reduceIte, Bool.false_eq_true, List.map_cons, List.map_nil, List.length_cons, List.length_nil, Bool.not_true, Bool.not_false, w_fld, w_meth]
  have hO := (hS.obj oc).trans ho
  refine obj_at hO ?_
  rw [if_pos (lk_no (by decide +kernel) (by decide +kernel) (by decide +kernel))]
  (try simp only [DL.evA, DL.evH, DL.evJ, DL.evM, DL.evQ, DL.evU, DL.evX, List.getElem?_cons_zero, List.getElem?_cons_succ, List.set_cons_zero, List.set_cons_succ, ↓reduceIte, Bool.false_eq_true, List.map_cons, List.map_nil, List.length_cons, List.length_nil, Bool.not_true, Bool.not_false, w_fld, w_meth])
  refine jobs_f hO ?_
  (try simp only [DL.evA, DL.evH, DL.evJ, DL.evM, DL.evQ, DL.evU, DL.evX, List.getElem?_cons_zero, List.getElem?_cons_succ, List.set_cons_zero, List.set_cons_succ, ↓reduceIte, Bool.false_eq_true, List.map_cons, List.map_nil, List.length_cons, List.length_nil, Bool.not_true, Bool.not_false, w_fld, w_meth])
  refine jobs_f hO ?_
  refine job_of h hn fun x hx => ?_
  refine jr_tl hx ?_
  refine ⟨(Nat.le_of_ble_eq_true rfl), ?_⟩
  refine add_rf (xs := O.map nI) ((hS.obj dc).trans hd) (by rw [List.length_map]; unfold lim; simp; omega) ?_
  (try simp only [DL.evA, DL.evH, DL.evJ, DL.evM, DL.evQ, DL.evU, DL.evX, List.getElem?_cons_zero, List.getElem?_cons_succ, List.set_cons_zero, List.set_cons_succ, ↓reduceIte, Bool.false_eq_true, List.map_cons, List.map_nil, List.length_cons, List.length_nil, Bool.not_true, Bool.not_false, w_fld, w_meth])
  have e1 : O.map nI ++ [.int n] = (O ++ [n]).map nI := by rw [List.map_append]; rfl
  rw [e1]
  refine gone_on_ok h (.inl rfl) (g.srt hn cn).1 (g.srt hn cn).2 ?_
  (try simp only [DL.evA, DL.evH, DL.evJ, DL.evM, DL.evQ, DL.evU, DL.evX, List.getElem?_cons_zero, List.getElem?_cons_succ, List.set_cons_zero, List.set_cons_succ, ↓reduceIte, Bool.false_eq_true, List.map_cons, List.map_nil, List.length_cons, List.length_nil, Bool.not_true, Bool.not_false, w_fld, w_meth])
  refine takes_ok h ac w oc 12 _ srt_gone sub_gone (by have := left_le js (gone js (tl js n) (O ++ [n])); omega) S0 S ho hc hS _ fun S' hS' => ?_
  exact ⟨rfl, q S' hS'⟩
def tP : Option Int → P
  | none => .none
  | some t => .int t
theorem ne_tP {t : Int} {tool : Option Int} : (shp 9 (.int t) && shp 9 (tP tool)) = true ∧ PyData.eqv (.int t) (tP tool) = decide (some t = tool) := by
  cases tool with
  | none => exact ⟨rfl, by simp [PyData.eqv, tP]⟩
  | some u =>
    refine ⟨rfl, ?_⟩
    rw [Bool.eq_iff_iff, decide_eq_true_eq]
    simp [PyData.eqv, tP]
theorem chg_int {tool : Option Int} : ((chg js tool n : Nat) : Int) = if (!decide (some (tl js n) = tool)) = true then 1 else 0 := by
  unfold chg
  by_cases e : some (tl js n) = tool
  · rw [if_pos e, decide_eq_true e]
    rfl
  · rw [if_neg e, decide_eq_false e]
    rfl
theorem next_ok (h : JS p js) (h11 : js.length ≤ 11) (ac : Acy js) (w : Wf js) (oc : o ≠ c) (dc : d ≠ c) {S0 : Sto} (ho : Ob js p o c S0) (hc : c < S0.length) (hd : S0[d]? = some (.lst ((O.map nI).map .pu))) (g : Going js O) {tool : Option Int} {n0 : Nat} (hx : nxt js tool O = some n0) (hS : St2 js S0 c S) {Q : D × Sto → Prop} (q : ∀ S', St2 js S0 c S' → Q (.pu (.int n0), S')) : W (m_Taking_next_job [.rf o, .rf d, .pu (tP tool), .pu (.int (Lft js tool O : Nat))] S) Q := by
  unfold m_Taking_next_job
  rw [w_runF]
  refine ⟨⟨rfl, by decide⟩, ?_⟩
  rw [show env0 6 [.rf o, .rf d, .pu (tP tool), .pu (.int (Lft js tool O : Nat))] = [some (.val (.rf o)), some (.val (.rf d)), some (.val (.pu (tP tool))), some (.val (.pu (.int (Lft js tool O : Nat)))), none, none] from rfl]
  unfold b_Taking_next_job
  simp only [DL.evA, DL.evH, DL.evJ, DL.evM, DL.evQ, DL.evU, DL.evX, List.getElem?_cons_zero, List.getElem?_cons_succ, List.set_cons_zero, List.set_cons_succ, ↓reduceIte, Bool.false_eq_true, List.map_cons, List.map_nil, List.length_cons, List.length_nil, Bool.not_true, Bool.not_false, w_fld, w_meth]
  have hO := (hS.obj oc).trans ho
  refine enumY_of ?_
  (try simp only [DL.evA, DL.evH, DL.evJ, DL.evM, DL.evQ, DL.evU, DL.evX, List.getElem?_cons_zero, List.getElem?_cons_succ, List.set_cons_zero, List.set_cons_succ, ↓reduceIte, Bool.false_eq_true, List.map_cons, List.map_nil, List.length_cons, List.length_nil, Bool.not_true, Bool.not_false, w_fld, w_meth])
  refine jobs_f hO ?_
  obtain ⟨⟨ps, hp1, hp2⟩, _⟩ := id h
  refine sq_ey hp1 ?_
  refine for_jobs hp2 (fun i e S => ∃ e4 e5 : Option Sl, e = [some (.val (.rf o)), some (.val (.rf d)), some (.val (.pu (tP tool))), some (.val (.pu (.int (Lft js tool O : Nat)))), e4, e5] ∧ St2 js S0 c S ∧ ∀ m < i, ¬ (Can js O m ∧ cost js tool O m ≤ Lft js tool O)) ⟨_, _, rfl, hS, fun m hm => absurd hm (Nat.not_lt_zero _)⟩ ?_ ?_
  · rintro n x e S hn hj ⟨e4, e5, rfl, hS, hz⟩
    have hO := (hS.obj oc).trans ho
    simp only [DL.evA, DL.evH, DL.evJ, DL.evM, DL.evQ, DL.evU, DL.evX, List.getElem?_cons_zero, List.getElem?_cons_succ, List.set_cons_zero, List.set_cons_succ, ↓reduceIte, Bool.false_eq_true, List.map_cons, List.map_nil, List.length_cons, List.length_nil, Bool.not_true, Bool.not_false, w_fld, w_meth, w_callPL]
    refine ⟨trivial, ?_⟩
    refine jobs_f hO ?_
    have hl : lendDs 3 S [.pu p, .pu (.int n), .rf d] = some [p, .int n, .list (O.map nI)] := by
      have e0 : ∀ xs : List Nat, lendDs 2 S ((xs.map nI).map .pu) = some (xs.map nI) := by
        intro xs
        induction xs with
        | nil => unfold lendDs; rfl
        | cons x xs ih =>
          show lendDs 2 S (.pu (nI x) :: (xs.map nI).map .pu) = _
          unfold lendDs
          rw [ih]
          unfold lendD
          rfl
      have e1 : lendD 3 S (.rf d) = some (.list (O.map nI)) := by
        unfold lendD lendR
        rw [(hS.obj dc).trans hd]
        dsimp only
        rw [e0]
        rfl
      have e2 : ∀ p : P, lendD 3 S (.pu p) = some p := fun p => by unfold lendD; rfl
      have e3 : lendDs 3 S [] = some [] := by unfold lendDs; rfl
      unfold lendDs
      rw [e2, Option.bind_some]
      unfold lendDs
      rw [e2, Option.bind_some]
      unfold lendDs
      rw [e1, Option.bind_some, e3]
      rfl
    rw [hl, w_some]
    refine can_ok h hn (.inl rfl) ?_
    rw [if_pos (show DL.scal (.bool _) = true from rfl)]
    (try simp only [DL.evA, DL.evH, DL.evJ, DL.evM, DL.evQ, DL.evU, DL.evX, List.getElem?_cons_zero, List.getElem?_cons_succ, List.set_cons_zero, List.set_cons_succ, ↓reduceIte, Bool.false_eq_true, List.map_cons, List.map_nil, List.length_cons, List.length_nil, Bool.not_true, Bool.not_false, w_fld, w_meth])
    refine both (fun hc1 => ?_) fun hc1 => ?_
    · have hc1 : Can js O n := by simpa using hc1
      (try simp only [DL.evA, DL.evH, DL.evJ, DL.evM, DL.evQ, DL.evU, DL.evX, List.getElem?_cons_zero, List.getElem?_cons_succ, List.set_cons_zero, List.set_cons_succ, ↓reduceIte, Bool.false_eq_true, List.map_cons, List.map_nil, List.length_cons, List.length_nil, Bool.not_true, Bool.not_false, w_fld, w_meth])
      refine jr_tl hj ?_
      refine w_eq.mpr ⟨ne_tP.1, ?_⟩
      rw [if_pos rfl, ne_tP.2]
      (try simp only [DL.evA, DL.evH, DL.evJ, DL.evM, DL.evQ, DL.evU, DL.evX, List.getElem?_cons_zero, List.getElem?_cons_succ, List.set_cons_zero, List.set_cons_succ, ↓reduceIte, Bool.false_eq_true, List.map_cons, List.map_nil, List.length_cons, List.length_nil, Bool.not_true, Bool.not_false, w_fld, w_meth])
      refine obj_at hO ?_
      rw [if_pos (lk_no (by decide +kernel) (by decide +kernel) (by decide +kernel))]
      (try simp only [DL.evA, DL.evH, DL.evJ, DL.evM, DL.evQ, DL.evU, DL.evX, List.getElem?_cons_zero, List.getElem?_cons_succ, List.set_cons_zero, List.set_cons_succ, ↓reduceIte, Bool.false_eq_true, List.map_cons, List.map_nil, List.length_cons, List.length_nil, Bool.not_true, Bool.not_false, w_fld, w_meth])
      refine behind_ok h h11 ac w oc dc ho hc hd g hn hc1 hS fun S' hS' => ?_
      (try simp only [DL.evA, DL.evH, DL.evJ, DL.evM, DL.evQ, DL.evU, DL.evX, List.getElem?_cons_zero, List.getElem?_cons_succ, List.set_cons_zero, List.set_cons_succ, ↓reduceIte, Bool.false_eq_true, List.map_cons, List.map_nil, List.length_cons, List.length_nil, Bool.not_true, Bool.not_false, w_fld, w_meth])
      have ec : (if (!decide (some (tl js n) = tool)) = true then (1 : Int) else 0) + (T js (gone js (tl js n) (O ++ [n])) : Nat) = (cost js tool O n : Nat) := by
        unfold cost
        rw [← chg_int]
        omega
      rw [ec]
      refine both (fun h2 => ?_) fun h2 => ?_
      · have h2 : cost js tool O n ≤ Lft js tool O := by have := of_decide_eq_true h2; omega
        have := nxt_first hn ⟨hc1, h2⟩ hz
        rw [hx] at this
        cases this
        (try simp only [DL.evA, DL.evH, DL.evJ, DL.evM, DL.evQ, DL.evU, DL.evX, List.getElem?_cons_zero, List.getElem?_cons_succ, List.set_cons_zero, List.set_cons_succ, ↓reduceIte, Bool.false_eq_true, List.map_cons, List.map_nil, List.length_cons, List.length_nil, Bool.not_true, Bool.not_false, w_fld, w_meth])
        exact ⟨rfl, q _ hS'⟩
      · have h2 : ¬ cost js tool O n ≤ Lft js tool O := fun z => h2 (decide_eq_true (by omega))
        (try simp only [DL.evA, DL.evH, DL.evJ, DL.evM, DL.evQ, DL.evU, DL.evX, List.getElem?_cons_zero, List.getElem?_cons_succ, List.set_cons_zero, List.set_cons_succ, ↓reduceIte, Bool.false_eq_true, List.map_cons, List.map_nil, List.length_cons, List.length_nil, Bool.not_true, Bool.not_false, w_fld, w_meth])
        refine ⟨_, _, rfl, hS', fun m hm => ?_⟩
        by_cases e : m = n
        · subst e
          exact fun z => h2 z.2
        · exact hz m (by omega)
    · have hc1 : ¬ Can js O n := by simpa using hc1
      (try simp only [DL.evA, DL.evH, DL.evJ, DL.evM, DL.evQ, DL.evU, DL.evX, List.getElem?_cons_zero, List.getElem?_cons_succ, List.set_cons_zero, List.set_cons_succ, ↓reduceIte, Bool.false_eq_true, List.map_cons, List.map_nil, List.length_cons, List.length_nil, Bool.not_true, Bool.not_false, w_fld, w_meth])
      refine ⟨_, _, rfl, hS, fun m hm => ?_⟩
      by_cases e : m = n
      · subst e
        exact fun z => hc1 z.1
      · exact hz m (by omega)
  · rintro e S ⟨e4, e5, rfl, hS, hz⟩
    exfalso
    exact hz n0 (nxt_is hx).1 (nxt_is hx).2
end
end JJ
/-! JH: the first order, least_takes. -/
namespace JJ
open PySem PySem.Spec PyProof.Rows L2 DL
section
variable {S : Sto} {e : Envi} {p : P} {js : List Job} {n o c d : Nat} {O F : List Nat} {t : Int} {kn : List (List Nat)}
theorem St2.app {S0 : Sto} (h : St2 js S0 c S) (hc : c < S0.length) (m : MC) : St2 js (S0 ++ [m]) c (S ++ [m]) := by
  obtain ⟨kn, k, rfl⟩ := h
  exact ⟨kn, k, by rw [List.set_append_left _ _ hc]⟩
theorem St2.len {S0 : Sto} (h : St2 js S0 c S) : S.length = S0.length := by
  obtain ⟨kn, k, rfl⟩ := h
  rw [List.length_set]
theorem St2.setd {S0 : Sto} (h : St2 js S0 c S) (dc : d ≠ c) (m : MC) : St2 js (S0.set d m) c (S.set d m) := by
  obtain ⟨kn, k, rfl⟩ := h
  exact ⟨kn, k, by rw [List.set_comm _ _ (Ne.symm dc)]⟩
theorem ordF_step {k : Nat} {tool : Option Int} (hx : nxt js tool O = some n) : ordF js (k + 1) tool O = ordF js k (some (tl js n)) (O ++ [n]) := by
  show (match nxt js tool O with
    | some n => ordF js k (some (tl js n)) (O ++ [n])
    | none => O) = _
  rw [hx]
end
end JJ
/-! JI: the law's first order, what an order is, how many takes it wants. -/
namespace JJ
open PySem PySem.Spec PyProof.Rows L2 DL
section
variable {S : Sto} {e : Envi} {p : P} {js : List Job} {n o c d : Nat} {O F : List Nat} {t : Int} {kn : List (List Nat)}
theorem at_nat {xs : List P} {x : P} (hx : xs[n]? = some x) {Q : D → Prop} (q : Q (.pu x)) : W (atI (xs.map .pu) (n : Int)) Q := ⟨_, atI_nat (by rw [List.getElem?_map, hx]; rfl), q⟩
theorem rng_nat (n : Nat) : rngP 0 n = (List.range n).map nI := by
  have := rng0 n
  unfold rngP
  refine List.map_congr_left fun j _ => ?_
  show PyData.int (0 + (j : Int)) = .int j
  rw [Int.zero_add]
theorem numD_len : ∀ (k : Nat) (ps : List P), (numD k ps).length = ps.length := by
  intro k ps
  induction ps generalizing k with
  | nil => rfl
  | cons x ps ih => show (numD (k + 1) ps).length + 1 = _; rw [ih]; rfl
theorem for_nums {b : D → Envi → Sto → Option Out} {Q : Out → Prop} (I : Nat → Envi → Sto → Prop) (h0 : I 0 e S)
    (st : ∀ (i n : Nat) e S, O[i]? = some n → I i e S → W (b (.pu (.tuple [.int i, .int n])) e S) (loopQ (I (i + 1)) Q)) (q : ∀ e S, I O.length e S → Q (.nx e S)) : W (forD b (numD 0 (O.map nI)) e S) Q := by
  refine for_inv (fun j e S => I j e S) _ 0 _ _ h0 (fun i d e S hd hi => ?_) fun e S hq => ?_
  · obtain ⟨x, hx, rfl⟩ := numD_get 0 _ i d hd
    rw [List.getElem?_map] at hx
    obtain ⟨n, hn, rfl⟩ := Option.map_eq_some_iff.mp hx
    rw [Nat.zero_add] at hi ⊢
    exact st i n e S hn hi
  · rw [Nat.zero_add, numD_len, List.length_map] at hq
    exact q e S hq
/-! ### what an order is -/
/-! ### how many takes an order wants -/
/-! ### the law's first order -/
open Classical in
end
end JJ
/-! JT: the draws beside cells of any kind. -/
namespace JJ
open PySem PySem.Spec PyProof.Rows L2
open DL hiding StA St take_ok take_st put_cell StA.nc StA.put StA.cut
/-- the state of the draws, whatever else there is -/
structure StA (S : Sto) (n c : Nat) (cells : List Int) (t : Int) : Prop where
  st : S[n]? = some (.dct [(.str ("cells" : Str), .rf c), (.str ("turn" : Str), .pu (.int t))])
  ce : S[c]? = some (.lst (cells.map fun i => .pu (.int i)))
  ne : cells ≠ []
  ln : cells.length ≤ 63
  t0 : 0 ≤ t
theorem StA.nc {S : Sto} {n c : Nat} {cells : List Int} {t : Int} (h : StA S n c cells t) : n ≠ c := fun e => by
  have h1 := h.st
  rw [e, h.ce] at h1
  cases h1
theorem StA.put {S : Sto} {n c : Nat} {cells : List Int} {t : Int} (h : StA S n c cells t) {t' : Int} (ht : 0 ≤ t') : StA (S.set n (.dct [(.str ("cells" : Str), .rf c), (.str ("turn" : Str), .pu (.int t'))])) n c cells t' := by
  have hn : n < S.length := (List.getElem?_eq_some_iff.mp h.st).1
  exact ⟨by rw [List.getElem?_set_self hn], by rw [List.getElem?_set_ne h.nc]; exact h.ce, h.ne, h.ln, ht⟩
theorem StA.cut {S : Sto} {n c : Nat} {cells : List Int} {t : Int} (h : StA S n c cells t) (j : Nat) (x : Int) : StA (S.set c (.lst ((cells.set j x).map fun i => .pu (.int i)))) n c (cells.set j x) t := by
  have hn : c < S.length := (List.getElem?_eq_some_iff.mp h.ce).1
  exact ⟨by rw [List.getElem?_set_ne h.nc.symm]; exact h.st, by rw [List.getElem?_set_self hn], fun z => h.ne (by have := congrArg List.length z; rw [List.length_set] at this; exact List.length_eq_zero_iff.mp this), by rw [List.length_set]; exact h.ln, h.t0⟩
theorem put_cell {S : Sto} {n c : Nat} {cells : List Int} {t : Int} (h : StA S n c cells t) {j : Nat} (hj : j < cells.length) {x : Int} {e : Envi} {Q : Envi × Sto → Prop} :
    W (putS (.rf c) (.pu (.int (j : Int))) (.pu (.int x)) e S) Q ↔ Q (e, S.set c (.lst ((cells.set j x).map fun i => .pu (.int i)))) := by
  have hl : lstD (.rf c) S = some (cells.map fun i => .pu (.int i)) := by
    show (seqD (.rf c) S).bind _ = _
    unfold seqD
    dsimp only
    rw [h.ce]
    rfl
  have h2 : putS (.rf c) (.pu (.int (j : Int))) (.pu (.int x)) e S = some (e, S.set c (.lst ((cells.set j x).map fun i => .pu (.int i)))) := by
    unfold putS
    rw [hl]
    show putL _ _ _ _ = _
    unfold putL
    dsimp only
    rw [h.ce]
    dsimp only
    rw [show ixN (cells.map fun i => D.pu (.int i)).length (j : Int) = some j from by unfold ixN; rw [if_pos (by omega), if_pos (by rw [List.length_map]; omega), Int.toNat_natCast]]
    show (if (List.set (cells.map fun i => D.pu (.int i)) j (D.pu (.int x))).length ≤ lim then _ else none) = _
    rw [if_pos (by rw [List.length_set, List.length_map]; have := h.ln; unfold lim; omega), List.map_set]
  rw [h2]
  exact w_some
theorem take_ok {S : Sto} {n c : Nat} {cells : List Int} {t m : Int} (h : StA S n c cells t) (hm : 0 < m) (hm2 : m < 1073741824) (ht : t < 1000000) :
    W (m__law_take [.rf n, .pu (.int m)] S) fun r => ∃ v cells' S', r = (.pu (.int v), S') ∧ 0 ≤ v ∧ v < m ∧ StA S' n c cells' (t + 1) ∧ S'.length = S.length ∧ ∀ k, k ≠ n → k ≠ c → S'[k]? = S[k]? := by
  unfold m__law_take
  rw [w_runF]
  refine ⟨⟨rfl, by decide⟩, ?_⟩
  rw [show env0 7 [.rf n, .pu (.int m)] = [some (.val (.rf n)), some (.val (.pu (.int m))), none, none, none, none, none] from rfl]
  unfold b__law_take
  simp only [DL.w_bind, DL.w_some, DL.w_none, DL.w_var, DL.w_slv, DL.w_slo, DL.w_P, DL.w_D, DL.w_x1, DL.w_x2, DL.w_xA, DL.w_nil, DL.w_cons, DL.w_ite_x, DL.w_isi, DL.w_tOfE, DL.w_bD, DL.w_tNot, DL.w_tAnd, DL.w_tOr, DL.w_and, DL.w_or, DL.w_seq, DL.w_qnx, DL.w_qrt, DL.w_qbk, DL.w_qct, DL.w_sNil, DL.w_sBreak, DL.w_sCont, DL.w_sDrop, DL.w_asg, DL.w_set, DL.w_ret, DL.w_retN, DL.w_if, DL.w_for, DL.w_fq, DL.w_fqo, DL.w_fqv, DL.w_nmP, DL.w_nmW, DL.w_nmR, DL.w_gnNil, DL.w_gtNil, DL.w_gnCons, DL.w_gtCons, DL.w_pwN, DL.w_pwP, DL.w_pwW, DL.w_gtLst, DL.w_gSubT, DL.w_s1, DL.w_s2, DL.w_pI, DL.w_pIB, DL.w_pNeg, DL.w_pAbs, DL.w_pDm, DL.w_a1, DL.w_a2, DL.w_add, DL.w_not, DL.w_ixL, DL.w_ixT, DL.w_ixB, DL.w_ixWL, DL.w_ixWT, DL.w_getT, DL.w_getL, DL.w_getB, DL.w_getW, DL.w_keyS, DL.w_keyI, DL.w_lkN, DL.w_lkC, DL.w_lenL, DL.w_lenT, DL.w_lenB, DL.w_puN, DL.w_puC, DL.w_puM, DL.w_tup, DL.w_lst, DL.w_list, DL.w_listC, DL.w_lstC, DL.w_seL, DL.w_seT, DL.w_seWL, DL.w_seWT, DL.w_seB, DL.w_eq, DL.w_callF, DL.w_callP, DL.w_runF, DL.w_eqn, DL.w_eqr, DL.w_runP, DL.w_epn, DL.w_epr, DL.w_lqn, DL.w_lqc, DL.w_lqb, DL.w_lqr, DL.w_rg, DL.w_rng1, DL.w_sl, DL.w_oN, DL.w_iQ, DL.w_oS, DL.w_gSlL, DL.w_gSlB, DL.w_gSlW, DL.w_disp, DL.w_lc, DL.w_setLc, DL.w_puQ, DL.w_yes, DL.w_itN, DL.w_imL, DL.w_imT, DL.w_imWL, DL.w_imWT, DL.w_zqT, DL.w_zqL, DL.w_bls, DL.w_tyN, DL.w_tyB, DL.w_tyI, DL.w_tyS, DL.w_tyL, DL.w_tyT, DL.w_tyD, DL.w_isNN, DL.w_isNI, DL.w_isNB, DL.w_isNS, DL.w_isNT, DL.w_isNL, DL.w_evB, DL.w_evI, DL.w_shI, DL.w_shB, DL.w_shN, DL.w_wrI, DL.w_wrT, DL.w_wrL, DL.w_at0, DL.w_at1, DL.w_at2, DL.w_nmN, DL.w_listN, DL.w_limR, DL.w_lstN, DL.w_seN, DL.w_lsL, DL.w_lsB, DL.w_lsN, DL.w_catN, DL.w_addL, DL.w_addT, DL.w_slN, DL.w_gSlN, DL.w_lcN, DL.w_rsN1, DL.w_rsN2, DL.w_rsZ1, DL.w_rsZ2, DL.w_callO, DL.w_callZ, DL.w_eO1, DL.w_eO2, DL.w_eO3, DL.w_eO4, DL.w_runO, DL.w_app, DL.w_putB, DL.w_plA, DL.w_aug, DL.w_pq, DL.w_par, DL.w_chain, DL.w_ints, DL.w_inN, DL.w_inC, DL.w_inM, DL.w_pIntI, DL.w_pIntB, DL.w_tupL, DL.w_tupT, DL.w_tupB, DL.w_rg2, DL.w_rng2, DL.w_evT, DL.w_evL, DL.w_evA0, DL.w_evA1, DL.w_tix, DL.w_a3, DL.w_pMax3, DL.w_pMin3, DL.w_rev, DL.w_revN, DL.w_revB, DL.w_ext, DL.w_rawN, DL.w_rawB, DL.w_plE, DL.w_intsB, DL.w_at3, DL.w_pBB, DL.w_putBS, DL.w_chain3, List.getElem?_cons_zero, List.getElem?_cons_succ, List.set_cons_zero, List.set_cons_succ, ↓reduceIte, Bool.false_eq_true, w_getD h.st, w_dT, put_turn h.st]
  have h1 := h.put (t' := t + 1) (by have := h.t0; omega)
  have len : (S.set n (.dct [(.str ("cells" : Str), .rf c), (.str ("turn" : Str), .pu (.int (t + 1)))])).length = S.length := List.length_set
  have oth : ∀ k, k ≠ n → k ≠ c → (S.set n (.dct [(.str ("cells" : Str), .rf c), (.str ("turn" : Str), .pu (.int (t + 1)))]))[k]? = S[k]? := fun k h1 _ => List.getElem?_set_ne (Ne.symm h1)
  refine ⟨rfl, ?_⟩
  generalize (S.set n (.dct [(.str ("cells" : Str), .rf c), (.str ("turn" : Str), .pu (.int (t + 1)))])) = S1 at h1 len oth ⊢
  simp only [DL.w_bind, DL.w_some, DL.w_none, DL.w_var, DL.w_slv, DL.w_slo, DL.w_P, DL.w_D, DL.w_x1, DL.w_x2, DL.w_xA, DL.w_nil, DL.w_cons, DL.w_ite_x, DL.w_isi, DL.w_tOfE, DL.w_bD, DL.w_tNot, DL.w_tAnd, DL.w_tOr, DL.w_and, DL.w_or, DL.w_seq, DL.w_qnx, DL.w_qrt, DL.w_qbk, DL.w_qct, DL.w_sNil, DL.w_sBreak, DL.w_sCont, DL.w_sDrop, DL.w_asg, DL.w_set, DL.w_ret, DL.w_retN, DL.w_if, DL.w_for, DL.w_fq, DL.w_fqo, DL.w_fqv, DL.w_nmP, DL.w_nmW, DL.w_nmR, DL.w_gnNil, DL.w_gtNil, DL.w_gnCons, DL.w_gtCons, DL.w_pwN, DL.w_pwP, DL.w_pwW, DL.w_gtLst, DL.w_gSubT, DL.w_s1, DL.w_s2, DL.w_pI, DL.w_pIB, DL.w_pNeg, DL.w_pAbs, DL.w_pDm, DL.w_a1, DL.w_a2, DL.w_add, DL.w_not, DL.w_ixL, DL.w_ixT, DL.w_ixB, DL.w_ixWL, DL.w_ixWT, DL.w_getT, DL.w_getL, DL.w_getB, DL.w_getW, DL.w_keyS, DL.w_keyI, DL.w_lkN, DL.w_lkC, DL.w_lenL, DL.w_lenT, DL.w_lenB, DL.w_puN, DL.w_puC, DL.w_puM, DL.w_tup, DL.w_lst, DL.w_list, DL.w_listC, DL.w_lstC, DL.w_seL, DL.w_seT, DL.w_seWL, DL.w_seWT, DL.w_seB, DL.w_eq, DL.w_callF, DL.w_callP, DL.w_runF, DL.w_eqn, DL.w_eqr, DL.w_runP, DL.w_epn, DL.w_epr, DL.w_lqn, DL.w_lqc, DL.w_lqb, DL.w_lqr, DL.w_rg, DL.w_rng1, DL.w_sl, DL.w_oN, DL.w_iQ, DL.w_oS, DL.w_gSlL, DL.w_gSlB, DL.w_gSlW, DL.w_disp, DL.w_lc, DL.w_setLc, DL.w_puQ, DL.w_yes, DL.w_itN, DL.w_imL, DL.w_imT, DL.w_imWL, DL.w_imWT, DL.w_zqT, DL.w_zqL, DL.w_bls, DL.w_tyN, DL.w_tyB, DL.w_tyI, DL.w_tyS, DL.w_tyL, DL.w_tyT, DL.w_tyD, DL.w_isNN, DL.w_isNI, DL.w_isNB, DL.w_isNS, DL.w_isNT, DL.w_isNL, DL.w_evB, DL.w_evI, DL.w_shI, DL.w_shB, DL.w_shN, DL.w_wrI, DL.w_wrT, DL.w_wrL, DL.w_at0, DL.w_at1, DL.w_at2, DL.w_nmN, DL.w_listN, DL.w_limR, DL.w_lstN, DL.w_seN, DL.w_lsL, DL.w_lsB, DL.w_lsN, DL.w_catN, DL.w_addL, DL.w_addT, DL.w_slN, DL.w_gSlN, DL.w_lcN, DL.w_rsN1, DL.w_rsN2, DL.w_rsZ1, DL.w_rsZ2, DL.w_callO, DL.w_callZ, DL.w_eO1, DL.w_eO2, DL.w_eO3, DL.w_eO4, DL.w_runO, DL.w_app, DL.w_putB, DL.w_plA, DL.w_aug, DL.w_pq, DL.w_par, DL.w_chain, DL.w_ints, DL.w_inN, DL.w_inC, DL.w_inM, DL.w_pIntI, DL.w_pIntB, DL.w_tupL, DL.w_tupT, DL.w_tupB, DL.w_rg2, DL.w_rng2, DL.w_evT, DL.w_evL, DL.w_evA0, DL.w_evA1, DL.w_tix, DL.w_a3, DL.w_pMax3, DL.w_pMin3, DL.w_rev, DL.w_revN, DL.w_revB, DL.w_ext, DL.w_rawN, DL.w_rawB, DL.w_plE, DL.w_intsB, DL.w_at3, DL.w_pBB, DL.w_putBS, DL.w_chain3, List.getElem?_cons_zero, List.getElem?_cons_succ, List.set_cons_zero, List.set_cons_succ, ↓reduceIte, Bool.false_eq_true, w_getD h1.st, w_dC, w_lenR h1.ce, List.length_map]
  have hl : 0 < cells.length := List.length_pos_iff.mpr h.ne
  refine ⟨by rw [decide_eq_true_eq]; omega, ?_⟩
  simp only [DL.w_bind, DL.w_some, DL.w_none, DL.w_var, DL.w_slv, DL.w_slo, DL.w_P, DL.w_D, DL.w_x1, DL.w_x2, DL.w_xA, DL.w_nil, DL.w_cons, DL.w_ite_x, DL.w_isi, DL.w_tOfE, DL.w_bD, DL.w_tNot, DL.w_tAnd, DL.w_tOr, DL.w_and, DL.w_or, DL.w_seq, DL.w_qnx, DL.w_qrt, DL.w_qbk, DL.w_qct, DL.w_sNil, DL.w_sBreak, DL.w_sCont, DL.w_sDrop, DL.w_asg, DL.w_set, DL.w_ret, DL.w_retN, DL.w_if, DL.w_for, DL.w_fq, DL.w_fqo, DL.w_fqv, DL.w_nmP, DL.w_nmW, DL.w_nmR, DL.w_gnNil, DL.w_gtNil, DL.w_gnCons, DL.w_gtCons, DL.w_pwN, DL.w_pwP, DL.w_pwW, DL.w_gtLst, DL.w_gSubT, DL.w_s1, DL.w_s2, DL.w_pI, DL.w_pIB, DL.w_pNeg, DL.w_pAbs, DL.w_pDm, DL.w_a1, DL.w_a2, DL.w_add, DL.w_not, DL.w_ixL, DL.w_ixT, DL.w_ixB, DL.w_ixWL, DL.w_ixWT, DL.w_getT, DL.w_getL, DL.w_getB, DL.w_getW, DL.w_keyS, DL.w_keyI, DL.w_lkN, DL.w_lkC, DL.w_lenL, DL.w_lenT, DL.w_lenB, DL.w_puN, DL.w_puC, DL.w_puM, DL.w_tup, DL.w_lst, DL.w_list, DL.w_listC, DL.w_lstC, DL.w_seL, DL.w_seT, DL.w_seWL, DL.w_seWT, DL.w_seB, DL.w_eq, DL.w_callF, DL.w_callP, DL.w_runF, DL.w_eqn, DL.w_eqr, DL.w_runP, DL.w_epn, DL.w_epr, DL.w_lqn, DL.w_lqc, DL.w_lqb, DL.w_lqr, DL.w_rg, DL.w_rng1, DL.w_sl, DL.w_oN, DL.w_iQ, DL.w_oS, DL.w_gSlL, DL.w_gSlB, DL.w_gSlW, DL.w_disp, DL.w_lc, DL.w_setLc, DL.w_puQ, DL.w_yes, DL.w_itN, DL.w_imL, DL.w_imT, DL.w_imWL, DL.w_imWT, DL.w_zqT, DL.w_zqL, DL.w_bls, DL.w_tyN, DL.w_tyB, DL.w_tyI, DL.w_tyS, DL.w_tyL, DL.w_tyT, DL.w_tyD, DL.w_isNN, DL.w_isNI, DL.w_isNB, DL.w_isNS, DL.w_isNT, DL.w_isNL, DL.w_evB, DL.w_evI, DL.w_shI, DL.w_shB, DL.w_shN, DL.w_wrI, DL.w_wrT, DL.w_wrL, DL.w_at0, DL.w_at1, DL.w_at2, DL.w_nmN, DL.w_listN, DL.w_limR, DL.w_lstN, DL.w_seN, DL.w_lsL, DL.w_lsB, DL.w_lsN, DL.w_catN, DL.w_addL, DL.w_addT, DL.w_slN, DL.w_gSlN, DL.w_lcN, DL.w_rsN1, DL.w_rsN2, DL.w_rsZ1, DL.w_rsZ2, DL.w_callO, DL.w_callZ, DL.w_eO1, DL.w_eO2, DL.w_eO3, DL.w_eO4, DL.w_runO, DL.w_app, DL.w_putB, DL.w_plA, DL.w_aug, DL.w_pq, DL.w_par, DL.w_chain, DL.w_ints, DL.w_inN, DL.w_inC, DL.w_inM, DL.w_pIntI, DL.w_pIntB, DL.w_tupL, DL.w_tupT, DL.w_tupB, DL.w_rg2, DL.w_rng2, DL.w_evT, DL.w_evL, DL.w_evA0, DL.w_evA1, DL.w_tix, DL.w_a3, DL.w_pMax3, DL.w_pMin3, DL.w_rev, DL.w_revN, DL.w_revB, DL.w_ext, DL.w_rawN, DL.w_rawB, DL.w_plE, DL.w_intsB, DL.w_at3, DL.w_pBB, DL.w_putBS, DL.w_chain3, List.getElem?_cons_zero, List.getElem?_cons_succ, List.set_cons_zero, List.set_cons_succ, ↓reduceIte, Bool.false_eq_true, w_getD h1.st, w_dC, w_getR h1.ce]
  have hj : ((t + 1) % (cells.length : Int)).toNat < cells.length := by
    have := Int.emod_lt_of_pos (t + 1) (show (0 : Int) < cells.length by omega)
    have := Int.emod_nonneg (t + 1) (show (cells.length : Int) ≠ 0 by omega)
    omega
  have hk : (t + 1) % (cells.length : Int) = (((t + 1) % (cells.length : Int)).toNat : Nat) := by
    have := Int.emod_nonneg (t + 1) (show (cells.length : Int) ≠ 0 by omega)
    omega
  generalize ((t + 1) % (cells.length : Int)).toNat = j at hj hk
  refine w_at j hk (x := .pu (.int cells[j])) (by rw [List.getElem?_map, List.getElem?_eq_getElem hj]; rfl) ?_
  rw [hk]
  generalize cells[j] = x
  have t0 := h.t0
  have st1 : small (t + 1) = true := small_of (by omega) (by omega)
  simp only [DL.w_bind, DL.w_some, DL.w_none, DL.w_var, DL.w_slv, DL.w_slo, DL.w_P, DL.w_D, DL.w_x1, DL.w_x2, DL.w_xA, DL.w_nil, DL.w_cons, DL.w_ite_x, DL.w_isi, DL.w_tOfE, DL.w_bD, DL.w_tNot, DL.w_tAnd, DL.w_tOr, DL.w_and, DL.w_or, DL.w_seq, DL.w_qnx, DL.w_qrt, DL.w_qbk, DL.w_qct, DL.w_sNil, DL.w_sBreak, DL.w_sCont, DL.w_sDrop, DL.w_asg, DL.w_set, DL.w_ret, DL.w_retN, DL.w_if, DL.w_for, DL.w_fq, DL.w_fqo, DL.w_fqv, DL.w_nmP, DL.w_nmW, DL.w_nmR, DL.w_gnNil, DL.w_gtNil, DL.w_gnCons, DL.w_gtCons, DL.w_pwN, DL.w_pwP, DL.w_pwW, DL.w_gtLst, DL.w_gSubT, DL.w_s1, DL.w_s2, DL.w_pI, DL.w_pIB, DL.w_pNeg, DL.w_pAbs, DL.w_pDm, DL.w_a1, DL.w_a2, DL.w_add, DL.w_not, DL.w_ixL, DL.w_ixT, DL.w_ixB, DL.w_ixWL, DL.w_ixWT, DL.w_getT, DL.w_getL, DL.w_getB, DL.w_getW, DL.w_keyS, DL.w_keyI, DL.w_lkN, DL.w_lkC, DL.w_lenL, DL.w_lenT, DL.w_lenB, DL.w_puN, DL.w_puC, DL.w_puM, DL.w_tup, DL.w_lst, DL.w_list, DL.w_listC, DL.w_lstC, DL.w_seL, DL.w_seT, DL.w_seWL, DL.w_seWT, DL.w_seB, DL.w_eq, DL.w_callF, DL.w_callP, DL.w_runF, DL.w_eqn, DL.w_eqr, DL.w_runP, DL.w_epn, DL.w_epr, DL.w_lqn, DL.w_lqc, DL.w_lqb, DL.w_lqr, DL.w_rg, DL.w_rng1, DL.w_sl, DL.w_oN, DL.w_iQ, DL.w_oS, DL.w_gSlL, DL.w_gSlB, DL.w_gSlW, DL.w_disp, DL.w_lc, DL.w_setLc, DL.w_puQ, DL.w_yes, DL.w_itN, DL.w_imL, DL.w_imT, DL.w_imWL, DL.w_imWT, DL.w_zqT, DL.w_zqL, DL.w_bls, DL.w_tyN, DL.w_tyB, DL.w_tyI, DL.w_tyS, DL.w_tyL, DL.w_tyT, DL.w_tyD, DL.w_isNN, DL.w_isNI, DL.w_isNB, DL.w_isNS, DL.w_isNT, DL.w_isNL, DL.w_evB, DL.w_evI, DL.w_shI, DL.w_shB, DL.w_shN, DL.w_wrI, DL.w_wrT, DL.w_wrL, DL.w_at0, DL.w_at1, DL.w_at2, DL.w_nmN, DL.w_listN, DL.w_limR, DL.w_lstN, DL.w_seN, DL.w_lsL, DL.w_lsB, DL.w_lsN, DL.w_catN, DL.w_addL, DL.w_addT, DL.w_slN, DL.w_gSlN, DL.w_lcN, DL.w_rsN1, DL.w_rsN2, DL.w_rsZ1, DL.w_rsZ2, DL.w_callO, DL.w_callZ, DL.w_eO1, DL.w_eO2, DL.w_eO3, DL.w_eO4, DL.w_runO, DL.w_app, DL.w_putB, DL.w_plA, DL.w_aug, DL.w_pq, DL.w_par, DL.w_chain, DL.w_ints, DL.w_inN, DL.w_inC, DL.w_inM, DL.w_pIntI, DL.w_pIntB, DL.w_tupL, DL.w_tupT, DL.w_tupB, DL.w_rg2, DL.w_rng2, DL.w_evT, DL.w_evL, DL.w_evA0, DL.w_evA1, DL.w_tix, DL.w_a3, DL.w_pMax3, DL.w_pMin3, DL.w_rev, DL.w_revN, DL.w_revB, DL.w_ext, DL.w_rawN, DL.w_rawB, DL.w_plE, DL.w_intsB, DL.w_at3, DL.w_pBB, DL.w_putBS, DL.w_chain3, List.getElem?_cons_zero, List.getElem?_cons_succ, List.set_cons_zero, List.set_cons_succ, ↓reduceIte, Bool.false_eq_true, sm1, sm2, sm3, sm4, sm5, Bool.or_true, Bool.and_true]
  refine ⟨by decide, ?_⟩
  refine both (fun _ => ?_) (fun _ => ?_)
  · refine ⟨⟨hm, hm2⟩, ?_⟩
    simp only [DL.w_bind, DL.w_some, DL.w_none, DL.w_var, DL.w_slv, DL.w_slo, DL.w_P, DL.w_D, DL.w_x1, DL.w_x2, DL.w_xA, DL.w_nil, DL.w_cons, DL.w_ite_x, DL.w_isi, DL.w_tOfE, DL.w_bD, DL.w_tNot, DL.w_tAnd, DL.w_tOr, DL.w_and, DL.w_or, DL.w_seq, DL.w_qnx, DL.w_qrt, DL.w_qbk, DL.w_qct, DL.w_sNil, DL.w_sBreak, DL.w_sCont, DL.w_sDrop, DL.w_asg, DL.w_set, DL.w_ret, DL.w_retN, DL.w_if, DL.w_for, DL.w_fq, DL.w_fqo, DL.w_fqv, DL.w_nmP, DL.w_nmW, DL.w_nmR, DL.w_gnNil, DL.w_gtNil, DL.w_gnCons, DL.w_gtCons, DL.w_pwN, DL.w_pwP, DL.w_pwW, DL.w_gtLst, DL.w_gSubT, DL.w_s1, DL.w_s2, DL.w_pI, DL.w_pIB, DL.w_pNeg, DL.w_pAbs, DL.w_pDm, DL.w_a1, DL.w_a2, DL.w_add, DL.w_not, DL.w_ixL, DL.w_ixT, DL.w_ixB, DL.w_ixWL, DL.w_ixWT, DL.w_getT, DL.w_getL, DL.w_getB, DL.w_getW, DL.w_keyS, DL.w_keyI, DL.w_lkN, DL.w_lkC, DL.w_lenL, DL.w_lenT, DL.w_lenB, DL.w_puN, DL.w_puC, DL.w_puM, DL.w_tup, DL.w_lst, DL.w_list, DL.w_listC, DL.w_lstC, DL.w_seL, DL.w_seT, DL.w_seWL, DL.w_seWT, DL.w_seB, DL.w_eq, DL.w_callF, DL.w_callP, DL.w_runF, DL.w_eqn, DL.w_eqr, DL.w_runP, DL.w_epn, DL.w_epr, DL.w_lqn, DL.w_lqc, DL.w_lqb, DL.w_lqr, DL.w_rg, DL.w_rng1, DL.w_sl, DL.w_oN, DL.w_iQ, DL.w_oS, DL.w_gSlL, DL.w_gSlB, DL.w_gSlW, DL.w_disp, DL.w_lc, DL.w_setLc, DL.w_puQ, DL.w_yes, DL.w_itN, DL.w_imL, DL.w_imT, DL.w_imWL, DL.w_imWT, DL.w_zqT, DL.w_zqL, DL.w_bls, DL.w_tyN, DL.w_tyB, DL.w_tyI, DL.w_tyS, DL.w_tyL, DL.w_tyT, DL.w_tyD, DL.w_isNN, DL.w_isNI, DL.w_isNB, DL.w_isNS, DL.w_isNT, DL.w_isNL, DL.w_evB, DL.w_evI, DL.w_shI, DL.w_shB, DL.w_shN, DL.w_wrI, DL.w_wrT, DL.w_wrL, DL.w_at0, DL.w_at1, DL.w_at2, DL.w_nmN, DL.w_listN, DL.w_limR, DL.w_lstN, DL.w_seN, DL.w_lsL, DL.w_lsB, DL.w_lsN, DL.w_catN, DL.w_addL, DL.w_addT, DL.w_slN, DL.w_gSlN, DL.w_lcN, DL.w_rsN1, DL.w_rsN2, DL.w_rsZ1, DL.w_rsZ2, DL.w_callO, DL.w_callZ, DL.w_eO1, DL.w_eO2, DL.w_eO3, DL.w_eO4, DL.w_runO, DL.w_app, DL.w_putB, DL.w_plA, DL.w_aug, DL.w_pq, DL.w_par, DL.w_chain, DL.w_ints, DL.w_inN, DL.w_inC, DL.w_inM, DL.w_pIntI, DL.w_pIntB, DL.w_tupL, DL.w_tupT, DL.w_tupB, DL.w_rg2, DL.w_rng2, DL.w_evT, DL.w_evL, DL.w_evA0, DL.w_evA1, DL.w_tix, DL.w_a3, DL.w_pMax3, DL.w_pMin3, DL.w_rev, DL.w_revN, DL.w_revB, DL.w_ext, DL.w_rawN, DL.w_rawB, DL.w_plE, DL.w_intsB, DL.w_at3, DL.w_pBB, DL.w_putBS, DL.w_chain3, List.getElem?_cons_zero, List.getElem?_cons_succ, List.set_cons_zero, List.set_cons_succ, ↓reduceIte, Bool.false_eq_true, List.map_cons, List.map_nil, List.length_cons, List.length_nil, w_getD h1.st, w_dC, put_cell h1 hj]
    refine ⟨by trivial, by trivial, by trivial, ?_⟩
    refine ⟨_, _, _, rfl, Int.emod_nonneg _ (by omega), Int.emod_lt_of_pos _ hm, h1.cut j _, by rw [List.length_set]; exact len, fun k k1 k2 => by rw [List.getElem?_set_ne (Ne.symm k2)]; exact oth k k1 k2⟩
  · have sx : ∀ y : Int, small (y % 2147483647) = true := fun y => small_of (Int.emod_nonneg _ (by decide)) (by have := Int.emod_lt_of_pos y (show (0 : Int) < 2147483647 by decide); omega)
    simp only [DL.w_bind, DL.w_some, DL.w_none, DL.w_var, DL.w_slv, DL.w_slo, DL.w_P, DL.w_D, DL.w_x1, DL.w_x2, DL.w_xA, DL.w_nil, DL.w_cons, DL.w_ite_x, DL.w_isi, DL.w_tOfE, DL.w_bD, DL.w_tNot, DL.w_tAnd, DL.w_tOr, DL.w_and, DL.w_or, DL.w_seq, DL.w_qnx, DL.w_qrt, DL.w_qbk, DL.w_qct, DL.w_sNil, DL.w_sBreak, DL.w_sCont, DL.w_sDrop, DL.w_asg, DL.w_set, DL.w_ret, DL.w_retN, DL.w_if, DL.w_for, DL.w_fq, DL.w_fqo, DL.w_fqv, DL.w_nmP, DL.w_nmW, DL.w_nmR, DL.w_gnNil, DL.w_gtNil, DL.w_gnCons, DL.w_gtCons, DL.w_pwN, DL.w_pwP, DL.w_pwW, DL.w_gtLst, DL.w_gSubT, DL.w_s1, DL.w_s2, DL.w_pI, DL.w_pIB, DL.w_pNeg, DL.w_pAbs, DL.w_pDm, DL.w_a1, DL.w_a2, DL.w_add, DL.w_not, DL.w_ixL, DL.w_ixT, DL.w_ixB, DL.w_ixWL, DL.w_ixWT, DL.w_getT, DL.w_getL, DL.w_getB, DL.w_getW, DL.w_keyS, DL.w_keyI, DL.w_lkN, DL.w_lkC, DL.w_lenL, DL.w_lenT, DL.w_lenB, DL.w_puN, DL.w_puC, DL.w_puM, DL.w_tup, DL.w_lst, DL.w_list, DL.w_listC, DL.w_lstC, DL.w_seL, DL.w_seT, DL.w_seWL, DL.w_seWT, DL.w_seB, DL.w_eq, DL.w_callF, DL.w_callP, DL.w_runF, DL.w_eqn, DL.w_eqr, DL.w_runP, DL.w_epn, DL.w_epr, DL.w_lqn, DL.w_lqc, DL.w_lqb, DL.w_lqr, DL.w_rg, DL.w_rng1, DL.w_sl, DL.w_oN, DL.w_iQ, DL.w_oS, DL.w_gSlL, DL.w_gSlB, DL.w_gSlW, DL.w_disp, DL.w_lc, DL.w_setLc, DL.w_puQ, DL.w_yes, DL.w_itN, DL.w_imL, DL.w_imT, DL.w_imWL, DL.w_imWT, DL.w_zqT, DL.w_zqL, DL.w_bls, DL.w_tyN, DL.w_tyB, DL.w_tyI, DL.w_tyS, DL.w_tyL, DL.w_tyT, DL.w_tyD, DL.w_isNN, DL.w_isNI, DL.w_isNB, DL.w_isNS, DL.w_isNT, DL.w_isNL, DL.w_evB, DL.w_evI, DL.w_shI, DL.w_shB, DL.w_shN, DL.w_wrI, DL.w_wrT, DL.w_wrL, DL.w_at0, DL.w_at1, DL.w_at2, DL.w_nmN, DL.w_listN, DL.w_limR, DL.w_lstN, DL.w_seN, DL.w_lsL, DL.w_lsB, DL.w_lsN, DL.w_catN, DL.w_addL, DL.w_addT, DL.w_slN, DL.w_gSlN, DL.w_lcN, DL.w_rsN1, DL.w_rsN2, DL.w_rsZ1, DL.w_rsZ2, DL.w_callO, DL.w_callZ, DL.w_eO1, DL.w_eO2, DL.w_eO3, DL.w_eO4, DL.w_runO, DL.w_app, DL.w_putB, DL.w_plA, DL.w_aug, DL.w_pq, DL.w_par, DL.w_chain, DL.w_ints, DL.w_inN, DL.w_inC, DL.w_inM, DL.w_pIntI, DL.w_pIntB, DL.w_tupL, DL.w_tupT, DL.w_tupB, DL.w_rg2, DL.w_rng2, DL.w_evT, DL.w_evL, DL.w_evA0, DL.w_evA1, DL.w_tix, DL.w_a3, DL.w_pMax3, DL.w_pMin3, DL.w_rev, DL.w_revN, DL.w_revB, DL.w_ext, DL.w_rawN, DL.w_rawB, DL.w_plE, DL.w_intsB, DL.w_at3, DL.w_pBB, DL.w_putBS, DL.w_chain3, List.getElem?_cons_zero, List.getElem?_cons_succ, List.set_cons_zero, List.set_cons_succ, ↓reduceIte, Bool.false_eq_true, st1, sx, sm1, sm2, sm3, sm4, Bool.or_true, Bool.true_or]
    refine ⟨by decide, trivial, trivial, trivial, by decide, trivial, by decide, trivial, trivial, by decide, by decide, by rw [decide_eq_true_eq]; exact hm, rfl, ?_⟩
    exact ⟨_, _, _, rfl, Int.emod_nonneg _ (by omega), Int.emod_lt_of_pos _ hm, h1, len, oth⟩
/-- a state of the draws, its numbers left out -/
def St (S : Sto) (n : Nat) (T : Int) : Prop := ∃ c cells t, StA S n c cells t ∧ t ≤ T
theorem take_st {S : Sto} {n : Nat} {T m : Int} (h : St S n T) (hm : 0 < m) (hm2 : m < 1073741824) (hT : T < 1000000) {Q : D × Sto → Prop} (q : ∀ v S', 0 ≤ v → v < m → St S' n (T + 1) → Q (.pu (.int v), S')) : W (m__law_take [.rf n, .pu (.int m)] S) Q := by
  obtain ⟨c, cells, t, h, ht⟩ := h
  refine (take_ok h hm hm2 (by omega)).imp fun r hr => ?_
  obtain ⟨v, cells', S', rfl, h1, h2, h3, _⟩ := hr
  exact q v S' h1 h2 ⟨c, cells', _, h3, by omega⟩
theorem sta_of {S : Sto} {n c : Nat} {cells : List Int} {t : Int} (h : DL.StA S n c cells t) : StA S n c cells t := ⟨h.st, h.ce, h.ne, h.ln, h.t0⟩
end JJ
/-! JK: jobs by draws. -/
namespace JJ
open PySem PySem.Spec PyProof.Rows L2 DL
def jE (j : Job) : P := .tuple [.int j.1, .list (j.2.map nI)]
theorem jE_jr (j : Job) : JR (jE j) j := ⟨_, .inl rfl, .inr rfl⟩
theorem jE_all : ∀ js : List Job, Paired JR (js.map jE) js
  | [] => .nil
  | j :: js => .cons (jE_jr j) (jE_all js)
section
variable {S : Sto} {e : Envi} {p : P} {js : List Job} {n o c d : Nat} {O F : List Nat} {T : Int}
/-- a state of the draws, and a list of numbers beside it -/
def StL (S : Sto) (n : Nat) (T : Int) (d : Nat) (xs : List Nat) : Prop := ∃ c cells t, StA S n c cells t ∧ t ≤ T ∧ d ≠ n ∧ d ≠ c ∧ S[d]? = some (.lst ((xs.map nI).map .pu))
theorem StL.st {xs : List Nat} (h : StL S n T d xs) : St S n T := let ⟨c, cells, t, h1, h2, _⟩ := h; ⟨c, cells, t, h1, h2⟩
theorem StL.at {xs : List Nat} (h : StL S n T d xs) : S[d]? = some (.lst ((xs.map nI).map .pu)) := let ⟨_, _, _, _, _, _, _, h⟩ := h; h
theorem stl_new (h : St S n T) (xs : List Nat) : StL (S ++ [.lst ((xs.map nI).map .pu)]) n T S.length xs := by
  obtain ⟨c, cells, t, h1, h2⟩ := h
  have hn := (List.getElem?_eq_some_iff.mp h1.st).1
  have hc := (List.getElem?_eq_some_iff.mp h1.ce).1
  refine ⟨c, cells, t, ⟨?_, ?_, h1.ne, h1.ln, h1.t0⟩, h2, by omega, by omega, app_get⟩
  · rw [List.getElem?_append_left hn]; exact h1.st
  · rw [List.getElem?_append_left hc]; exact h1.ce
theorem stl_set {xs : List Nat} (h : StL S n T d xs) (ys : List Nat) : StL (S.set d (.lst ((ys.map nI).map .pu))) n T d ys := by
  obtain ⟨c, cells, t, h1, h2, h3, h4, h5⟩ := h
  refine ⟨c, cells, t, ⟨?_, ?_, h1.ne, h1.ln, h1.t0⟩, h2, h3, h4, List.getElem?_set_self (List.getElem?_eq_some_iff.mp h5).1⟩
  · rw [List.getElem?_set_ne h3]; exact h1.st
  · rw [List.getElem?_set_ne h4]; exact h1.ce
theorem take_stl {xs : List Nat} (h : StL S n T d xs) {m : Int} (hm : 0 < m) (hm2 : m < 1073741824) (hT : T < 1000000) {Q : D × Sto → Prop} (q : ∀ v S', 0 ≤ v → v < m → StL S' n (T + 1) d xs → Q (.pu (.int v), S')) : W (m__law_take [.rf n, .pu (.int m)] S) Q := by
  obtain ⟨c, cells, t, h1, h2, h3, h4, h5⟩ := h
  refine (take_ok h1 hm hm2 (by omega)).imp fun r hr => ?_
  obtain ⟨v, cells', S', rfl, a1, a2, a3, _, a4⟩ := hr
  exact q v S' a1 a2 ⟨c, cells', _, a3, by omega, h3, h4, (a4 d h3 h4).trans h5⟩
/-- a comprehension whose numbers are kept in mind -/
theorem comp_acc {g : Gt} {t : Tx} {x : Ex} {I : List Nat → Sto → Prop} : ∀ (ds : List D) (acc : List Nat) (S : Sto), I acc S → (∀ d ∈ ds, ∀ (as : List Nat) (S : Sto), as.length < acc.length + ds.length → I as S → ∀ R : P → Sto → Prop, (∀ v S', I (as ++ [v]) S' → R (nI v) S') → W (g d e S) fun q => W (t q.1 q.2) fun b => b.1 = true ∧ W (x q.1 b.2) fun r => puQ R r.2 r.1) → acc.length + ds.length ≤ lim →
    ∀ Q : List P × Sto → Prop, (∀ as S', as.length = acc.length + ds.length → I as S' → Q (as.map nI, S')) → W (compD g t x e ds S (acc.map nI)) Q
  | [], acc, S, hI, _, _, Q, q => comp_nil.mpr (q acc S rfl hI)
  | d :: ds, acc, S, hI, st, hl, Q, q => by
    rw [List.length_cons] at hl
    rw [comp_cons]
    refine (st d List.mem_cons_self acc S (by rw [List.length_cons]; omega) hI (fun p' S' => (acc.map nI).length < lim ∧ W (compD g t x e ds S' (acc.map nI ++ [p'])) Q) (fun v S' hv => ⟨by rw [List.length_map]; omega, ?_⟩)).imp fun q' h => h.imp fun b h => by rw [if_pos h.1]; exact h.2
    rw [show acc.map nI ++ [nI v] = (acc ++ [v]).map nI by rw [List.map_append]; rfl]
    refine comp_acc ds (acc ++ [v]) S' hv (fun d hd as S hl' hI R r => st d (List.mem_cons_of_mem _ hd) as S (by rw [List.length_append, List.length_singleton] at hl'; rw [List.length_cons]; omega) hI R r) (by rw [List.length_append, List.length_singleton]; omega) Q fun as S' hl' hI => ?_
    exact q as S' (by rw [hl', List.length_append, List.length_singleton, List.length_cons]; omega) hI
theorem erase_map {α β : Type} (f : α → β) : ∀ (xs : List α) (i : Nat), (xs.eraseIdx i).map f = (xs.map f).eraseIdx i
  | [], _ => rfl
  | _ :: _, 0 => rfl
  | a :: xs, i + 1 => by
    show f a :: (xs.eraseIdx i).map f = f a :: (xs.map f).eraseIdx i
    rw [erase_map f xs i]
theorem erase_perm {α : Type} : ∀ (xs : List α) (i : Nat) (x : α), xs[i]? = some x → (x :: xs.eraseIdx i).Perm xs
  | [], i, x, h => by cases h
  | a :: xs, 0, x, h => by cases h; exact List.Perm.refl _
  | a :: xs, i + 1, x, h => by
    have h : xs[i]? = some x := by simpa using h
    exact (List.Perm.swap a x _).trans ((erase_perm xs i x h).cons a)
theorem order_ok (h : St S n T) (hT : T < 900000) {m : Nat} (hm : m ≤ 20) {e : Envi} (h0 : e[0]? = some (some (.val (.rf n)))) (h3 : e[3]? = some (some (.val (.rf S.length)))) (hl : 11 < e.length) {Q : List P × Sto → Prop} (q : ∀ (O : List Nat) S', O.Perm (List.range m) → St S' n (T + m) → Q (O.map nI, S')) :
    W (compD (gNm 11) (tYesX) (xPopI (xVar 3) (xA (gCallF m__law_take) (aCons (xVar 0) (aCons (xA gLen (aCons (xVar 3) (aNil))) (aNil))))) (e.set 11 none) (rngD 0 m) (S ++ [.lst (((List.range m).map nI).map .pu)]) []) Q := by
  refine comp_acc (I := fun as S1 => ∃ xs, StL S1 n (T + as.length) S.length xs ∧ (as ++ xs).Perm (List.range m)) (rngD 0 m) [] _ ⟨List.range m, by simpa using stl_new h (List.range m), List.Perm.refl _⟩ ?_ ?_ Q ?_
  · intro d hd as S1 hl1 ⟨xs, hx, hp⟩ R r
    rw [List.length_nil, Nat.zero_add, rng_len] at hl1
    obtain ⟨j, _, rfl⟩ : ∃ j : Nat, True ∧ d = .pu (.int j) := by
      rw [rng0] at hd
      obtain ⟨p, hp, rfl⟩ := List.mem_map.mp hd
      obtain ⟨j, _, rfl⟩ := List.mem_map.mp hp
      exact ⟨j, trivial, rfl⟩
    have hpl := hp.length_eq
    rw [List.length_append, List.length_range] at hpl
    have v0 : ∀ {z : Option Sl}, ((e.set 11 none).set 11 z)[0]? = some (some (.val (.rf n))) := fun {z} => by rw [List.getElem?_set_ne (by decide), List.getElem?_set_ne (by decide)]; exact h0
    have v3 : ∀ {z : Option Sl}, ((e.set 11 none).set 11 z)[3]? = some (some (.val (.rf S.length))) := fun {z} => by rw [List.getElem?_set_ne (by decide), List.getElem?_set_ne (by decide)]; exact h3
    rw [w_nmP, w_yes]
    refine ⟨rfl, ?_⟩
    unfold xPopI
    simp only [DL.evA, DL.evH, DL.evJ, DL.evM, DL.evQ, DL.evU, DL.evX, List.getElem?_cons_zero, List.getElem?_cons_succ, List.set_cons_zero, List.set_cons_succ, ↓reduceIte, Bool.false_eq_true, List.map_cons, List.map_nil, List.length_cons, List.length_nil, Bool.not_true, Bool.not_false, v0, v3]
    rw [ls_rf hx.at]
    have lenrf : ∀ {Q : D × Sto → Prop}, Q (.pu (.int xs.length), S1) → W (gLen [.rf S.length] S1) Q := fun {Q} q => by
      refine ⟨_, ?_, q⟩
      show (seqD (.rf S.length) S1).bind _ = _
      rw [seq_rf hx.at, Option.bind_some, List.length_map, List.length_map]
    refine lenrf ⟨rfl, ?_⟩
    refine take_stl hx (by omega) (by omega) (by omega) fun v S2 a1 a2 h2 => ?_
    obtain ⟨k, rfl⟩ : ∃ k : Nat, v = k := ⟨v.toNat, by omega⟩
    dsimp only
    rw [h2.at]
    dsimp only
    rw [if_pos ⟨by omega, by omega⟩]
    have hk : k < xs.length := by omega
    have ek : (((xs.map nI).map D.pu)[(k : Int).toNat]?) = some (.pu (nI xs[k])) := by
      rw [Int.toNat_natCast, List.getElem?_map, List.getElem?_map, List.getElem?_eq_getElem hk]
      rfl
    rw [ek, Option.bind_some, w_some]
    refine r (xs[k]) _ ⟨xs.eraseIdx k, ?_, ?_⟩
    · have := stl_set h2 (xs.eraseIdx k)
      rw [Int.toNat_natCast]
      rw [List.length_append, List.length_singleton]
      have e3 : ((xs.eraseIdx k).map nI).map D.pu = ((xs.map nI).map D.pu).eraseIdx k := by rw [erase_map, erase_map]
      rw [e3] at this
      have e4 : T + ((as.length + 1 : Nat) : Int) = T + as.length + 1 := by omega
      rw [e4]
      exact this
    · rw [List.append_assoc]
      exact ((erase_perm xs k _ (List.getElem?_eq_getElem hk)).append_left as).trans hp
  · rw [rng_len, List.length_nil]; unfold lim; omega
  · intro as S1 hl1 ⟨xs, hx, hp⟩
    rw [rng_len, List.length_nil, Nat.zero_add] at hl1
    have hpl := hp.length_eq
    rw [List.length_append, List.length_range] at hpl
    have e0 := List.length_eq_zero_iff.mp (show xs.length = 0 by omega)
    rw [e0, List.append_nil] at hp
    have := hx.st
    rw [hl1] at this
    exact q as S1 hp this
def lrQ (Q : D × Sto → Prop) (S : Sto) : D → Prop
  | .pu (.int j) => (rOk j && decide (j.toNat ≤ 100000)) = true ∧ Q (.rf S.length, S ++ [.lst ((rngP 0 j.toNat).map .pu)])
  | _ => False
theorem w_lrQ {Q : D × Sto → Prop} {j : Int} : lrQ Q S (.pu (.int j)) ↔ (rOk j && decide (j.toNat ≤ 100000)) = true ∧ Q (.rf S.length, S ++ [.lst ((rngP 0 j.toNat).map .pu)]) := Iff.rfl
theorem lr_mid {d : D} {Q : D × Sto → Prop} : W (match d with
    | .pu (.int j) => if (rOk j && decide (j.toNat ≤ 100000)) = true then some (D.rf S.length, S ++ [MC.lst ((rngP 0 j.toNat).map .pu)]) else none
    | _ => none) Q ↔ lrQ Q S d := by
  have no : W (none : Option (D × Sto)) Q ↔ False := w_none
  cases d with
  | pu p =>
    cases p with
    | int j =>
      show W (if (rOk j && decide (j.toNat ≤ 100000)) = true then some (D.rf S.length, S ++ [MC.lst ((rngP 0 j.toNat).map .pu)]) else none) Q ↔ _
      rw [w_lrQ]
      by_cases c : (rOk j && decide (j.toNat ≤ 100000)) = true
      · rw [if_pos c, w_some]; exact ⟨fun h => ⟨c, h⟩, fun h => h.2⟩
      · rw [if_neg c]; exact ⟨fun h => (no.mp h).elim, fun h => (c h.1).elim⟩
    | _ => exact no
  | _ => exact no
theorem w_lr1C {xa : Ex} {Q : D × Sto → Prop} : W (xLr1C xa e S) Q ↔ W (xa e S) fun r => lrQ Q r.2 r.1 :=
  w_bind.trans ⟨fun h => h.imp fun r h => lr_mid.mp h, fun h => h.imp fun r h => lr_mid.mpr h⟩
/-- jobs made so far: what stands behind place i of the order is as at first -/
structure Mk (m : Nat) (O : List Nat) (i : Nat) (js : List Job) : Prop where
  len : js.length = m
  ok : ∀ (j x : Nat), j < i → O[j]? = some x → (nd js x).length ≤ 8 ∧ ∀ y ∈ nd js x, y ∈ O.take j
theorem nd_set {js : List Job} {x y : Nat} {j : Job} (hx : x < js.length) : nd (js.set x j) y = if y = x then j.2 else nd js y := by
  unfold nd
  rw [List.getD_eq_getElem?_getD, List.getD_eq_getElem?_getD]
  by_cases e : y = x
  · subst e
    rw [if_pos rfl, List.getElem?_set_self hx]
    rfl
  · rw [if_neg e, List.getElem?_set_ne (Ne.symm e)]
theorem Mk.put {m i x : Nat} {j : Job} (h : Mk m O i js) (hO : O.Perm (List.range m)) (hx : O[i]? = some x) (h8 : j.2.length ≤ 8) (hj : ∀ y ∈ j.2, y ∈ O.take i) : Mk m O (i + 1) (js.set x j) := by
  have nodup : O.Nodup := hO.nodup_iff.mpr List.nodup_range
  have hxm : x < js.length := by
    rw [h.len]
    exact List.mem_range.mp (hO.mem_iff.mp (List.mem_of_getElem? hx))
  refine ⟨by rw [List.length_set, h.len], fun k y hk hy => ?_⟩
  rw [nd_set hxm]
  by_cases e : y = x
  · subst e
    rw [if_pos rfl]
    have hi := (List.getElem?_eq_some_iff.mp hx)
    have hk2 := (List.getElem?_eq_some_iff.mp hy)
    have e2 : k = i := by
      obtain ⟨a1, a2⟩ := hi
      obtain ⟨b1, b2⟩ := hk2
      exact (List.getElem_inj nodup).mp (b2.trans a2.symm)
    subst e2
    exact ⟨h8, hj⟩
  · rw [if_neg e]
    refine h.ok k y ?_ hy
    rcases Nat.lt_or_ge k i with z | z
    · exact z
    · have e2 : k = i := by omega
      subst e2
      rw [hx] at hy
      cases hy
      exact absurd rfl e
theorem Mk.fin {m : Nat} (h : Mk m O m js) (hO : O.Perm (List.range m)) : Acy js ∧ Wf js ∧ ∀ n, (nd js n).length ≤ 8 := by
  have hp : ∀ n, n ∈ O ↔ n < js.length := fun n => by rw [hO.mem_iff, List.mem_range, h.len]
  have hl : O.length = m := by rw [hO.length_eq, List.length_range]
  obtain ⟨h1, h2⟩ := acy_of (js := js) (ord := O) hp fun i n hi => (h.ok i n (by have := (List.getElem?_eq_some_iff.mp hi).1; omega) hi).2
  refine ⟨h1, h2, fun n => ?_⟩
  rcases Nat.lt_or_ge n js.length with z | z
  · obtain ⟨i, hi, e⟩ := List.getElem_of_mem ((hp n).mpr z)
    exact (h.ok i n (by omega) (by rw [List.getElem?_eq_getElem hi, e])).1
  · unfold nd
    rw [List.getD_eq_getElem?_getD, List.getElem?_eq_none (by omega)]
    exact Nat.zero_le _
theorem five_at {l : List P} (hl : l.length = 5) (hi : ∀ p ∈ l, ∃ i, p = .int i) {v k : Int} (h0 : 0 ≤ v) (h1 : v < k) (hk : k ≤ 5) {Q : D → Prop} (q : ∀ i : Int, Q (.pu (.int i))) : W (atI (l.map .pu) v) Q := by
  obtain ⟨j, rfl⟩ : ∃ j : Nat, v = j := ⟨v.toNat, by omega⟩
  have hj : j < l.length := by omega
  obtain ⟨i, e⟩ := hi _ (List.getElem_mem hj)
  refine at_nat (List.getElem?_eq_getElem hj) ?_
  rw [e]
  exact q i
theorem rep_flat : ∀ m : Nat, (List.replicate m [PyData.tuple [.int 0, .list []]]).flatten = (List.replicate m ((0, []) : Job)).map jE
  | 0 => rfl
  | m + 1 => by
    rw [List.replicate_succ, List.flatten_cons, rep_flat m, List.replicate_succ, List.map_cons]
    rfl
theorem Mk.zero {m : Nat} : Mk m O 0 (List.replicate m ((0, []) : Job)) := ⟨List.length_replicate, fun j x hj => absurd hj (Nat.not_lt_zero _)⟩
noncomputable def jT : Sx := (sFq 10 (sSeq (sAsg (xA gTup (aCons (x2 gGet (xVar 5) (xA (gCallF m__law_take) (aCons (xVar 0) (aCons (xVar 2) (aNil))))) (aCons (xVar 10) (aNil)))) (gSubT (xVar 6) (xVar 9))) (sNil)))
def jI (n m L : Nat) (k w T : Int) (l : List P) (O : List Nat) (i : Nat) (e : Envi) (S : Sto) : Prop := ∃ (js : List Job) (e8 e9 e10 e11 : Option Sl), e = [some (.val (.rf n)), some (.val (.pu (.int m))), some (.val (.pu (.int k))), some (.val (.rf L)), some (.val (.pu (.list (O.map nI)))), some (.val (.pu (.list l))), some (.ow (.lst (js.map jE))), some (.val (.pu (.int w))), e8, e9, e10, e11] ∧ Mk m O i js ∧ St S n (T + m + 2 + 10 * i)
theorem jobs_tail {m L : Nat} {k w T : Int} {l : List P} (hO : O.Perm (List.range m)) (hm : m ≤ 20) (hT : T < 800000) (hl5 : l.length = 5) (hi5 : ∀ p ∈ l, ∃ i, p = .int i) (hk : 0 < k) (hk5 : k ≤ 5) {i x : Nat} (hi : O[i]? = some x) {js : List Job} (hM : Mk m O i js) {ns : List Nat} (h8 : ns.length ≤ 8) (hns : ∀ y ∈ ns, y ∈ O.take i) (hS : St S n (T + m + 2 + 10 * i + 9)) {e11 : Option Sl} {Q : Out → Prop} :
    W (jT [some (.val (.rf n)), some (.val (.pu (.int m))), some (.val (.pu (.int k))), some (.val (.rf L)), some (.val (.pu (.list (O.map nI)))), some (.val (.pu (.list l))), some (.ow (.lst (js.map jE))), some (.val (.pu (.int w))), some (.val (.pu (.int i))), some (.val (.pu (.int x))), some (.ow (.lst (ns.map nI))), e11] S) (loopQ (jI n m L k w T l O (i + 1)) Q) := by
  have hOl : O.length = m := by rw [hO.length_eq, List.length_range]
  have hi8 := (List.getElem?_eq_some_iff.mp hi).1
  have hxm : x < js.length := by
    rw [hM.len]
    exact List.mem_range.mp (hO.mem_iff.mp (List.mem_of_getElem? hi))
  unfold jT
  simp only [DL.evA, DL.evH, DL.evJ, DL.evM, DL.evQ, DL.evU, DL.evX, List.getElem?_cons_zero, List.getElem?_cons_succ, List.set_cons_zero, List.set_cons_succ, ↓reduceIte, Bool.false_eq_true, List.map_cons, List.map_nil, List.length_cons, List.length_nil, Bool.not_true, Bool.not_false]
  rw [show frzP (.lst (ns.map nI)) = .list (ns.map nI) from rfl]
  (try simp only [DL.evA, DL.evH, DL.evJ, DL.evM, DL.evQ, DL.evU, DL.evX, List.getElem?_cons_zero, List.getElem?_cons_succ, List.set_cons_zero, List.set_cons_succ, ↓reduceIte, Bool.false_eq_true, List.map_cons, List.map_nil, List.length_cons, List.length_nil, Bool.not_true, Bool.not_false])
  (repeat refine And.intro (by first | exact True.intro | exact Nat.le_of_ble_eq_true rfl | with_reducible_and_instances rfl | exact rfl | decide) ?_)
  refine take_st hS hk (by omega) (by omega) fun v S1 l1 u1 h1 => ?_
  (try simp only [DL.evA, DL.evH, DL.evJ, DL.evM, DL.evQ, DL.evU, DL.evX, List.getElem?_cons_zero, List.getElem?_cons_succ, List.set_cons_zero, List.set_cons_succ, ↓reduceIte, Bool.false_eq_true, List.map_cons, List.map_nil, List.length_cons, List.length_nil, Bool.not_true, Bool.not_false])
  refine five_at hl5 hi5 l1 u1 hk5 fun t => ?_
  (try simp only [DL.evA, DL.evH, DL.evJ, DL.evM, DL.evQ, DL.evU, DL.evX, List.getElem?_cons_zero, List.getElem?_cons_succ, List.set_cons_zero, List.set_cons_succ, ↓reduceIte, Bool.false_eq_true, List.map_cons, List.map_nil, List.length_cons, List.length_nil, Bool.not_true, Bool.not_false])
  (repeat refine And.intro (by first | exact True.intro | exact Nat.le_of_ble_eq_true rfl | with_reducible_and_instances rfl | exact rfl | decide) ?_)
  have e1 : ixN ((js.map jE).map D.pu).length (x : Int) = some x := by
    unfold ixN
    rw [List.length_map, List.length_map, if_pos (by omega), if_pos (by omega)]
    simp
  have e2 : ((js.map jE).map D.pu).set x (.pu (.tuple [.int t, .list (ns.map nI)])) = ((js.set x (t, ns)).map jE).map D.pu := by
    rw [List.map_set, List.map_set]
    rfl
  have e3 : Option.map (fun j => ((js.map jE).map D.pu).set j (.pu (.tuple [.int t, .list (ns.map nI)]))) (ixN ((js.map jE).map D.pu).length (x : Int)) = some (((js.set x (t, ns)).map jE).map D.pu) := by
    rw [e1, Option.map_some, e2]
  unfold plE
  dsimp only
  rw [e3, Option.bind_some, pus_map, Option.bind_some, if_pos (by rw [List.length_map, List.length_set, hM.len]; unfold lim; omega)]
  refine w_some.mpr ⟨_, _, _, _, _, rfl, hM.put hO hi h8 hns, ?_⟩
  have e4 : T + (m : Int) + 2 + 10 * ((i + 1 : Nat) : Int) = T + m + 2 + 10 * i + 9 + 1 := by omega
  rw [e4]
  exact h1
theorem St.le {S : Sto} {n : Nat} {T T' : Int} (h : St S n T) (hT : T ≤ T') : St S n T' := by
  obtain ⟨c, cells, t, h1, h2⟩ := h
  exact ⟨c, cells, t, h1, by omega⟩
theorem jobs8_ok {S0 : Sto} (h : St S0 n T) (hT : T < 800000) {m : Nat} (hm : m ≤ 20) {k : Int} (hk : 0 < k) (hk5 : k ≤ 5) {Q : D × Sto → Prop} (q : ∀ (js : List Job) S', js.length = m → Acy js → Wf js → (∀ n, (nd js n).length ≤ 8) → St S' n (T + 400) → Q (.pu (.list (js.map jE)), S')) : W (m__law_jobs [.rf n, .pu (.int m), .pu (.int k)] S0) Q := by
  unfold m__law_jobs
  rw [w_runF]
  refine ⟨⟨rfl, by decide⟩, ?_⟩
  rw [show env0 12 [.rf n, .pu (.int m), .pu (.int k)] = [some (.val (.rf n)), some (.val (.pu (.int m))), some (.val (.pu (.int k))), none, none, none, none, none, none, none, none, none] from rfl]
  unfold b__law_jobs
  simp only [DL.evA, DL.evH, DL.evJ, DL.evM, DL.evQ, DL.evU, DL.evX, List.getElem?_cons_zero, List.getElem?_cons_succ, List.set_cons_zero, List.set_cons_succ, ↓reduceIte, Bool.false_eq_true, List.map_cons, List.map_nil, List.length_cons, List.length_nil, Bool.not_true, Bool.not_false, w_lr1C, w_lrQ]
  refine ⟨by unfold rOk; simp; omega, by unfold rOk; simp; omega, ?_⟩
  rw [Int.toNat_natCast, rng_nat]
  refine order_ok (e := [some (.val (.rf n)), some (.val (.pu (.int m))), some (.val (.pu (.int k))), some (.val (.rf S0.length)), none, none, none, none, none, none, none, none]) h (by omega) hm rfl rfl (by simp) fun O S1 hO h1 => ?_
  have hOl : O.length = m := by rw [hO.length_eq, List.length_range]
  simp only [DL.evA, DL.evH, DL.evJ, DL.evM, DL.evQ, DL.evU, DL.evX, List.getElem?_cons_zero, List.getElem?_cons_succ, List.set_cons_zero, List.set_cons_succ, ↓reduceIte, Bool.false_eq_true, List.map_cons, List.map_nil, List.length_cons, List.length_nil, Bool.not_true, Bool.not_false]
  (repeat refine And.intro (by first | exact True.intro | exact Nat.le_of_ble_eq_true rfl | with_reducible_and_instances rfl | exact rfl | decide) ?_)
  refine take_st h1 (by decide) (by decide) (by omega) fun v1 S2 l1 u1 h2 => ?_
  have names : ∀ {Q : D → Prop}, (∀ l : List P, l.length = 5 → (∀ p ∈ l, ∃ i, p = .int i) → Q (.pu (.list l))) → W (atI [D.pu (.list [.int 0, .int 1, .int 2, .int 3, .int 4]), .pu (.list [.int 3, .int 7, .int 0, .int 11, .int 2]), .pu (.list [.int 40, .int 5, .int 1, .int 6, .int 0])] v1) Q := fun {Q} q => by
    have five : ∀ a b c d e : Int, ∀ p ∈ [PyData.int a, .int b, .int c, .int d, .int e], ∃ i, p = .int i := fun a b c d e p hp => by
      simp only [List.mem_cons, List.not_mem_nil, or_false] at hp
      rcases hp with rfl | rfl | rfl | rfl | rfl <;> exact ⟨_, rfl⟩
    exact at3 l1 u1 (q _ (by rfl) (five _ _ _ _ _)) (q _ (by rfl) (five _ _ _ _ _)) (q _ (by rfl) (five _ _ _ _ _))
  (try simp only [DL.evA, DL.evH, DL.evJ, DL.evM, DL.evQ, DL.evU, DL.evX, List.getElem?_cons_zero, List.getElem?_cons_succ, List.set_cons_zero, List.set_cons_succ, ↓reduceIte, Bool.false_eq_true, List.map_cons, List.map_nil, List.length_cons, List.length_nil, Bool.not_true, Bool.not_false])
  refine names fun l hl5 hi5 => ?_
  (try simp only [DL.evA, DL.evH, DL.evJ, DL.evM, DL.evQ, DL.evU, DL.evX, List.getElem?_cons_zero, List.getElem?_cons_succ, List.set_cons_zero, List.set_cons_succ, ↓reduceIte, Bool.false_eq_true, List.map_cons, List.map_nil, List.length_cons, List.length_nil, Bool.not_true, Bool.not_false])
  (repeat refine And.intro (by first | exact True.intro | exact Nat.le_of_ble_eq_true rfl | with_reducible_and_instances rfl | exact rfl | decide) ?_)
  refine ⟨⟨by omega, by omega, by unfold lim; simp; omega⟩, ?_⟩
  (try simp only [DL.evA, DL.evH, DL.evJ, DL.evM, DL.evQ, DL.evU, DL.evX, List.getElem?_cons_zero, List.getElem?_cons_succ, List.set_cons_zero, List.set_cons_succ, ↓reduceIte, Bool.false_eq_true, List.map_cons, List.map_nil, List.length_cons, List.length_nil, Bool.not_true, Bool.not_false])
  (repeat refine And.intro (by first | exact True.intro | exact Nat.le_of_ble_eq_true rfl | with_reducible_and_instances rfl | exact rfl | decide) ?_)
  refine take_st h2 (by decide) (by decide) (by omega) fun v2 S3 l2 u2 h3 => ?_
  have most : ∀ {Q : D → Prop}, (∀ w : Int, 1 ≤ w → w ≤ 8 → Q (.pu (.int w))) → W (atI [D.pu (.int 1), .pu (.int 2), .pu (.int 3), .pu (.int 8)] v2) Q := fun {Q} q => at4 l2 u2 (q 1 (by decide) (by decide)) (q 2 (by decide) (by decide)) (q 3 (by decide) (by decide)) (q 8 (by decide) (by decide))
  (try simp only [DL.evA, DL.evH, DL.evJ, DL.evM, DL.evQ, DL.evU, DL.evX, List.getElem?_cons_zero, List.getElem?_cons_succ, List.set_cons_zero, List.set_cons_succ, ↓reduceIte, Bool.false_eq_true, List.map_cons, List.map_nil, List.length_cons, List.length_nil, Bool.not_true, Bool.not_false])
  refine most fun w hw1 hw8 => ?_
  (try simp only [DL.evA, DL.evH, DL.evJ, DL.evM, DL.evQ, DL.evU, DL.evX, List.getElem?_cons_zero, List.getElem?_cons_succ, List.set_cons_zero, List.set_cons_succ, ↓reduceIte, Bool.false_eq_true, List.map_cons, List.map_nil, List.length_cons, List.length_nil, Bool.not_true, Bool.not_false])
  have h3' : St S3 n (T + m + 2 + 10 * ((0 : Nat) : Int)) := by
    have e2 : T + (m : Int) + 2 + 10 * ((0 : Nat) : Int) = T + m + 1 + 1 := by omega
    rw [e2]
    exact h3
  rw [Int.toNat_natCast, rep_flat, show frzP (.lst (O.map nI)) = .list (O.map nI) from rfl]
  refine enum_of ?_
  (try simp only [DL.evA, DL.evH, DL.evJ, DL.evM, DL.evQ, DL.evU, DL.evX, List.getElem?_cons_zero, List.getElem?_cons_succ, List.set_cons_zero, List.set_cons_succ, ↓reduceIte, Bool.false_eq_true, List.map_cons, List.map_nil, List.length_cons, List.length_nil, Bool.not_true, Bool.not_false])
  refine for_nums (jI n m S0.length k w T l O) ⟨_, _, _, _, _, rfl, .zero, h3'⟩ ?_ ?_
  · rintro i x e S hi ⟨js, e8, e9, e10, e11, rfl, hM, hS⟩
    have hi8 := (List.getElem?_eq_some_iff.mp hi).1
    (try simp only [DL.evA, DL.evH, DL.evJ, DL.evM, DL.evQ, DL.evU, DL.evX, List.getElem?_cons_zero, List.getElem?_cons_succ, List.set_cons_zero, List.set_cons_succ, ↓reduceIte, Bool.false_eq_true, List.map_cons, List.map_nil, List.length_cons, List.length_nil, Bool.not_true, Bool.not_false])
    (repeat refine And.intro (by first | exact True.intro | exact Nat.le_of_ble_eq_true rfl | with_reducible_and_instances rfl | exact rfl | decide) ?_)
    refine both (fun hi0 => ?_) fun hi0 => ?_
    · refine ⟨rfl, take_st hS (by omega) (by omega) (by omega) fun r S4 l4 u4 h4 => ?_⟩
      refine w_rg.mpr ⟨by unfold rOk; simp; omega, ?_⟩
      have hi0 : 0 < i := by have := of_decide_eq_true hi0; omega
      dsimp only
      obtain ⟨r, rfl⟩ : ∃ r' : Nat, r = r' := ⟨r.toNat, by omega⟩
      rw [Int.toNat_natCast]
      refine for_rng (fun j e S => ∃ (ns : List Nat) (e11 : Option Sl), e = [some (.val (.rf n)), some (.val (.pu (.int m))), some (.val (.pu (.int k))), some (.val (.rf S0.length)), some (.val (.pu (.list (O.map nI)))), some (.val (.pu (.list l))), some (.ow (.lst (js.map jE))), some (.val (.pu (.int w))), some (.val (.pu (.int i))), some (.val (.pu (.int x))), some (.ow (.lst (ns.map nI))), e11] ∧ (ns.length : Int) = j ∧ (∀ y ∈ ns, y ∈ O.take i) ∧ St S n (T + m + 2 + 10 * i + 1 + j)) ⟨[], _, rfl, rfl, fun y hy => (by cases hy), by simpa using h4⟩ ?_ ?_
      · rintro j e S5 hj0 hj1 ⟨ns, e11, rfl, hnl, hns, h5⟩
        (try simp only [DL.evA, DL.evH, DL.evJ, DL.evM, DL.evQ, DL.evU, DL.evX, List.getElem?_cons_zero, List.getElem?_cons_succ, List.set_cons_zero, List.set_cons_succ, ↓reduceIte, Bool.false_eq_true, List.map_cons, List.map_nil, List.length_cons, List.length_nil, Bool.not_true, Bool.not_false])
        refine ⟨rfl, take_st h5 (by omega) (by omega) (by omega) fun v S6 l6 u6 h6 => ?_⟩
        obtain ⟨v, rfl⟩ : ∃ v' : Nat, v = v' := ⟨v.toNat, by omega⟩
        have hv : v < O.length := by omega
        (try simp only [DL.evA, DL.evH, DL.evJ, DL.evM, DL.evQ, DL.evU, DL.evX, List.getElem?_cons_zero, List.getElem?_cons_succ, List.set_cons_zero, List.set_cons_succ, ↓reduceIte, Bool.false_eq_true, List.map_cons, List.map_nil, List.length_cons, List.length_nil, Bool.not_true, Bool.not_false])
        (repeat refine And.intro (by first | exact True.intro | exact Nat.le_of_ble_eq_true rfl | with_reducible_and_instances rfl | exact rfl | decide) ?_)
        refine at_nat (x := nI O[v]) (by rw [List.getElem?_map, List.getElem?_eq_getElem hv]; rfl) ?_
        (try simp only [DL.evA, DL.evH, DL.evJ, DL.evM, DL.evQ, DL.evU, DL.evX, List.getElem?_cons_zero, List.getElem?_cons_succ, List.set_cons_zero, List.set_cons_succ, ↓reduceIte, Bool.false_eq_true, List.map_cons, List.map_nil, List.length_cons, List.length_nil, Bool.not_true, Bool.not_false])
        (repeat refine And.intro (by first | exact True.intro | exact Nat.le_of_ble_eq_true rfl | with_reducible_and_instances rfl | exact rfl | decide) ?_)
        refine ⟨by rw [List.length_map]; unfold lim; omega, ns ++ [O[v]], _, by rw [List.map_append]; rfl, by rw [List.length_append, List.length_singleton]; omega, fun y hy => ?_, ?_⟩
        · rcases List.mem_append.mp hy with z | z
          · exact hns y z
          · rw [List.mem_singleton.mp z]
            exact List.mem_take_iff_getElem.mpr ⟨v, by omega, rfl⟩
        · have e9 : T + (m : Int) + 2 + 10 * (i : Int) + 1 + (j + 1) = T + m + 2 + 10 * i + 1 + j + 1 := by omega
          rw [e9]
          exact h6
      · rintro e S5 ⟨ns, e11, rfl, hnl, hns, h5⟩
        rw [w_qnx]
        exact jobs_tail hO hm hT hl5 hi5 hk hk5 hi hM (by omega) hns (St.le h5 (by omega))
    · refine ⟨by decide, ?_⟩
      rw [show rngD 0 (Int.toNat 0) = [] from rfl, for_nil, w_qnx]
      exact jobs_tail hO hm hT hl5 hi5 hk hk5 hi hM (ns := []) (by simp) (fun y hy => (by cases hy)) (St.le hS (by omega))
  · rintro e S ⟨js, e8, e9, e10, e11, rfl, hM, hS⟩
    obtain ⟨f1, f2, f3⟩ := (hOl ▸ hM).fin hO
    (try simp only [DL.evA, DL.evH, DL.evJ, DL.evM, DL.evQ, DL.evU, DL.evX, List.getElem?_cons_zero, List.getElem?_cons_succ, List.set_cons_zero, List.set_cons_succ, ↓reduceIte, Bool.false_eq_true, List.map_cons, List.map_nil, List.length_cons, List.length_nil, Bool.not_true, Bool.not_false])
    refine ⟨rfl, q js S hM.len f1 f2 f3 (St.le hS (by omega))⟩
end
end JJ
/-! JL: many jobs by draws (k59). -/
namespace JJ
open PySem PySem.Spec PyProof.Rows L2 DL
section
variable {S : Sto} {e : Envi} {p : P} {js : List Job} {n o c d : Nat} {O F : List Nat} {T : Int}
def bare (js : List Job) : List Job := js.map fun j => (j.1, [])
end
end JJ
/-! DMR: tuples that hold cells. -/
namespace DL
open PySem PySem.Spec PyProof.Rows L2
section
variable {X : Cx} {G : Gx}
def gTupC (ds : List D) (S : Sto) : Option (D × Sto) := if noBo ds && decide (ds.length ≤ lim) then some (.rf S.length, S ++ [.tup ds]) else none
theorem d_tupC {es : List Expr} {xa : Ax} {k : Nat} {pos : Pos} (h : DA X G es xa) : DE X G (.Tuple es k pos) (xA gTupC xa) := by
  refine pe_mono (pe_gh (pe_tup h)) fun σ H Q hh => ?_
  refine tE.bA (r := fun xs H Q => xs.length ≤ sizeLine ∧ ∀ p, H p = none → Q (.ref p) (upd H p (.tup xs))) ?_ σ H Q hh
  intro σ H e S f vs ds d S' Q r0 rs hg q
  unfold gTupC at hg
  by_cases c : (noBo ds && decide (ds.length ≤ lim)) = true
  · rw [if_pos c] at hg
    cases hg
    rw [Bool.and_eq_true, decide_eq_true_eq] at c
    refine ⟨by rw [Paired.length rs, ← lim_eq]; exact c.2, fun p hp => .inl ?_⟩
    have x := nx_alloc (H := H) (f := f) (o := .tup vs) S.length hp
    have ra := r0.alloc (o := .tup vs) (c := .tup ds) hp ⟨vs, upd_same, Paired.mapP (re_rds rs c.1) fun _ _ => RD.nx x⟩
    rw [← len1 S (.tup ds)] at x
    exact q _ _ (put1 f S.length p) ra x ⟨by rw [put1_at], by rw [len1]; exact Nat.lt_succ_self _⟩
  · rw [if_neg c] at hg
    cases hg
end
end DL
/-! DMS: xs.extend(ys), ys any list. -/
namespace DL
open PySem PySem.Spec PyProof.Rows L2
section
variable {X : Cx} {G : Gx}
end
end DL
/-! DM0: tuple(reversed(x)); min(xs) of data; xs.index(x) of a list. -/
namespace RV
open PySem PySem.Spec PyProof.Rows L2
section
variable {X : Cx}
end
end RV
namespace DL
open PySem PySem.Spec PyProof.Rows L2
section
variable {X : Cx} {G : Gx}
/-! ### min of data -/
/-! ### xs.index(x) of a list -/
end
end DL
namespace DL
open PySem PySem.Spec PyProof.Rows L2
noncomputable def b_first_order_c : Sx := sSeq (sSet 2 (xA gLstC (aNil))) (sSeq (sSet 3 (xP .none)) (sSeq (sSet 4 (xVar 1)) (sSeq (sWhile (tOfE (x2 (s2 (pIB fun i j => decide (i < j))) (xA gLen (aCons (xVar 2) (aNil))) (xA gLen (aCons (xFld "Taking" (xVar 0) "jobs") (aNil))))) (sSeq (sSet 5 (xMeth "Taking" "next_job" m_Taking_next_job (xVar 0) (aCons (xVar 2) (aCons (xVar 3) (aCons (xVar 4) (aNil)))))) (sSeq (sIf (tOfE (x2 (gEq true) (x2 gIx (x2 gGet (xFld "Taking" (xVar 0) "jobs") (xVar 5)) (xP (.int 0))) (xVar 3))) (sSeq (sSet 3 (x2 gIx (x2 gGet (xFld "Taking" (xVar 0) "jobs") (xVar 5)) (xP (.int 0)))) (sSeq (sAug 4 (s2 (pI (fun _ _ => true) fun i j => i - j)) (xP (.int 1))) (sNil))) (sNil)) (sSeq (sApp (xVar 2) (xVar 5)) (sNil))))) (sSeq (sRet (xVar 2)) (sNil)))))
noncomputable def m_first_order_c : List D → Sto → Option (D × Sto) := runF 2 6 b_first_order_c
theorem l_first_order_c {ds : List D} {S : Sto} {p : D × Sto} (h : m_first_order_c ds S = some p) : ds.length = 2 := runF_len h
noncomputable def b_least_takes_c : Sx := sSeq (sDrop (xA (gCallP m_look_round) (aCons (xVar 0) (aNil)))) (sSeq (sSet 1 (xA (gMake "Taking" m_Taking___init__) (aCons (xVar 0) (aNil)))) (sSeq (sSet 2 (xMeth "Taking" "takes_from" (m_Taking_takes_from 12) (xVar 1) (aCons (xA gTup (aNil)) (aNil)))) (sSeq (sRet (xA gTupC (aCons (xVar 2) (aCons (xA (gCallF m_first_order_c) (aCons (xVar 1) (aCons (xVar 2) (aNil)))) (aNil))))) (sNil))))
noncomputable def m_least_takes_c : List D → Sto → Option (D × Sto) := runF 1 3 b_least_takes_c
end DL
/-! JM: the first order, told in a list of its own. -/
namespace JJ
open PySem PySem.Spec PyProof.Rows L2 DL
section
variable {S : Sto} {e : Envi} {p : P} {js : List Job} {n o c d : Nat} {O F : List Nat} {t : Int} {kn : List (List Nat)}
theorem first_walkC (h : JS p js) (h11 : js.length ≤ 11) (ac : Acy js) (w : Wf js) (oc : o ≠ c) {S0 : Sto} (ho : Ob js p o c S0) (hc : c < S0.length) (hS : St2 js S0 c S) {Q : D × Sto → Prop} (q : ∀ S' : Sto, (∀ k, k < S0.length → k ≠ c → S'[k]? = S0[k]?) → S'[S0.length]? = some (.lst (((first js).map nI).map .pu)) → S'.length = S0.length + 1 → Q (.rf S0.length, S')) : W (m_first_order_c [.rf o, .pu (.int (T js [] : Nat))] S) Q := by
  have hlen := hS.len
  have hol := (List.getElem?_eq_some_iff.mp ho).1
  unfold m_first_order_c
  rw [w_runF]
  refine ⟨⟨rfl, by decide⟩, ?_⟩
  rw [show env0 6 [.rf o, .pu (.int (T js [] : Nat))] = [some (.val (.rf o)), some (.val (.pu (.int (T js [] : Nat)))), none, none, none, none] from rfl]
  unfold b_first_order_c
  simp only [DL.evA, DL.evH, DL.evJ, DL.evM, DL.evQ, DL.evU, DL.evX, List.getElem?_cons_zero, List.getElem?_cons_succ, List.set_cons_zero, List.set_cons_succ, ↓reduceIte, Bool.false_eq_true, List.map_cons, List.map_nil, List.length_cons, List.length_nil, Bool.not_true, Bool.not_false, w_fld, w_meth]
  refine ⟨rfl, ?_⟩
  refine while_inv (fun k e S => ∃ (O : List Nat) (e5 : Option Sl), e = [some (.val (.rf o)), some (.val (.pu (.int (T js [] : Nat)))), some (.val (.rf S0.length)), some (.val (.pu (tP (lastT js none O)))), some (.val (.pu (.int (Lft js (lastT js none O) O : Nat)))), e5] ∧ St2 js (S0 ++ [.lst ((O.map nI).map .pu)]) c S ∧ Going js O ∧ O.length + k = js.length ∧ ordF js k (lastT js none O) O = first js) ?_ js.length _ _ ⟨[], _, by rw [hlen]; rfl, hS.app hc _, .nil, by simp, rfl⟩
  rintro k e S ⟨O, e5, rfl, hS, g, hl, hF⟩
  have hl2 := len_le g.1 g.2.1
  have dc : S0.length ≠ c := by omega
  have ho1 : Ob js p o c (S0 ++ [.lst ((O.map nI).map .pu)]) := by
    show (S0 ++ [MC.lst ((O.map nI).map .pu)])[o]? = _
    rw [List.getElem?_append_left hol]
    exact ho
  have hO := (hS.obj oc).trans ho1
  have hd1 : (S0 ++ [MC.lst ((O.map nI).map .pu)])[S0.length]? = some (.lst ((O.map nI).map .pu)) := app_get
  have hd := (hS.obj dc).trans hd1
  have lenrf : ∀ {Q : D × Sto → Prop}, Q (.pu (.int O.length), S) → W (gLen [.rf S0.length] S) Q := fun {Q} q => by
    refine ⟨_, ?_, q⟩
    show (seqD (.rf S0.length) S).bind _ = _
    rw [seq_rf hd, Option.bind_some, List.length_map, List.length_map]
  simp only [DL.evA, DL.evH, DL.evJ, DL.evM, DL.evQ, DL.evU, DL.evX, List.getElem?_cons_zero, List.getElem?_cons_succ, List.set_cons_zero, List.set_cons_succ, ↓reduceIte, Bool.false_eq_true, List.map_cons, List.map_nil, List.length_cons, List.length_nil, Bool.not_true, Bool.not_false, w_fld, w_meth]
  refine lenrf ?_
  (try simp only [DL.evA, DL.evH, DL.evJ, DL.evM, DL.evQ, DL.evU, DL.evX, List.getElem?_cons_zero, List.getElem?_cons_succ, List.set_cons_zero, List.set_cons_succ, ↓reduceIte, Bool.false_eq_true, List.map_cons, List.map_nil, List.length_cons, List.length_nil, Bool.not_true, Bool.not_false, w_fld, w_meth])
  refine jobs_f hO ?_
  refine js_len h ?_
  (try simp only [DL.evA, DL.evH, DL.evJ, DL.evM, DL.evQ, DL.evU, DL.evX, List.getElem?_cons_zero, List.getElem?_cons_succ, List.set_cons_zero, List.set_cons_succ, ↓reduceIte, Bool.false_eq_true, List.map_cons, List.map_nil, List.length_cons, List.length_nil, Bool.not_true, Bool.not_false, w_fld, w_meth])
  refine both (fun hlt => ?_) fun hlt => ?_
  · have hlt : O.length < js.length := by have := of_decide_eq_true hlt; omega
    obtain ⟨n, hx, h1, h2, h3⟩ := nxt_some ac w (lastT js none O) (some_left hlt)
    (try simp only [DL.evA, DL.evH, DL.evJ, DL.evM, DL.evQ, DL.evU, DL.evX, List.getElem?_cons_zero, List.getElem?_cons_succ, List.set_cons_zero, List.set_cons_succ, ↓reduceIte, Bool.false_eq_true, List.map_cons, List.map_nil, List.length_cons, List.length_nil, Bool.not_true, Bool.not_false, w_fld, w_meth])
    refine obj_at hO ?_
    rw [if_pos (lk_no (by decide +kernel) (by decide +kernel) (by decide +kernel))]
    (try simp only [DL.evA, DL.evH, DL.evJ, DL.evM, DL.evQ, DL.evU, DL.evX, List.getElem?_cons_zero, List.getElem?_cons_succ, List.set_cons_zero, List.set_cons_succ, ↓reduceIte, Bool.false_eq_true, List.map_cons, List.map_nil, List.length_cons, List.length_nil, Bool.not_true, Bool.not_false, w_fld, w_meth])
    have hc1 : c < (S0 ++ [MC.lst ((O.map nI).map .pu)]).length := by rw [len1]; omega
    refine next_ok h h11 ac w oc dc ho1 hc1 hd1 g hx hS fun S' hS' => ?_
    have hO' := (hS'.obj oc).trans ho1
    have hd' := (hS'.obj dc).trans hd1
    obtain ⟨k', rfl⟩ : ∃ k', k = k' + 1 := ⟨k - 1, by omega⟩
    have e4 := cost_eq ac w (lastT js none O) h1 h2 h3
    have fin : W (lstD (.rf S0.length) S') fun x => noBo [D.pu (.int n)] = true ∧ W (putL (.rf S0.length) (fun ds => some (ds ++ [D.pu (.int n)])) [some (.val (.rf o)), some (.val (.pu (.int (T js [] : Nat)))), some (.val (.rf S0.length)), some (.val (.pu (tP (some (tl js n))))), some (.val (.pu (.int (Lft js (some (tl js n)) (O ++ [n]) : Nat)))), some (.val (.pu (.int n)))] S') fun w => ∃ j, j < k' + 1 ∧ ∃ (O : List Nat) (e5 : Option Sl), w.1 = [some (.val (.rf o)), some (.val (.pu (.int (T js [] : Nat)))), some (.val (.rf S0.length)), some (.val (.pu (tP (lastT js none O)))), some (.val (.pu (.int (Lft js (lastT js none O) O : Nat)))), e5] ∧ St2 js (S0 ++ [.lst ((O.map nI).map .pu)]) c w.2 ∧ Going js O ∧ O.length + j = js.length ∧ ordF js j (lastT js none O) O = first js := by
      rw [ls_rf hd']
      refine ⟨rfl, ?_⟩
      refine putL_rf hd' rfl (by rw [List.length_append, List.length_map, List.length_map]; simp; unfold lim; omega) ?_
      (try simp only [DL.evA, DL.evH, DL.evJ, DL.evM, DL.evQ, DL.evU, DL.evX, List.getElem?_cons_zero, List.getElem?_cons_succ, List.set_cons_zero, List.set_cons_succ, ↓reduceIte, Bool.false_eq_true, List.map_cons, List.map_nil, List.length_cons, List.length_nil, Bool.not_true, Bool.not_false])
      refine ⟨k', by omega, O ++ [n], _, by rw [lastT_app none], ?_, g.put h1 h2, by rw [List.length_append, List.length_singleton]; omega, ?_⟩
      · have := hS'.setd dc (.lst (((O ++ [n]).map nI).map .pu))
        rw [app_at] at this
        have e6 : ((O ++ [n]).map nI).map D.pu = (O.map nI).map D.pu ++ [D.pu (.int n)] := by rw [List.map_append, List.map_append]; rfl
        rw [e6] at this ⊢
        exact this
      · rw [lastT_app none, ← hF, ordF_step hx]
    (try simp only [DL.evA, DL.evH, DL.evJ, DL.evM, DL.evQ, DL.evU, DL.evX, List.getElem?_cons_zero, List.getElem?_cons_succ, List.set_cons_zero, List.set_cons_succ, ↓reduceIte, Bool.false_eq_true, List.map_cons, List.map_nil, List.length_cons, List.length_nil, Bool.not_true, Bool.not_false, w_fld, w_meth])
    refine jobs_f hO' ?_
    refine job_of h h1 fun x hx => ?_
    refine jr_tl hx ?_
    refine w_eq.mpr ⟨ne_tP.1, ?_⟩
    rw [if_pos rfl, ne_tP.2]
    (try simp only [DL.evA, DL.evH, DL.evJ, DL.evM, DL.evQ, DL.evU, DL.evX, List.getElem?_cons_zero, List.getElem?_cons_succ, List.set_cons_zero, List.set_cons_succ, ↓reduceIte, Bool.false_eq_true, List.map_cons, List.map_nil, List.length_cons, List.length_nil, Bool.not_true, Bool.not_false, w_fld, w_meth])
    refine both (fun z => ?_) fun z => ?_
    · have z : ¬ some (tl js n) = lastT js none O := by simpa using z
      (try simp only [DL.evA, DL.evH, DL.evJ, DL.evM, DL.evQ, DL.evU, DL.evX, List.getElem?_cons_zero, List.getElem?_cons_succ, List.set_cons_zero, List.set_cons_succ, ↓reduceIte, Bool.false_eq_true, List.map_cons, List.map_nil, List.length_cons, List.length_nil, Bool.not_true, Bool.not_false, w_fld, w_meth])
      refine jobs_f hO' ?_
      refine job_of h h1 fun x hx => ?_
      refine jr_tl hx ?_
      (try simp only [DL.evA, DL.evH, DL.evJ, DL.evM, DL.evQ, DL.evU, DL.evX, List.getElem?_cons_zero, List.getElem?_cons_succ, List.set_cons_zero, List.set_cons_succ, ↓reduceIte, Bool.false_eq_true, List.map_cons, List.map_nil, List.length_cons, List.length_nil, Bool.not_true, Bool.not_false, w_fld, w_meth])
      have e7 : ((Lft js (lastT js none O) O : Nat) : Int) - 1 = (Lft js (some (tl js n)) (O ++ [n]) : Nat) := by
        unfold chg at e4
        rw [if_neg z] at e4
        omega
      rw [e7]
      refine ⟨trivial, ?_⟩
      exact fin
    · have z : some (tl js n) = lastT js none O := by simpa using z
      have e7 : Lft js (lastT js none O) O = Lft js (some (tl js n)) (O ++ [n]) := by
        unfold chg at e4
        rw [if_pos z] at e4
        omega
      rw [e7, ← z]
      exact fin
  · have hlt : ¬ O.length < js.length := fun z => hlt (decide_eq_true (by omega))
    have e0 : k = 0 := by omega
    subst e0
    have hF : O = first js := hF
    subst hF
    (try simp only [DL.evA, DL.evH, DL.evJ, DL.evM, DL.evQ, DL.evU, DL.evX, List.getElem?_cons_zero, List.getElem?_cons_succ, List.set_cons_zero, List.set_cons_succ, ↓reduceIte, Bool.false_eq_true, List.map_cons, List.map_nil, List.length_cons, List.length_nil, Bool.not_true, Bool.not_false])
    refine ⟨rfl, q _ (fun k hk hkc => ?_) hd (by rw [hS.len, len1])⟩
    rw [hS.obj hkc, List.getElem?_append_left hk]
theorem leastC_ok (h : JS p js) (h11 : js.length ≤ 11) (ac : Acy js) (w : Wf js) {Q : D × Sto → Prop} (q : ∀ (S' : Sto) (t d : Nat), (∀ k, k < S.length → S'[k]? = S[k]?) → S'[t]? = some (.tup [.pu (.int (T js [] : Nat)), .rf d]) → S'[d]? = some (.lst (((first js).map nI).map .pu)) → S.length ≤ d → S.length ≤ t → d ≠ t → Q (.rf t, S')) : W (m_least_takes_c [.pu p] S) Q := by
  unfold m_least_takes_c
  rw [w_runF]
  refine ⟨⟨rfl, by decide⟩, ?_⟩
  rw [show env0 3 [.pu p] = [some (.val (.pu p)), none, none] from rfl]
  unfold b_least_takes_c
  simp only [DL.evA, DL.evH, DL.evJ, DL.evM, DL.evQ, DL.evU, DL.evX, List.getElem?_cons_zero, List.getElem?_cons_succ, List.set_cons_zero, List.set_cons_succ, ↓reduceIte, Bool.false_eq_true, List.map_cons, List.map_nil, List.length_cons, List.length_nil, Bool.not_true, Bool.not_false, w_fld, w_meth]
  refine round_ok h ac ?_
  refine make_ok h ?_
  have g1 : ∀ {a b : MC}, (S ++ [a, b])[S.length]? = some a := fun {a b} => by
    rw [List.getElem?_append_right (Nat.le_refl _), Nat.sub_self]
    rfl
  have g2 : ∀ {a b : MC}, (S ++ [a, b])[S.length + 1]? = some b := fun {a b} => by
    rw [List.getElem?_append_right (by omega), show S.length + 1 - S.length = 1 by omega]
    rfl
  (try simp only [DL.evA, DL.evH, DL.evJ, DL.evM, DL.evQ, DL.evU, DL.evX, List.getElem?_cons_zero, List.getElem?_cons_succ, List.set_cons_zero, List.set_cons_succ, ↓reduceIte, Bool.false_eq_true, List.map_cons, List.map_nil, List.length_cons, List.length_nil, Bool.not_true, Bool.not_false, w_fld, w_meth])
  refine obj_at g1 ?_
  rw [if_pos (lk_no (by decide +kernel) (by decide +kernel) (by decide +kernel))]
  (try simp only [DL.evA, DL.evH, DL.evJ, DL.evM, DL.evQ, DL.evU, DL.evX, List.getElem?_cons_zero, List.getElem?_cons_succ, List.set_cons_zero, List.set_cons_succ, ↓reduceIte, Bool.false_eq_true, List.map_cons, List.map_nil, List.length_cons, List.length_nil, Bool.not_true, Bool.not_false, w_fld, w_meth])
  refine ⟨(Nat.le_of_ble_eq_true rfl), ?_⟩
  have hs0 : St2 js (S ++ [.obj "Taking" (flds (.pu p) (.pu (.list ((tls js).map .int))) (.rf (S.length + 1))), .dct []]) (S.length + 1) (S ++ [.obj "Taking" (flds (.pu p) (.pu (.list ((tls js).map .int))) (.rf (S.length + 1))), .dct []]) := by
    refine ⟨[], ⟨List.nodup_nil, fun O hO => (by cases hO)⟩, ?_⟩
    rw [List.set_append_right _ _ (by omega), show S.length + 1 - S.length = 1 by omega]
    rfl
  refine takes_ok h ac w (by omega) 12 [] List.Pairwise.nil (fun n hn => (by cases hn)) (by have := left_le js []; omega) _ _ g1 (by rw [List.length_append]; simp) hs0 _ fun S' hS' => ?_
  (try simp only [DL.evA, DL.evH, DL.evJ, DL.evM, DL.evQ, DL.evU, DL.evX, List.getElem?_cons_zero, List.getElem?_cons_succ, List.set_cons_zero, List.set_cons_succ, ↓reduceIte, Bool.false_eq_true, List.map_cons, List.map_nil, List.length_cons, List.length_nil, Bool.not_true, Bool.not_false, w_fld, w_meth])
  refine ⟨rfl, ?_⟩
  refine first_walkC h h11 ac w (by omega) g1 (by rw [List.length_append]; simp) hS' fun S'' h'' hd'' hl'' => ?_
  have w_tupC : ∀ {ds : List D} {S : Sto} {Q : D × Sto → Prop}, noBo ds = true → ds.length ≤ 2 → Q (.rf S.length, S ++ [.tup ds]) → W (gTupC ds S) Q := fun {ds S Q} h1 h2 q => by
    unfold gTupC
    rw [h1, decide_eq_true (show ds.length ≤ lim by unfold lim; omega), if_pos (by rfl)]
    exact w_some.mpr q
  (try simp only [DL.evA, DL.evH, DL.evJ, DL.evM, DL.evQ, DL.evU, DL.evX, List.getElem?_cons_zero, List.getElem?_cons_succ, List.set_cons_zero, List.set_cons_succ, ↓reduceIte, Bool.false_eq_true, List.map_cons, List.map_nil, List.length_cons, List.length_nil, Bool.not_true, Bool.not_false, w_fld, w_meth])
  refine w_tupC rfl (by simp) ?_
  (try simp only [DL.evA, DL.evH, DL.evJ, DL.evM, DL.evQ, DL.evU, DL.evX, List.getElem?_cons_zero, List.getElem?_cons_succ, List.set_cons_zero, List.set_cons_succ, ↓reduceIte, Bool.false_eq_true, List.map_cons, List.map_nil, List.length_cons, List.length_nil, Bool.not_true, Bool.not_false, w_fld, w_meth])
  rw [List.length_append] at hl'' hd''
  have hl3 : S''.length = S.length + 3 := by rw [hl'']; simp
  have ed : S.length + [MC.obj "Taking" (flds (.pu p) (.pu (.list ((tls js).map .int))) (.rf (S.length + 1))), MC.dct []].length = S.length + 2 := by simp
  rw [ed] at hd''
  refine ⟨rfl, q _ S''.length (S.length + 2) (fun k hk => ?_) ?_ ?_ (by omega) (by omega) (by omega)⟩
  · rw [List.getElem?_append_left (by omega), h'' k (by rw [List.length_append]; simp; omega) (by omega), List.getElem?_append_left hk]
  · rw [List.getElem?_append_right (Nat.le_refl _), Nat.sub_self, List.length_append, ed]
    rfl
  · rw [List.getElem?_append_left (by omega)]
    exact hd''
end
end JJ
/-! JN: all orders, the least of them. -/
namespace JJ
open PySem PySem.Spec PyProof.Rows L2 DL
section
variable {S : Sto} {e : Envi} {p : P} {js : List Job} {n m o c d k : Nat} {O X F : List Nat} {t : Int} {kn : List (List Nat)}
/-! ### orders, plain -/
theorem Going.can (g : Going js (X ++ n :: O)) : n < js.length ∧ Can js X n ∧ Going js (X ++ [n]) := by
  obtain ⟨h1, h2, h3⟩ := g
  have hn := h2 n (by simp)
  have e1 : X ++ n :: O = (X ++ [n]) ++ O := by simp
  have hc : Can js X n := by
    refine ⟨fun z => ?_, fun y hy => ?_⟩
    · obtain ⟨_, _, q⟩ := List.nodup_append.mp h1
      exact q n z n (by simp) rfl
    · have := h3 X.length n (by rw [List.getElem?_append_right (Nat.le_refl _), Nat.sub_self]; rfl) y hy
      rwa [List.take_left] at this
  refine ⟨hn, hc, ?_, fun y hy => h2 y ?_, fun i y hi z hz => ?_⟩
  · rw [e1] at h1
    exact (List.nodup_append.mp h1).1
  · rw [e1]
    exact List.mem_append_left _ hy
  · have hil := (List.getElem?_eq_some_iff.mp hi).1
    have := h3 i y (by rw [e1, List.getElem?_append_left hil]; exact hi) z hz
    rw [e1, List.take_append_of_le_length (by omega)] at this
    exact this
abbrev nz (O : List Nat) : List Int := O.map fun n : Nat => (n : Int)
/-! ### all orders -/
end
end JJ
/-! JO: all orders walked, the least of them, jobs handed in otherwise. -/
namespace JJ
open PySem PySem.Spec PyProof.Rows L2 DL
section
variable {S : Sto} {e : Envi} {p : P} {js : List Job} {n m o c d k : Nat} {O X F : List Nat} {t : Int} {kn : List (List Nat)}
/-! ### the least of all orders -/
end
end JJ
/-! JP: jobs handed in as lists or tuples; one turn of k58. -/
namespace JJ
open PySem PySem.Spec PyProof.Rows L2 DL
section
variable {S : Sto} {e : Envi} {p : P} {js : List Job} {n m o c d k : Nat} {O X F : List Nat} {T : Int}
theorem St.same {S S' : Sto} (h : St S n T) (hs : ∀ k, k < S.length → S'[k]? = S[k]?) : St S' n T := by
  obtain ⟨c, cells, t, h1, h2⟩ := h
  have a := (List.getElem?_eq_some_iff.mp h1.st).1
  have b := (List.getElem?_eq_some_iff.mp h1.ce).1
  exact ⟨c, cells, t, ⟨by rw [hs n a]; exact h1.st, by rw [hs c b]; exact h1.ce, h1.ne, h1.ln, h1.t0⟩, h2⟩
theorem eqvA_refl {k : Nat} (ih : ∀ p, shp k p = true → PyData.eqv p p = true) : ∀ xs : List P, xs.all (shp k) = true → PyData.eqvAll xs xs = true
  | [], _ => by simp [PyData.eqvAll]
  | x :: xs, h => by
    rw [List.all_cons, Bool.and_eq_true] at h
    rw [w_evA1, ih x h.1, eqvA_refl ih xs h.2]
    rfl
theorem eqv_refl : ∀ (k : Nat) (p : P), shp k p = true → PyData.eqv p p = true
  | 0, _, h => by cases h
  | k + 1, .none, _ => by simp [PyData.eqv]
  | k + 1, .bool _, _ => by simp [PyData.eqv]
  | k + 1, .int _, _ => by simp [PyData.eqv]
  | k + 1, .str x, h => by simp [PyData.eqv]
  | k + 1, .list xs, h => by rw [w_evL]; exact eqvA_refl (eqv_refl k) xs h
  | k + 1, .tuple xs, h => by rw [w_evT]; exact eqvA_refl (eqv_refl k) xs h
  | k + 1, .dict _, h => by cases h
theorem shp_jE (js : List Job) : shp 9 (.list (js.map jE)) = true := by
  show (js.map jE).all (shp 8) = true
  refine List.all_eq_true.mpr fun p hp => ?_
  obtain ⟨j, _, rfl⟩ := List.mem_map.mp hp
  show (true && ((j.2.map nI).all (shp 6) && true)) = true
  rw [shp_ints _ (fun p hp => by obtain ⟨m, _, rfl⟩ := List.mem_map.mp hp; exact ⟨_, rfl⟩) 5]
  rfl
end
end JJ
/-! KA: papers, plain: what one shows, and that it shows no more than is so. -/
namespace JJ
open PySem PySem.Spec PyProof.Rows L2 DL
variable {js : List Job} {t : Int} {A B : List (List Nat)} {D E : List Nat}
abbrev nN (n : Nat) : P := .int (n : Nat)
def natP : P → Option Nat
  | .int i => if 0 ≤ i then some i.toNat else none
  | _ => none
def seqP : P → Option (List P)
  | .list xs => some xs
  | .tuple xs => some xs
  | _ => none
def natsP : List P → Option (List Nat)
  | [] => some []
  | p :: r => (natP p).bind fun n => (natsP r).map (n :: ·)
instance (D : List Nat) : Decidable (Srt D) := by unfold Srt; infer_instance
/-- a row of done jobs: rising, not all -/
def dr (many : Nat) (p : P) : Option (List Nat) := (seqP p).bind fun xs => (natsP xs).bind fun ns => if (∀ n ∈ ns, n < many) ∧ Srt ns ∧ ns.length < many then some ns else none
def drs (many : Nat) : List P → Option (List (List Nat))
  | [] => some []
  | p :: r => (dr many p).bind fun D => (drs many r).map (D :: ·)
def rowsOf (many : Nat) (p : P) : Option (List (List Nat)) := (seqP p).bind (drs many)
/-- from each of the rows ahead each tool leads into one of the rows behind -/
def Leads (js : List Job) (A B : List (List Nat)) : Prop := ∀ D ∈ A, ∀ n < js.length, ∃ R ∈ B, ∀ m ∈ gone js (tl js n) D, m ∈ R
def sb (js : List Job) : List (List Nat) → List P → Prop
  | _, [] => True
  | A, p :: r => ∃ B, rowsOf js.length p = some B ∧ Leads js A B ∧ sb js B r
/-! ### no more than is so -/
/-! ### the bound's own paper -/
/-- the greatest of some -/
def Grt (X G : List (List Nat)) : Prop := ∀ D, D ∈ G ↔ D ∈ X ∧ ∀ E ∈ X, D ≠ E → ¬ ∀ m ∈ D, m ∈ E
/-- the lists of a paper, one behind the other -/
def Steps (js : List Job) : Nat → List (List Nat) → List (List (List Nat)) → Prop
  | _, _, [] => True
  | k, A, B :: r => (∃ X, (∀ D, D ∈ X ↔ ∃ E ∈ A, ∃ n, n < js.length ∧ D = gone js (tl js n) E) ∧ Grt X B) ∧ Steps js (k + 1) B r
def paperP (bs : List (List (List Nat))) : List P := bs.map fun B => .list (B.map fun D => .tuple (D.map nN))
end JJ
/-! DN0: great tables: x -> 5 x + 1 comes to every slot of a table whose size is a power of two; the first free slot of a way; a slot taken. -/
namespace BS
open PySem PySem.Spec PyProof.Rows L2
/-- 0, 1, 6, 31, ... -/
def sm : Nat → Nat
  | 0 => 0
  | k + 1 => 5 * sm k + 1
theorem sm_add (d : Nat) : ∀ a, sm (d + a) = 5 ^ a * sm d + sm a
  | 0 => by simp [sm]
  | a + 1 => by
    show 5 * sm (d + a) + 1 = 5 ^ (a + 1) * sm d + (5 * sm a + 1)
    rw [sm_add d a, Nat.pow_succ, Nat.mul_right_comm]
    omega
theorem sm_odd : ∀ d, sm d % 2 = d % 2
  | 0 => rfl
  | d + 1 => by
    show (5 * sm d + 1) % 2 = _
    have := sm_odd d
    omega
theorem five (e : Nat) : 5 ^ e % 4 = 1 := by
  induction e with
  | zero => rfl
  | succ e ih => rw [Nat.pow_succ]; omega
theorem sm_dvd : ∀ (p d : Nat), 2 ^ p ∣ sm d → 2 ^ p ∣ d
  | 0, d, _ => by simp
  | p + 1, d, h => by
    have h2 : 2 ∣ sm d := Nat.dvd_trans ⟨2 ^ p, by rw [Nat.pow_succ, Nat.mul_comm]⟩ h
    have h3 := sm_odd d
    have h4 := Nat.mod_eq_zero_of_dvd h2
    obtain ⟨e, rfl⟩ : ∃ e, d = e + e := ⟨d / 2, by omega⟩
    have h5 := five e
    obtain ⟨t, ht⟩ : ∃ t, 5 ^ e = 4 * t + 1 := ⟨5 ^ e / 4, by omega⟩
    have q : sm (e + e) = 2 * (sm e * (2 * t + 1)) := by
      have e1 : 4 * t * sm e = 2 * (sm e * (2 * t)) := by
        rw [Nat.mul_comm (sm e), ← Nat.mul_assoc, ← Nat.mul_assoc]
      rw [sm_add, ht, Nat.add_mul, e1, Nat.mul_add]
      omega
    rw [q, Nat.pow_succ, Nat.mul_comm (2 ^ p)] at h
    have h6 := Nat.dvd_of_mul_dvd_mul_left (by decide) h
    have co : Nat.Coprime (2 ^ p) (2 * t + 1) := by
      refine Nat.Coprime.pow_left p ?_
      show Nat.gcd 2 (2 * t + 1) = 1
      rw [Nat.gcd_rec, show (2 * t + 1) % 2 = 1 by omega]
      rfl
    obtain ⟨c, hc⟩ := sm_dvd p e (Nat.Coprime.dvd_of_dvd_mul_right co h6)
    refine ⟨c, ?_⟩
    rw [Nat.pow_succ, Nat.mul_right_comm, ← hc]
    omega
/-- within one round no two places are one -/
theorem sm_one {p a b : Nat} (h : a < b) (hb : b - a < 2 ^ p) : sm a % 2 ^ p ≠ sm b % 2 ^ p := by
  intro e
  obtain ⟨d, rfl⟩ : ∃ d, b = d + a := ⟨b - a, by omega⟩
  have h1 : 2 ^ p ∣ sm (d + a) - sm a := by
    refine ⟨sm (d + a) / 2 ^ p - sm a / 2 ^ p, ?_⟩
    have e1 := Nat.div_add_mod (sm (d + a)) (2 ^ p)
    have e2 := Nat.div_add_mod (sm a) (2 ^ p)
    rw [Nat.mul_sub]
    omega
  rw [sm_add, Nat.add_sub_cancel] at h1
  have co : Nat.Coprime (2 ^ p) (5 ^ a) := Nat.Coprime.pow p a (by decide)
  obtain ⟨c, hc⟩ := sm_dvd p d (Nat.Coprime.dvd_of_dvd_mul_left co h1)
  cases c with
  | zero => rw [Nat.mul_zero] at hc; omega
  | succ c => rw [Nat.mul_succ] at hc; omega
/-- a round comes everywhere -/
theorem sm_all {p a j : Nat} (hj : j < 2 ^ p) : ∃ k, k < 2 ^ p ∧ sm (a + k) % 2 ^ p = j := by
  rcases Classical.em (∃ k, k < 2 ^ p ∧ sm (a + k) % 2 ^ p = j) with h | h
  · exact h
  · exfalso
    have nd : ((List.range (2 ^ p)).map fun k => sm (a + k) % 2 ^ p).Nodup := by
      refine List.pairwise_map.mpr ((List.pairwise_lt_range).imp_of_mem fun {x y} hx hy hxy => ?_)
      have := List.mem_range.mp hy
      exact sm_one (by omega) (by omega)
    have nj : j ∉ (List.range (2 ^ p)).map fun k => sm (a + k) % 2 ^ p := fun m => by
      obtain ⟨k, hk, e⟩ := List.mem_map.mp m
      exact h ⟨k, List.mem_range.mp hk, e⟩
    have := nat_nodup_len (j :: (List.range (2 ^ p)).map fun k => sm (a + k) % 2 ^ p) (List.range (2 ^ p)) (List.nodup_cons.mpr ⟨nj, nd⟩) fun x hx => by
      rcases List.mem_cons.mp hx with rfl | hx
      · exact List.mem_range.mpr hj
      · obtain ⟨k, _, rfl⟩ := List.mem_map.mp hx
        exact List.mem_range.mpr (Nat.mod_lt _ (Nat.pow_pos (by decide)))
    rw [List.length_cons, List.length_map, List.length_range] at this
    omega
/-- the sizes that come -/
def Mk (m : Nat) : Prop := m = 7 ∨ m = 31 ∨ m = 127 ∨ m = 511 ∨ m = 2047 ∨ m = 8191
theorem Mk.pow {m : Nat} (h : Mk m) : ∃ p, m + 1 = 2 ^ p := by
  rcases h with rfl | rfl | rfl | rfl | rfl | rfl
  · exact ⟨3, rfl⟩
  · exact ⟨5, rfl⟩
  · exact ⟨7, rfl⟩
  · exact ⟨9, rfl⟩
  · exact ⟨11, rfl⟩
  · exact ⟨13, rfl⟩
theorem Mk.le {m : Nat} (h : Mk m) : 7 ≤ m ∧ m ≤ 8191 := by
  rcases h with rfl | rfl | rfl | rfl | rfl | rfl <;> omega
theorem Mk.odd {m : Nat} (h : Mk m) : m % 2 = 1 := by
  rcases h with rfl | rfl | rfl | rfl | rfl | rfl <;> rfl
theorem lcg_sm (m a : Nat) : ∀ k, lcgI m (sm a % (m + 1)) k = sm (a + k) % (m + 1)
  | 0 => rfl
  | k + 1 => by
    show (lcgI m (sm a % (m + 1)) k * 5 + 1) % (m + 1) = (5 * sm (a + k) + 1) % (m + 1)
    rw [lcg_sm m a k, Nat.add_mod, Nat.mul_mod, Nat.mod_mod, ← Nat.mul_mod, ← Nat.add_mod, Nat.mul_comm]
theorem lcg_meets {m i j : Nat} (hm : Mk m) (hi : i ≤ m) (hj : j ≤ m) : ∃ k, k ≤ m ∧ lcgI m i k = j := by
  obtain ⟨p, hp⟩ := hm.pow
  obtain ⟨a, _, ea⟩ := sm_all (p := p) (a := 0) (j := i) (by omega)
  obtain ⟨k, hk, ek⟩ := sm_all (p := p) (a := a) (j := j) (by omega)
  rw [Nat.zero_add] at ea
  refine ⟨k, by omega, ?_⟩
  rw [← ea, ← hp, lcg_sm, hp, ek]
/-- each slot begins a run of every way -/
theorem meets {m : Nat} (hm : Mk m) (h : Int) {j : Nat} (hj : j ≤ m) : ∃ n, n ≤ m + 12 ∧ runI m (SetTable.bits h) n = j := by
  obtain ⟨k, hk, e⟩ := lcg_meets hm (runI_le m (SetTable.bits h) 12) hj
  exact ⟨12 + k, by omega, (runI_tail (bits_lt h) k).trans e⟩
theorem way_in {m k : Nat} {h : Int} : way m h k ≤ m := by
  have a : SetTable.bits h % (m + 1) ≤ m := Nat.le_of_lt_succ (Nat.mod_lt _ (Nat.succ_pos _))
  have b := runEnd_bd a
  have c := nth_in (m := m) k (runAt m (SetTable.bits h % (m + 1)) (SetTable.bits h)) (show SetTable.bits h % (m + 1) + (SetTable.runEnd m (SetTable.bits h % (m + 1)) - SetTable.bits h % (m + 1)) ≤ m by omega)
  show (nth m (runAt m (SetTable.bits h % (m + 1)) (SetTable.bits h)) k).j ≤ m
  omega
/-- on the way of h, all slots ahead of the K-th are of Z, the K-th is not -/
def Fst (m : Nat) (h : Int) (Z : Nat → Prop) (K : Nat) : Prop := ¬ Z (way m h K) ∧ ∀ k, k < K → Z (way m h k)
theorem fst_of {m : Nat} {h : Int} {Z : Nat → Prop} {k : Nat} (hk : ¬ Z (way m h k)) : ∃ K, K ≤ k ∧ Fst m h Z K := by
  obtain ⟨K, h1, h2, h3⟩ := st_least (p := fun k => ¬ Z (way m h k)) k hk
  exact ⟨K, h1, h2, fun k' z => Classical.not_not.mp (h3 k' z)⟩
/-- a slot that is free is met early: the run where, and how many steps -/
theorem fst_run {m : Nat} (hm : Mk m) (h : Int) {Z : Nat → Prop} {j : Nat} (hj : j ≤ m) (hz : ¬ Z j) :
    ∃ K n, n ≤ m + 12 ∧ K ≤ off m (SetTable.bits h % (m + 1)) (SetTable.bits h) n ∧ Fst m h Z K := by
  obtain ⟨n, hn, e⟩ := meets hm h hj
  have hw : way m h (off m (SetTable.bits h % (m + 1)) (SetTable.bits h) n) = j := by
    show (nth m (runAt m (SetTable.bits h % (m + 1)) (SetTable.bits h)) (off m (SetTable.bits h % (m + 1)) (SetTable.bits h) n)).j = j
    rw [nth_off, itL_run]
    exact e
  obtain ⟨K, k1, k2⟩ := fst_of (m := m) (h := h) (Z := Z) (k := off m (SetTable.bits h % (m + 1)) (SetTable.bits h) n) (by rw [hw]; exact hz)
  exact ⟨K, n, hn, k1, k2⟩
theorem off_le (m : Nat) : ∀ (n i b : Nat), i ≤ m → off m i b n ≤ 10 * n
  | 0, _, _, _ => Nat.zero_le _
  | n + 1, i, b, hi => by
    have r := runEnd_bd hi
    have := off_le m n (SetTable.leap m i b).1 (SetTable.leap m i b).2 (leap_le m i b)
    show (SetTable.runEnd m i - i + 1) + off m (SetTable.leap m i b).1 (SetTable.leap m i b).2 n ≤ _
    omega
/-- a table in order: the slots rise, none is dropped, each hash leads to its slot over taken ones -/
structure Tab (t : SetTable) (hs : List Int) : Prop where
  ris : Ris t.place.toList
  dm : t.dummies = #[]
  sz : t.place.toList.length = hs.length
  ok : Mk t.mask
  bd : ∀ x ∈ t.place.toList, x ≤ t.mask
  led : ∀ p ∈ hs.zip t.place.toList, ∃ k, way t.mask p.1 k = p.2 ∧ ∀ k', k' < k → way t.mask p.1 k' ∈ t.place.toList
theorem Tab.free {t : SetTable} {hs : List Int} (T : Tab t hs) (hl : hs.length ≤ t.mask) (h : Int) : ∃ K, K < 10 * SetTable.turns t.mask ∧ Fst t.mask h (· ∈ t.place.toList) K := by
  obtain ⟨j, hj, hn⟩ := st_missing t.place.toList (t.mask + 1) (by rw [T.sz]; omega)
  obtain ⟨K, n, n1, n2, f⟩ := fst_run T.ok h (Z := (· ∈ t.place.toList)) (Nat.le_of_lt_succ hj) hn
  have := off_le t.mask n (SetTable.bits h % (t.mask + 1)) (SetTable.bits h) (Nat.le_of_lt_succ (Nat.mod_lt _ (Nat.succ_pos _)))
  exact ⟨K, by unfold SetTable.turns; omega, f⟩
theorem Tab.get {t : SetTable} {hs : List Int} (T : Tab t hs) {i j : Nat} {h : Int} (hi : hs[i]? = some h) (hj : t.place.toList[i]? = some j) : ∃ k, way t.mask h k = j ∧ ∀ k', k' < k → way t.mask h k' ∈ t.place.toList :=
  T.led (h, j) (List.mem_of_getElem? (i := i) (by rw [List.getElem?_zip_eq_some]; exact ⟨hi, hj⟩))
/-- what has the hash stands ahead of the first free slot -/
theorem Tab.ahead {t : SetTable} {hs : List Int} (T : Tab t hs) {h : Int} {K i j : Nat} (f : Fst t.mask h (· ∈ t.place.toList) K) (hi : hs[i]? = some h) (hj : t.place.toList[i]? = some j) : ∃ k, k < K ∧ way t.mask h k = j := by
  obtain ⟨k, e, hb⟩ := T.get hi hj
  rcases Nat.lt_or_ge k K with c | c
  · exact ⟨k, c, e⟩
  · rcases Nat.eq_or_lt_of_le c with d | d
    · exact absurd (by rw [d, e]; exact List.mem_of_getElem? hj) f.1
    · exact absurd (hb K d) f.1
theorem zip_put {α β : Type} : ∀ {as : List α} {bs : List β} (p : Nat) (x : α) (y : β), as.length = bs.length → (as.take p ++ x :: as.drop p).zip (bs.take p ++ y :: bs.drop p) = (as.zip bs).take p ++ (x, y) :: (as.zip bs).drop p := by
  intro as bs p x y h
  rw [List.zip_append (by rw [List.length_take, List.length_take, h]), List.zip_cons_cons]
  unfold List.zip
  rw [List.take_zipWith, List.drop_zipWith]
/-- a slot taken -/
theorem Tab.taken {t : SetTable} {hs : List Int} (T : Tab t hs) {h : Int} {K : Nat} (f : Fst t.mask h (· ∈ t.place.toList) K) :
    Tab (t.put (way t.mask h K)).1 (hs.take (SetTable.below t.place (way t.mask h K)) ++ h :: hs.drop (SetTable.below t.place (way t.mask h K))) ∧
    (t.put (way t.mask h K)).1.fill = hs.length + 1 := by
  have hjm : way t.mask h K ≤ t.mask := way_in
  have hw : ∃ j, way t.mask h K = j := ⟨_, rfl⟩
  obtain ⟨j, hj⟩ := hw
  have hf := f.1
  rw [hj] at hjm hf ⊢
  have pl := put_place t j
  have hnp : t.place[SetTable.below t.place j]? ≠ some j := fun e => hf (List.mem_of_getElem? (by rw [Array.getElem?_toList]; exact e))
  have mem : ∀ x, x ∈ (t.put j).1.place.toList ↔ x = j ∨ x ∈ t.place.toList := fun x => by
    rw [pl]
    exact mem_ins
  have ln : (t.put j).1.place.toList.length = hs.length + 1 := by
    rw [pl, (put_perm t.place.toList _ j).length_eq, List.length_cons, T.sz]
  refine ⟨⟨ris_insert T.ris hnp, put_dm T.dm j, ?_, T.ok, fun x hx => ?_, fun q hq => ?_⟩, ?_⟩
  · rw [ln, (put_perm hs _ h).length_eq, List.length_cons]
  · rcases (mem x).mp hx with rfl | hx
    · exact hjm
    · exact T.bd x hx
  · rw [pl, zip_put _ _ _ T.sz.symm] at hq
    show ∃ k, way t.mask q.1 k = q.2 ∧ ∀ k', k' < k → way t.mask q.1 k' ∈ (t.put j).1.place.toList
    rcases List.mem_cons.mp ((put_perm _ _ _).mem_iff.mp hq) with rfl | hq
    · exact ⟨K, hj, fun k' z => (mem _).mpr (.inr (f.2 k' z))⟩
    · obtain ⟨k, e, z⟩ := T.led q hq
      exact ⟨k, e, fun k' y => (mem _).mpr (.inr (z k' y))⟩
  · show (t.put j).1.place.size + (t.put j).1.dummies.size = hs.length + 1
    rw [put_dm T.dm j, ← Array.length_toList, ln]
    rfl
end BS
/-! DN1: a great table laid anew. -/
namespace BS
open PySem PySem.Spec PyProof.Rows L2
/-- the slots L of the hashes so far, and who owns them -/
structure Occ (m : Nat) (hs : List Int) (L : List Nat) (owner : Array (Option Nat)) : Prop where
  sz : owner.size = m + 1
  ln : L.length = hs.length
  own : ∀ j, j ≤ m → ∀ k, oAt owner j = some k ↔ L[k]? = some j
  bd : ∀ j ∈ L, j ≤ m
  led : ∀ p ∈ hs.zip L, ∃ K, way m p.1 K = p.2 ∧ ∀ k, k < K → way m p.1 k ∈ L
theorem Occ.nil (m : Nat) : Occ m [] [] (Array.replicate (m + 1) none) where
  sz := by simp
  ln := rfl
  own := fun j hj k => by
    rw [oAt_init hj]
    simp
  bd := fun j hj => nomatch hj
  led := fun p hp => nomatch hp
theorem Occ.none {m j : Nat} {hs : List Int} {L : List Nat} {owner : Array (Option Nat)} (O : Occ m hs L owner) (hj : j ≤ m) : oAt owner j = .none ↔ j ∉ L := by
  constructor
  · intro e z
    obtain ⟨k, hk, e2⟩ := List.getElem_of_mem z
    have := (O.own j hj k).mpr (by rw [List.getElem?_eq_getElem hk, e2])
    rw [e] at this
    cases this
  · intro z
    cases c : oAt owner j with
    | none => rfl
    | some k => exact absurd (List.mem_of_getElem? ((O.own j hj k).mp c)) z
/-- one hash more -/
theorem Occ.more {m : Nat} (hm : Mk m) {hs : List Int} {L : List Nat} {owner : Array (Option Nat)} (O : Occ m hs L owner) (hl : hs.length ≤ m) (h : Int) :
    ∃ j, SetTable.layClean.free m owner (SetTable.turns m) (SetTable.bits h % (m + 1)) (SetTable.bits h) = some j ∧ Occ m (hs ++ [h]) (L ++ [j]) (owner.setIfInBounds j (some hs.length)) := by
  obtain ⟨j0, h0, hn0⟩ := st_missing L (m + 1) (by rw [O.ln]; omega)
  obtain ⟨K, n, n1, n2, f⟩ := fst_run hm h (Z := (· ∈ L)) (Nat.le_of_lt_succ h0) hn0
  have isn : ∀ k, (oAt owner (way m h k)).isNone = decide (way m h k ∉ L) := fun k => by
    have q := O.none (j := way m h k) way_in
    cases c : oAt owner (way m h k) with
    | none => rw [c] at q; exact (decide_eq_true (q.mp rfl)).symm
    | some x => rw [c] at q; exact (decide_eq_false fun z => nomatch q.mpr z).symm
  have fr := free_spec m owner (SetTable.turns m) n _ (SetTable.bits h) K (by unfold SetTable.turns; omega) n2 (fun k hk => (isn k).trans (decide_eq_false fun z => z (f.2 k hk))) ((isn K).trans (decide_eq_true f.1))
  refine ⟨way m h K, fr, ?_⟩
  have hj : way m h K ≤ m := way_in
  have hf := f.1
  have hb := f.2
  have hw : ∃ j, way m h K = j := ⟨_, rfl⟩
  obtain ⟨j, ej⟩ := hw
  dsimp only at hf
  rw [ej] at hj hf ⊢
  refine ⟨by rw [Array.size_setIfInBounds]; exact O.sz, by rw [List.length_append, List.length_append, O.ln]; rfl, fun i hi k => ?_, fun x hx => ?_, fun p hp => ?_⟩
  · by_cases c : i = j
    · subst c
      rw [oAt_set_self _ (by rw [O.sz]; omega), List.getElem?_append]
      by_cases d : k < L.length
      · rw [if_pos d]
        refine ⟨fun e => ?_, fun e => absurd (List.mem_of_getElem? e) hf⟩
        have := Option.some.inj e
        rw [O.ln] at d
        omega
      · rw [if_neg d]
        refine ⟨fun e => ?_, fun e => ?_⟩
        · have := Option.some.inj e
          rw [← this, O.ln, Nat.sub_self]
          rfl
        · have h1 : k - L.length < 1 := (List.getElem?_eq_some_iff.mp e).1
          have h2 := O.ln
          exact congrArg some (by omega)
    · rw [oAt_set_ne _ c, O.own i hi k, List.getElem?_append]
      by_cases d : k < L.length
      · rw [if_pos d]
      · rw [if_neg d]
        refine ⟨fun e => absurd (List.getElem?_eq_some_iff.mp e).1 d, fun e => ?_⟩
        exact absurd (List.mem_singleton.mp (List.mem_of_getElem? e)) c
  · rcases List.mem_append.mp hx with z | z
    · exact O.bd x z
    · rw [List.mem_singleton.mp z]; exact hj
  · rw [List.zip_append O.ln.symm] at hp
    rcases List.mem_append.mp hp with z | z
    · obtain ⟨k, e, b⟩ := O.led p z
      exact ⟨k, e, fun k' y => List.mem_append_left _ (b k' y)⟩
    · rw [List.mem_singleton.mp z]
      exact ⟨K, ej, fun k' y => List.mem_append_left _ (hb k' y)⟩
theorem occ_fold {m : Nat} (hm : Mk m) : ∀ (r hs : List Int) (L : List Nat) (owner : Array (Option Nat)), Occ m hs L owner → hs.length + r.length ≤ m →
    ∃ L' owner', r.foldl (stepF m) (some (owner, hs.length)) = some (owner', (hs ++ r).length) ∧ Occ m (hs ++ r) L' owner'
  | [], hs, L, owner, O, _ => by
    rw [List.append_nil]
    exact ⟨L, owner, rfl, O⟩
  | h :: r, hs, L, owner, O, hl => by
    rw [List.length_cons] at hl
    obtain ⟨j, e, O2⟩ := O.more hm (by omega) h
    obtain ⟨L', o', f, O3⟩ := occ_fold hm r (hs ++ [h]) _ _ O2 (by rw [List.length_append, List.length_singleton]; omega)
    rw [List.append_assoc, List.singleton_append] at f O3
    rw [List.length_append, List.length_singleton] at f
    refine ⟨L', o', ?_, O3⟩
    rw [List.foldl_cons, stepF_some e]
    exact f
/-- all laid anew -/
theorem relaid_good (t : SetTable) {hs : Array Int} {wanted M : Nat} (hw : SetTable.sizeAbove wanted - 1 = M) (hM : Mk M) (hn : hs.size ≤ M) :
    ∃ t' order, t.relaid hs wanted = some (t', order) ∧ order.toList.Perm (List.range hs.size) ∧ Tab t' (order.toList.map fun i => hs.getD i 0) ∧ t'.mask = M ∧ t'.led = t.led ∧ t'.plain = t.plain := by
  obtain ⟨L, owner, f, O⟩ := occ_fold hM hs.toList [] [] _ (Occ.nil M) (by simpa using hn)
  rw [List.nil_append] at O f
  have lay : SetTable.layClean M hs = some owner := by
    rw [layClean_eq]
    exact congrArg (Option.map (·.1)) f
  have rel : t.relaid hs wanted = some (tabOf t M owner, ((liveOf M owner).map (·.2)).toArray) := by
    rw [relaid_eq, hw, lay]
    rfl
  have live : ∀ j k, (j, k) ∈ liveOf M owner ↔ L[k]? = some j := fun j k => by
    rw [mem_live O.sz]
    constructor
    · intro z
      exact (O.own j z.1 k).mp z.2
    · intro z
      have hj := O.bd j (List.mem_of_getElem? z)
      exact ⟨hj, (O.own j hj k).mpr z⟩
  have rise : Ris ((liveOf M owner).map (·.1)) := (ris_live (fun j => owner.getD j none) (List.range (M + 1)) List.pairwise_lt_range).1
  have nd : (liveOf M owner).Nodup := List.Pairwise.imp (fun {a b} h => by
    rintro rfl
    exact absurd h (Nat.lt_irrefl _)) (List.pairwise_map.mp rise)
  have hsz : hs.toList.length = hs.size := rfl
  have inP : ∀ x, x ∈ (liveOf M owner).map (·.1) ↔ x ∈ L := fun x => by
    constructor
    · intro z
      obtain ⟨q, hq, rfl⟩ := List.mem_map.mp z
      exact List.mem_of_getElem? ((live q.1 q.2).mp hq)
    · intro z
      obtain ⟨k, hk, e⟩ := List.getElem_of_mem z
      exact List.mem_map.mpr ⟨(x, k), (live x k).mpr (by rw [List.getElem?_eq_getElem hk, e]), rfl⟩
  refine ⟨_, _, rel, ?_, ⟨rise, rfl, ?_, hM, fun x hx => O.bd x ((inP x).mp hx), fun p hp => ?_⟩, rfl, rfl, rfl⟩
  · show ((liveOf M owner).map (·.2)).Perm _
    refine (List.perm_ext_iff_of_nodup ?_ List.nodup_range).mpr fun k => ?_
    · refine List.pairwise_map.mpr (nd.imp_of_mem fun {a b} ha hb hne e => hne ?_)
      have h1 := (live a.1 a.2).mp ha
      have h2 := (live b.1 b.2).mp hb
      rw [e, h2] at h1
      exact Prod.ext (Option.some.inj h1).symm e
    · rw [List.mem_range, ← hsz, ← O.ln]
      constructor
      · intro z
        obtain ⟨q, hq, rfl⟩ := List.mem_map.mp z
        exact (List.getElem?_eq_some_iff.mp ((live q.1 q.2).mp hq)).1
      · intro z
        exact List.mem_map.mpr ⟨(L[k], k), (live _ _).mpr (List.getElem?_eq_getElem z), rfl⟩
  · show ((liveOf M owner).map (·.1)).length = (((liveOf M owner).map (·.2)).map _).length
    rw [List.length_map, List.length_map, List.length_map]
  · have hp' : p ∈ (((liveOf M owner).map (·.2)).map fun i => hs.getD i 0).zip ((liveOf M owner).map (·.1)) := hp
    rw [List.map_map, List.zip_map', List.mem_map] at hp'
    obtain ⟨q, hq, rfl⟩ := hp'
    have hk := (live q.1 q.2).mp hq
    have hlt : q.2 < hs.toList.length := by rw [← O.ln]; exact (List.getElem?_eq_some_iff.mp hk).1
    obtain ⟨K, e, b⟩ := O.led (hs.toList[q.2], q.1) (List.mem_of_getElem? (i := q.2) (by rw [List.getElem?_zip_eq_some]; exact ⟨List.getElem?_eq_getElem hlt, hk⟩))
    have eh : hs.getD q.2 0 = hs.toList[q.2] := by
      rw [Array.getD_eq_getD_getElem?, ← Array.getElem?_toList, List.getElem?_eq_getElem hlt]
      rfl
    refine ⟨K, ?_, fun k hk' => ?_⟩
    · show way M (hs.getD q.2 0) K = q.1
      rw [eh]; exact e
    · show way M (hs.getD q.2 0) k ∈ (liveOf M owner).map (·.1)
      rw [eh]; exact (inP _).mpr (b k hk')
end BS
/-! DN2: great sets of tuples of whole numbers: a search, and one tuple more. -/
namespace BS
open PySem PySem.Spec PyProof.Rows L2
/-- the set at a holds the rows L (address, numbers), in the order of their slots -/
structure Great (P : Program) (w : World) (h : Heap) (a : Addr) (L : List (Addr × List Int)) (es : Array (Int × Value)) (ep : Nat) (t : SetTable) : Prop where
  ob : ∃ o, h.get? a = some o ∧ o.ExactSet ∧ o.data = .set es ep t
  rows : es.toList = rowsOf P w L
  tab : Tab t (L.map fun p => thash P w p.2)
  nd : (L.map (·.2)).Nodup
  tup : ∀ p ∈ L, IsT P w h p.2 p.1
  plain : t.plain = true
  led : w.params.followText "set-order" = true ∨ t.led = true
  room : L.length * 5 < t.mask * 3
section
variable {P : Program} {w : World} {A : Around} {E : Value → Shared → Prop} {s : Shared} {h : Heap} {a : Addr} {L : List (Addr × List Int)} {es : Array (Int × Value)} {ep : Nat} {t : SetTable}
theorem rows_size (e : es.toList = rowsOf P w L) : es.size = L.length := by
  have := congrArg List.length e
  rw [Array.length_toList, rowsOf, List.length_map] at this
  exact this
theorem fits_of {n : Nat} (T : Tab t (L.map fun p => thash P w p.2)) (e : n = L.length) (hl : L.length ≤ t.mask) : t.fits n = true := by
  have h1 := T.sz
  rw [List.length_map, Array.length_toList] at h1
  unfold SetTable.fits SetTable.fill
  rw [T.dm, Bool.and_eq_true, beq_iff_eq, decide_eq_true_eq]
  refine ⟨h1.trans e.symm, ?_⟩
  show t.place.size + 0 ≤ t.mask
  omega
theorem Great.size (R : Great P w h a L es ep t) : es.size = L.length := rows_size R.rows
theorem Great.fits (R : Great P w h a L es ep t) : t.fits es.size = true := fits_of R.tab R.size (by have := R.room; omega)
theorem Great.row (R : Great P w h a L es ep t) {i : Nat} {p : Addr × List Int} (e : L[i]? = some p) : es[i]? = some (thash P w p.2, Value.ref p.1) := by
  rw [← Array.getElem?_toList, R.rows, rowsOf, List.getElem?_map, e]
  rfl
theorem Great.whole (R : Great P w h a L es ep t) : ¬ t.gaveWay = true := by
  unfold SetTable.gaveWay
  rw [R.tab.ok.odd]
  decide
theorem dummies_none (m : Nat) : ∀ (n : Nat) (p : SetTable.Probe), p.dummy = none → (nth m p n).dummy = none
  | 0, _, h => h
  | n + 1, p, h => dummies_none m n (adv m p) (by unfold adv; split <;> exact h)
/-- the search, from the c-th place of the way on: the places ahead do not hold the key -/
theorem look (R : Great P w s.heap a L es ep t) {x : Addr} {k : List Int} (hx : IsT P w s.heap k x) (hu : A.units < cLine) {K : Nat} (hK : K < 10 * SetTable.turns t.mask) (f : Fst t.mask (thash P w k) (· ∈ t.place.toList) K) {Q : SetFound → Shared → Prop}
    (hin : k ∈ L.map (·.2) → Q (.there none) s) (hout : k ∉ L.map (·.2) → Q (.free (way t.mask (thash P w k) K) false) s) :
    ∀ (n c : Nat) (stand : Option SetTable.Probe), stand.getD (t.probeStart (thash P w k)) = nth t.mask (runAt t.mask (SetTable.bits (thash P w k) % (t.mask + 1)) (SetTable.bits (thash P w k))) c → c ≤ K → K - c < n →
      (∀ c', c' < c → ∀ (i : Nat) p, t.place.toList[i]? = some (way t.mask (thash P w k) c') → L[i]? = some p → p.2 ≠ k) →
      wpAny (model P w) A (setSearchFrom a (.ref x) (thash P w k) true n stand) Q E s
  | 0, c, stand, _, _, hn, _ => absurd hn (Nat.not_lt_zero _)
  | n + 1, c, stand, hst, hc, hn, inv => by
    obtain ⟨o, ho, hex, hd⟩ := R.ob
    have wy : ∀ q, (nth t.mask (nth t.mask (runAt t.mask (SetTable.bits (thash P w k) % (t.mask + 1)) (SetTable.bits (thash P w k))) c) q).j = way t.mask (thash P w k) (c + q) := fun q => congrArg SetTable.Probe.j (nth_add t.mask c _ q).symm
    have hashAt : ∀ (i : Nat) p, L[i]? = some p → (es[i]?.map (·.1)).getD 0 = thash P w p.2 := fun i p hp => by
      rw [R.row hp]
      rfl
    -- between two places no key is passed
    have ext : ∀ q, (∀ (k' i' : Nat), k' < q → t.place.toList[i']? = some (nth t.mask (nth t.mask (runAt t.mask (SetTable.bits (thash P w k) % (t.mask + 1)) (SetTable.bits (thash P w k))) c) k').j → (es[i']?.map (·.1)).getD 0 ≠ thash P w k) →
        ∀ c', c' < c + q → ∀ (i : Nat) p, t.place.toList[i]? = some (way t.mask (thash P w k) c') → L[i]? = some p → p.2 ≠ k := fun q hno c' hc' i p hi hp e => by
      rcases Nat.lt_or_ge c' c with d | d
      · exact inv c' d i p hi hp e
      · refine hno (c' - c) i (by omega) ?_ ?_
        · rw [wy, show c + (c' - c) = c' by omega]
          exact hi
        · rw [hashAt i p hp, e]
    have spec := go_spec t R.tab.ris R.tab.dm (fun i => (es[i]?.map (·.1)).getD 0) (thash P w k) (10 * SetTable.turns t.mask) (K - c) _ (dummies_none t.mask c (runAt t.mask (SetTable.bits (thash P w k) % (t.mask + 1)) (SetTable.bits (thash P w k))) rfl) (by omega)
      (fun q hq => by rw [wy]; exact f.2 (c + q) (by omega)) (by rw [wy, show c + (K - c) = K by omega]; exact f.1)
    have prb : t.probe (fun i => (es[i]?.map (·.1)).getD 0) (thash P w k) (stand.getD (t.probeStart (thash P w k))) = SetTable.probe.go t (fun i => (es[i]?.map (·.1)).getD 0) (thash P w k) (10 * SetTable.turns t.mask) (nth t.mask (runAt t.mask (SetTable.bits (thash P w k) % (t.mask + 1)) (SetTable.bits (thash P w k))) c) := by
      rw [hst]
      rfl
    rw [setSearchFrom_succ]
    refine wpAny_bind (wpAny_setState_of ho hd R.fits ?_)
    dsimp only
    refine wp_if_neg R.whole ?_
    try refine wpAny_bind (wpAny_pure ?_)
    rw [prb]
    rcases spec with ⟨q, i, hq, hi, hh, hno, e⟩ | ⟨hno, e⟩
    · rw [e]
      rw [wy] at hi
      dsimp only
      have hil : i < L.length := by
        have h1 := (List.getElem?_eq_some_iff.mp hi).1
        have h2 := R.tab.sz
        rw [List.length_map] at h2
        omega
      obtain ⟨p, hp⟩ : ∃ p, L[i]? = some p := ⟨_, List.getElem?_eq_getElem hil⟩
      have hm : p ∈ L := List.mem_of_getElem? hp
      have go : wpAny (model P w) A (searchRest a (.ref x) (thash P w k) true n es t (nth t.mask (nth t.mask (runAt t.mask (SetTable.bits (thash P w k) % (t.mask + 1)) (SetTable.bits (thash P w k))) c) q).j i (nth t.mask (nth t.mask (runAt t.mask (SetTable.bits (thash P w k) % (t.mask + 1)) (SetTable.bits (thash P w k))) c) (q + 1))) Q E s := by
        unfold searchRest
        rw [R.row hp]
        dsimp only
        refine wpAny_bind (wpAny_holding (wpAny_eqBool_tuple hu (R.tup p hm) hx ?_))
        refine wpAny_bind (wpAny_setState_of ho hd R.fits ?_)
        dsimp only
        by_cases d : p.2 = k
        · refine wp_if_pos (by simp [d]) (wpAny_pure (hin (List.mem_map.mpr ⟨p, hm, d⟩)))
        · refine wp_if_neg (by simp [d]) ?_
          try refine wpAny_bind (wpAny_pure ?_)
          rw [sameMem, wy]
          have sl := slot_live R.tab.ris hi
          simp only [if_true, sl, R.row hp]
          refine wpAny_bind (wpAny_isSame_ref_self (wpAny_bind (wpAny_pure ?_)))
          simp only [if_true]
          refine wp_if_neg (by simp [d]) ?_
          refine look R hx hu hK f hin hout n (c + (q + 1)) _ ?_ (by omega) (by omega) fun c' hc' i' p' hi' hp' => ?_
          · exact (nth_add t.mask c _ (q + 1)).symm
          · rcases Nat.lt_or_ge c' (c + q) with y | y
            · exact ext q hno c' y i' p' hi' hp'
            · have ec : c' = c + q := by omega
              rw [ec] at hi'
              have s2 := slot_live R.tab.ris hi'
              rw [sl] at s2
              injection s2 with s2
              rw [← s2, hp] at hp'
              rw [← Option.some.inj hp']
              exact d
      by_cases hl : t.led = true
      · refine wp_if_neg (by simp [hl]) ?_
        try refine wpAny_bind (wpAny_pure ?_)
        exact go
      · refine wp_if_pos (by simp [hl]) (wpAny_bind (seen_tup hx (fun y hy => ?_) (wp_if_neg (by decide) ?_)))
        · obtain ⟨e0, he, ee⟩ := List.mem_map.mp hy
          have he2 : e0 ∈ es ∧ e0.1 = thash P w k := by simpa using he
          have he3 : e0 ∈ es.toList := by simpa using he2.1
          rw [R.rows] at he3
          obtain ⟨p2, hp2, e2⟩ := List.mem_map.mp he3
          exact ⟨p2.2, p2.1, by rw [← ee, ← e2], R.tup p2 hp2⟩
        · try refine wpAny_bind (wpAny_pure ?_)
          exact go
    · rw [e, wy, show c + (K - c) = K by omega]
      dsimp only
      refine wpAny_pure (hout fun z => ?_)
      obtain ⟨p, hm, ek⟩ := List.mem_map.mp z
      obtain ⟨i, hi, e1⟩ := List.getElem_of_mem hm
      have hp : L[i]? = some p := by rw [List.getElem?_eq_getElem hi, e1]
      have hh : (L.map fun p => thash P w p.2)[i]? = some (thash P w k) := by rw [List.getElem?_map, hp, ← ek]; rfl
      have hil : i < t.place.toList.length := by rw [R.tab.sz, List.length_map]; exact hi
      have hj := List.getElem?_eq_getElem hil
      obtain ⟨c', hc', e2⟩ := R.tab.ahead f hh hj
      exact ext (K - c) hno c' (by omega) i p (by rw [hj, e2]) hp ek
/-- the search as adding asks for it -/
theorem search (R : Great P w s.heap a L es ep t) {x : Addr} {k : List Int} (hx : IsT P w s.heap k x) (hu : A.units < cLine) {Q : SetFound → Shared → Prop}
    (hin : k ∈ L.map (·.2) → Q (.there none) s) (hout : ∀ K, k ∉ L.map (·.2) → Fst t.mask (thash P w k) (· ∈ t.place.toList) K → Q (.free (way t.mask (thash P w k) K) false) s) :
    wpAny (model P w) A (setSearch a (.ref x) (thash P w k) true) Q E s := by
  have hr := R.room
  have hm := R.tab.ok.le
  obtain ⟨K, hK, f⟩ := R.tab.free (by rw [List.length_map]; omega) (thash P w k)
  unfold setSearch
  refine look R hx hu hK f hin (fun z => hout K z f) 100000 0 none rfl (Nat.zero_le _) ?_ fun c' z => absurd z (Nat.not_lt_zero _)
  unfold SetTable.turns at hK
  omega
theorem grow_32 : SetTable.sizeAbove (SetTable.grown 5) = 32 := by decide +kernel
theorem grow_128 : SetTable.sizeAbove (SetTable.grown 19) = 128 := by decide +kernel
theorem grow_512 : SetTable.sizeAbove (SetTable.grown 77) = 512 := by decide +kernel
theorem grow_2048 : SetTable.sizeAbove (SetTable.grown 307) = 2048 := by decide +kernel
theorem grow_8192 : SetTable.sizeAbove (SetTable.grown 1229) = 8192 := by decide +kernel
/-- when a table is full, the next one -/
theorem next_size {m n : Nat} (hm : Mk m) (h1 : n * 5 < m * 3) (h2 : m * 3 ≤ (n + 1) * 5) (h3 : n < 4914) : ∃ M, SetTable.sizeAbove (SetTable.grown (n + 1)) = M + 1 ∧ Mk M ∧ (n + 1) * 5 < M * 3 ∧ n + 1 ≤ m := by
  rcases hm with rfl | rfl | rfl | rfl | rfl | rfl
  · obtain rfl : n = 4 := by omega
    exact ⟨31, grow_32, .inr (.inl rfl), by omega, by omega⟩
  · obtain rfl : n = 18 := by omega
    exact ⟨127, grow_128, .inr (.inr (.inl rfl)), by omega, by omega⟩
  · obtain rfl : n = 76 := by omega
    exact ⟨511, grow_512, .inr (.inr (.inr (.inl rfl))), by omega, by omega⟩
  · obtain rfl : n = 306 := by omega
    exact ⟨2047, grow_2048, .inr (.inr (.inr (.inr (.inl rfl)))), by omega, by omega⟩
  · obtain rfl : n = 1228 := by omega
    exact ⟨8191, grow_8192, .inr (.inr (.inr (.inr (.inr rfl)))), by omega, by omega⟩
  · exfalso; omega
/-- laid anew in the heap -/
theorem relay (R : ∃ o, s.heap.get? a = some o ∧ o.ExactSet ∧ o.data = .set es ep t) (hr : es.toList = rowsOf P w L) (T : Tab t (L.map fun p => thash P w p.2)) (nd : (L.map (·.2)).Nodup) (tup : ∀ p ∈ L, IsT P w s.heap p.2 p.1) (pl : t.plain = true)
    (ld : w.params.followText "set-order" = true ∨ t.led = true) (hl : L.length ≤ t.mask) {wanted M : Nat} (hw : SetTable.sizeAbove wanted = M + 1) (hM : Mk M) (hn : L.length * 5 < M * 3) {Q : Unit → Shared → Prop}
    (hQ : ∀ h' L' es' ep' t', Heap.SameBut a s.heap h' → Great P w h' a L' es' ep' t' → L'.Perm L → Q () { s with heap := h' }) : wpAny (model P w) A (setRelay a wanted) Q E s := by
  obtain ⟨o, ho, hex, hd⟩ := R
  have hz := rows_size hr
  have h2 := hM.le
  obtain ⟨t', order, e, hp, T', em, el, epl⟩ := relaid_good t (hs := es.map (·.1)) (wanted := wanted) (M := M) (by omega) hM (by rw [Array.size_map]; omega)
  rw [Array.size_map, hz] at hp
  obtain ⟨L2, r1, r2, r3⟩ := order_rows L es order hr hp
  rw [← r3] at T'
  have hz2 := (rows_size r1).trans r2.length_eq
  rw [setRelay_eq]
  refine wpAny_bind (wpAny_setState_of ho hd (fits_of T hz hl) ?_)
  dsimp only
  refine wp_if_neg (by rw [sizeLine_eq, hw]; omega) ?_
  try refine wpAny_bind (wpAny_pure ?_)
  rw [e]
  dsimp only
  refine wpAny_bind (wp_if_neg (by rw [hz2, hz]; simp) ?_)
  try refine wpAny_bind (wpAny_pure ?_)
  refine wpAny_pure ?_
  dsimp only
  refine wpAny_storeSet_of ho hd ?_ (by rw [hz2, sizeLine_eq]; omega)
  have sb : Heap.SameBut a s.heap (s.heap.update a (Obj.putSet (order.filterMap (es[·]?)) t')) := Heap.SameBut.update ..
  exact hQ _ L2 _ (ep + 1) t' sb ⟨⟨_, store_at ho hd, ⟨hex.1, hex.2.1, hex.2.2⟩, rfl⟩, r1, T', (r2.map _).nodup_iff.mpr nd, fun p hm => isT_same (tup p (r2.mem_iff.mp hm)) ho hd sb, epl.trans pl, by rw [el]; exact ld, by rw [r2.length_eq, em]; exact hn⟩ r2
/-- one more -/
theorem add (R : Great P w s.heap a L es ep t) {x : Addr} {k : List Int} (hx : IsT P w s.heap k x) (hu : A.units < cLine) (hf : k ∉ L.map (·.2) → L.length < 4914) {Q : Bool → Shared → Prop}
    (hQ : ∀ b h' L' es' ep' t', Heap.SameBut a s.heap h' → Great P w h' a L' es' ep' t' → (k ∈ L.map (·.2) → L' = L) → (k ∉ L.map (·.2) → L'.Perm ((x, k) :: L)) → Q b { s with heap := h' }) :
    wpAny (model P w) A (setAddHashed a (.ref x) (thash P w k)) Q E s := by
  obtain ⟨o, ho, hex, hd⟩ := R.ob
  have hz := R.size
  have hr := R.room
  unfold setAddHashed
  refine wpAny_holding ?_
  rw [show (100000 : Nat) = 99999 + 1 from rfl, setAddHashedIn_succ]
  refine wpAny_bind (wpAny_setState_of ho hd R.fits ?_)
  dsimp only
  refine wp_if_neg (by simp [byScan, Value.scannable]) ?_
  try refine wpAny_bind (wpAny_pure ?_)
  refine wpAny_bind (search R hx hu (fun m => ?_) fun K m f => ?_)
  · dsimp only
    exact wpAny_pure (hQ false s.heap L es ep t (Heap.SameBut.refl a s.heap) R (fun _ => rfl) fun z => absurd m z)
  · have hfew := hf m
    obtain ⟨T1, fl⟩ := R.tab.taken f
    have pl1 : (t.put (way t.mask (thash P w k) K)).1.plain = true := R.plain
    have ld1 : w.params.followText "set-order" = true ∨ (t.put (way t.mask (thash P w k) K)).1.led = true := R.led
    have mk1 : (t.put (way t.mask (thash P w k) K)).1.mask = t.mask := rfl
    have p1 : (t.put (way t.mask (thash P w k) K)).2 = SetTable.below t.place (way t.mask (thash P w k) K) := rfl
    dsimp only
    refine wpAny_bind (wpAny_setState_of ho hd R.fits ?_)
    dsimp only
    generalize t.put (way t.mask (thash P w k) K) = pt at T1 fl pl1 ld1 mk1 p1 ⊢
    obtain ⟨t1, p⟩ := pt
    dsimp only at T1 fl pl1 ld1 mk1 p1 ⊢
    rw [← p1] at T1
    first
      | (refine wpAny_bind ?_; refine wp_if_pos pl1 ?_; refine hashBy_tup hx ?_)
      | refine wp_if_pos pl1 (wpAny_bind (hashBy_tup hx ?_))
    simp only [if_true]
    have rw1 : (SetTable.insertAt es p (thash P w k, Value.ref x)).toList = rowsOf P w (L.take p ++ (x, k) :: L.drop p) := by rw [SetTable.toList_insertAt, rows_put, R.rows]
    have pm := put_perm L p (x, k)
    have hh : (L.map fun p => thash P w p.2).take p ++ thash P w k :: (L.map fun p => thash P w p.2).drop p = (L.take p ++ (x, k) :: L.drop p).map fun p => thash P w p.2 := by
      rw [List.map_append, List.map_cons, List.map_take, List.map_drop]
    rw [hh] at T1
    rw [List.length_map] at fl
    have hz1 : (SetTable.insertAt es p (thash P w k, Value.ref x)).size = L.length + 1 := (rows_size rw1).trans (pm.length_eq.trans (List.length_cons ..))
    generalize SetTable.insertAt es p (thash P w k, Value.ref x) = es1 at rw1 hz1 ⊢
    have nd1 : ((L.take p ++ (x, k) :: L.drop p).map (·.2)).Nodup := (pm.map (·.2)).nodup_iff.mpr (List.nodup_cons.mpr ⟨m, R.nd⟩)
    have l1 : (L.take p ++ (x, k) :: L.drop p).length = L.length + 1 := pm.length_eq
    generalize L.take p ++ (x, k) :: L.drop p = L1 at T1 rw1 pm nd1 l1
    refine wpAny_bind (wpAny_storeSet_of ho hd ?_ (by rw [hz1, sizeLine_eq]; omega))
    have sb : Heap.SameBut a s.heap (s.heap.update a (Obj.putSet es1 t1)) := Heap.SameBut.update ..
    have ho1 := store_at (es' := es1) (t' := t1) ho hd
    generalize s.heap.update a (Obj.putSet es1 t1) = h1 at sb ho1 ⊢
    have tup1 : ∀ q ∈ L1, IsT P w h1 q.2 q.1 := fun q hq => by
      rcases List.mem_cons.mp (pm.mem_iff.mp hq) with rfl | hq
      · exact isT_same hx ho hd sb
      · exact isT_same (R.tup q hq) ho hd sb
    by_cases full : t1.tooFull = true
    · have hfl : t.mask * 3 ≤ (L.length + 1) * 5 := by
        have := full
        unfold SetTable.tooFull at this
        rw [decide_eq_true_eq, fl, mk1] at this
        exact this
      obtain ⟨M, s1, s2, s3, s4⟩ := next_size R.tab.ok hr hfl hfew
      have go : wpAny (model P w) A (setRelay a (SetTable.grown (es.size + 1))) (fun _ s' => wpAny (model P w) A (pure true) Q E s') E { s with heap := h1 } := by
        refine relay (s := { s with heap := h1 }) ⟨_, ho1, ⟨hex.1, hex.2.1, hex.2.2⟩, rfl⟩ rw1 T1 nd1 tup1 pl1 ld1 (by rw [l1, mk1]; exact s4) (by rw [hz]; exact s1) s2 (by rw [l1]; exact s3) fun h2 L2 es2 ep2 t2 sb2 R2 pm2 => ?_
        exact wpAny_pure (hQ true h2 L2 es2 ep2 t2 (sb.trans sb2) R2 (fun z => absurd z m) fun _ => pm2.trans pm)
      first
        | (refine wpAny_bind ?_; refine wp_if_pos (by simp [full]) ?_; exact go)
        | (refine wp_if_pos (by simp [full]) ?_; refine wpAny_bind ?_; exact go)
    · first
        | refine wp_if_neg (by simp [full]) ?_
        | (refine wpAny_bind ?_; refine wp_if_neg (by simp [full]) ?_; refine wpAny_pure ?_)
      refine wpAny_pure (hQ true h1 L1 es1 (ep + 1) t1 sb ⟨⟨_, ho1, ⟨hex.1, hex.2.1, hex.2.2⟩, rfl⟩, rw1, T1, nd1, tup1, pl1, ld1, ?_⟩ (fun z => absurd z m) fun _ => pm)
      have := full
      unfold SetTable.tooFull at this
      rw [decide_eq_true_eq, fl] at this
      rw [l1]
      omega
end
end BS
/-! DN3: set(xs) of a list of tuples of whole numbers, up to 4914 unlike ones. -/
namespace BS
open PySem PySem.Spec PyProof.Rows L2
/-- unlike keys among these are few -/
def Few (ks : List (Addr × List Int)) : Prop := ∀ l : List (List Int), l.Nodup → (∀ k ∈ l, k ∈ ks.map (·.2)) → l.length ≤ 4914
abbrev noSet (w : World) : Obj := { cls := .type "set", dict := none, data := .set #[] 0 (.fresh 0 0 (!w.params.followText "set-order")) }
section
variable {P : Program} {w : World} {A : Around} {E : Value → Shared → Prop} {s : Shared}
theorem great_new {h : Heap} {a : Addr} (ho : h.get? a = some (noSet w)) : Great P w h a [] #[] 0 (.fresh 0 0 (!w.params.followText "set-order")) where
  ob := ⟨_, ho, ⟨rfl, rfl, rfl⟩, rfl⟩
  rows := rfl
  tab := { ris := List.Pairwise.nil, dm := rfl, sz := rfl, ok := .inl rfl, bd := fun x hx => (nomatch hx), led := fun p hp => (nomatch hp) }
  nd := List.nodup_nil
  tup := fun p hp => nomatch hp
  plain := rfl
  led := by
    cases e : w.params.followText "set-order"
    · exact .inr rfl
    · exact .inl rfl
  room := (by decide : 0 * 5 < 7 * 3)
theorem Great.kept {h h' : Heap} {a : Addr} {L : List (Addr × List Int)} {es : Array (Int × Value)} {ep : Nat} {t : SetTable} (R : Great P w h a L es ep t) (ha : ∀ o, h.get? a = some o → h'.get? a = some o) (ht : ∀ p ∈ L, IsT P w h' p.2 p.1) : Great P w h' a L es ep t := by
  obtain ⟨o, ho, r⟩ := R.ob
  exact { R with ob := ⟨o, ha o ho, r⟩, tup := ht }
theorem few_room {ks L : List (Addr × List Int)} {i : Nat} (F : Few ks) (g : Got ks i L) (nd : (L.map (·.2)).Nodup) {p : Addr × List Int} (hp : p ∈ ks) (m : p.2 ∉ L.map (·.2)) : L.length < 4914 := by
  have := F (p.2 :: L.map (·.2)) (List.nodup_cons.mpr ⟨m, nd⟩) fun k hk => by
    rcases List.mem_cons.mp hk with rfl | hk
    · exact List.mem_map_of_mem hp
    · obtain ⟨q, hq, rfl⟩ := List.mem_map.mp hk
      exact List.mem_map_of_mem (List.mem_of_mem_take (g.sub q hq))
  rw [List.length_cons, List.length_map] at this
  omega
/-- the turns of set.update, from the i-th item on -/
theorem turns {I S : Addr} {fp wr : List Addr} {G : Array GenState → Array GenState → Prop} {Pv : Nat → Value → Prop} {St : Nat → Shared → Prop} {R : Result → Shared → Prop} {ks : List (Addr × List Int)} (F0 : Few ks)
    (W : WalksS P w A.in1 I fp wr G ks.length Pv St) (hS : S ∉ fp) (hv : ∀ i v, Pv i v → ∃ p, ks[i]? = some p ∧ v = .ref p.1) (h0 : Heap) (hk : ∀ p ∈ ks, IsT P w h0 p.2 p.1) (hS0 : h0.get? S = none) (hw0 : ∀ b ∈ wr, h0.get? b = none) (hu : A.in1.units < cLine) :
    ∀ (m i : Nat) (s : Shared), i + m = ks.length → St i s → (∀ b o, h0.get? b = some o → s.heap.get? b = some o) → (∃ L es ep t, Great P w s.heap S L es ep t ∧ Got ks i L) →
      (∀ s' L es ep t, Moved (S :: wr) G s s' → Great P w s'.heap S L es ep t → Got ks ks.length L → (∀ b o, h0.get? b = some o → s'.heap.get? b = some o) → R (.ok (.ret .none)) s') →
      codeAny (model P w) A (.builtin "set.update.loop" ⟨[.ref S, .ref I], []⟩) R s := by
  have hSw : S ∉ wr := fun z => hS (W.sub _ z)
  have old : ∀ {s s' : Shared}, Moved wr G s s' → (∀ b o, h0.get? b = some o → s.heap.get? b = some o) → ∀ b o, h0.get? b = some o → s'.heap.get? b = some o := fun mv kp b o e =>
    mv.heap b o (fun z => by rw [hw0 b z] at e; cases e) (kp b o e)
  have wide : ∀ b ∈ wr, b ∈ S :: wr := fun b z => List.mem_cons_of_mem _ z
  intro m
  induction m with
  | zero =>
    intro i s e st kp ⟨L, es, ep, t, gr, g⟩ hR
    have ei : i = ks.length := e
    subst ei
    refine codeAny_builtin F.entry_set_update_loop ?_
    rw [Around.under_plainId F.plain_set_update_loop _]
    show wpAny _ A.in1 (pyNext (.ref I) >>= _) _ _ s
    refine wpAny_bind (W.done s _ _ st fun s' mv => ?_)
    show wpAny _ A.in1 (ret Value.none) _ _ s'
    have kp' := old mv kp
    exact wpAny_pure (hR s' L es ep t (mv.mono wide) (gr.kept (fun o q => mv.heap S o hSw q) fun p hp => isT_keep (hk p (List.mem_of_mem_take (g.sub p hp))) kp') g kp')
  | succ m ih =>
    intro i s e st kp ⟨L, es, ep, t, gr, g⟩ hR
    refine codeAny_builtin F.entry_set_update_loop ?_
    rw [Around.under_plainId F.plain_set_update_loop _]
    show wpAny _ A.in1 (pyNext (.ref I) >>= _) _ _ s
    refine wpAny_bind (W.item i s _ _ (by omega) st fun v s' hP st' mv => ?_)
    obtain ⟨p, hp, rfl⟩ := hv i v hP
    have mp := List.mem_of_getElem? hp
    have kp' := old mv kp
    have gr' : Great P w s'.heap S L es ep t := gr.kept (fun o q => mv.heap S o hSw q) fun q hq => isT_keep (hk q (List.mem_of_mem_take (g.sub q hq))) kp'
    have hx : IsT P w s'.heap p.2 p.1 := isT_keep (hk p mp) kp'
    show wpAny _ A.in1 (holding [Value.ref p.1] (setAdd S (.ref p.1)) >>= _) _ _ s'
    refine wpAny_bind (wpAny_holding ?_)
    unfold setAdd
    refine wpAny_holding (wpAny_bind (wpAny_pyHash_tuple hu hx ?_))
    refine add (s := { s' with toks := s'.toks + (p.2.length + 1) }) gr' hx hu (few_room F0 g gr.nd mp) fun b h' L' es' ep' t' sb gr2 c1 c2 => ?_
    have oth : ∀ c o, c ≠ S → s'.heap.get? c = some o → h'.get? c = some o := fun c o n q => (sb.2 c n).trans q
    have g' : Got ks (i + 1) L' := (Classical.em (p.2 ∈ L.map (·.2))).elim (fun c => by rw [c1 c]; exact g.same hp c) fun c => g.more hp (c2 c)
    have kp2 : ∀ c o, h0.get? c = some o → h'.get? c = some o := fun c o q => oth c o (fun z => by rw [z, hS0] at q; cases q) (kp' c o q)
    refine wpAny_pure ⟨plainId_quiet F.plain_set_update_loop _, ih (i + 1) _ (by omega) (W.frame _ s' _ _ st' (Nat.le_add_right _ _) fun c hc o q => oth c o (fun z => hS (by rw [← z]; exact hc)) q) kp2 ⟨L', es', ep', t', gr2, g'⟩ fun s'' L2 es2 ep2 t2 mv2 gr3 g3 kp3 => ?_⟩
    exact hR s'' L2 es2 ep2 t2 (Moved.trans W.gtrans ((mv.mono wide).then_heap (Nat.le_add_right _ _) fun c o hc q => oth c o (fun z => hc (by rw [z]; exact List.mem_cons_self)) q) mv2) gr3 g3 kp3
theorem no_obj {h : Heap} {b : Addr} (hb : h.objs.size ≤ b) : h.get? b = none := by
  cases q : h.get? b with
  | none => rfl
  | some o => exact absurd (Heap.lt_size q) (Nat.not_lt.mpr hb)
/-- set(xs) -/
theorem call_set {l : Addr} {items : Array Value} {ks : List (Addr × List Int)} {Q : Value → Shared → Prop} (F0 : Few ks) (hh : A.handled = none) (hl : s.heap.IsList l items) (hit : items.toList = ks.map fun p => Value.ref p.1) (hk : ∀ p ∈ ks, IsT P w s.heap p.2 p.1) (hu : A.units + 3 < cLine)
    (hQ : ∀ (h' : Heap) (tk : Nat) L es ep t, Great P w h' s.heap.objs.size L es ep t → Got ks ks.length L → (∀ b o, s.heap.get? b = some o → h'.get? b = some o) → Q (.ref s.heap.objs.size) { s with heap := h', toks := tk }) :
    wpAny (model P w) A (call (.type "set") [.ref l]) Q E s := by
  have hz : ks.length = items.size := by
    rw [← Array.length_toList, hit, List.length_map]
  obtain ⟨c, tl, mro⟩ := F.called_set.mro
  have made := F.called_set.made
  have sub := F.called_set.sub
  have k1 := F.called_set.notType
  have k2 := F.called_set.canCreate
  have k3 := F.typeCall_set_1 (.ref l)
  refine wpAny_call (codeAny_of_tree ?_)
  show wpAny _ _ (callAny (.type "set") _) _ _ _
  refine wpAny_pure ⟨Code.quiet_builtin _ (by decide +kernel), codeAny_builtin F.entry_type_call ?_⟩
  rw [Around.under_plain (weight_type_call_type "set" [.ref l] []) rfl]
  repeat (any_goals (first | assumption | wp_step))
  refine codeAny_mono (code_set_led1 (.ref l) (E := E) (Q₁ := fun obj s₁ => obj = .ref s.heap.objs.size ∧ s₁ = { s with heap := s.heap.push (noSet w) }) ⟨rfl, rfl⟩) fun r s₁ hr => ?_
  cases r with
  | error e => exact hr
  | ok fl =>
    cases fl with
    | ret obj =>
      obtain ⟨rfl, rfl⟩ := hr
      have hS : (s.heap.push (noSet w)).get? s.heap.objs.size = some (noSet w) := Heap.get?_push_size _ rfl
      have hT : Shared.TypeIs { s with heap := s.heap.push (noSet w) } (.ref s.heap.objs.size) "set" := ⟨_, hS, rfl⟩
      have ini := F.called_set.init.lookup
      have bnd := F.called_set.init.bind (.ref s.heap.objs.size)
      repeat (any_goals (first | assumption | wp_step))
      refine codeAny_mono (codeAny_call_builtin (R := wants (fun r s₂ => r = .none ∧ ∃ h' tk L es ep t, s₂ = { s with heap := h', toks := tk } ∧ Great P w h' s.heap.objs.size L es ep t ∧ Got ks ks.length L ∧ (∀ b o, s.heap.get? b = some o → h'.get? b = some o)) E)
        F.called_set.init.plain F.entry_set_init (check_set_init_1 hT ?_)) fun r₂ s₂ hr₂ => ?_
      · obtain ⟨ol, hol, cl, nl, dl⟩ := hl
        obtain ⟨ocls, odict, odata, oslots⟩ := ol
        dsimp only at cl dl
        subst cl
        subst dl
        have hol2 : (s.heap.push (noSet w)).get? l = some { cls := .type "list", dict := odict, data := .seq items nl, slots := oslots } := Heap.get?_push_of_some _ hol
        have l1 : (s.heap.push (noSet w)).IsList l items := ⟨_, hol2, rfl, nl, rfl⟩
        have sls := F.sub_list_set
        have slf := F.sub_list_frozenset
        have hne : (Value.type "list" == Value.type "dict") = false := by decide
        have lS : l < s.heap.objs.size := Heap.lt_size hol
        have z1 : (s.heap.push (noSet w)).objs.size = s.heap.objs.size + 1 := Heap.size_push ..
        have h3 : A.in1.in1.in1.handled = none := by simp [hh]
        unfold Builtin.«set.__init__» noKeywords Builtin.Frozenset.updateFrom
        generalize hPI : pyIter = PI
        wp_walk
        subst hPI
        refine wpAny_pyIter_list l1 ?_
        refine wpAny_bind (wpAny_runValue ?_)
        have nI : l ≠ (s.heap.push (noSet w)).objs.size := by
          rw [z1]
          exact Nat.ne_of_lt (Nat.lt_succ_of_lt lS)
        have nS : s.heap.objs.size ∉ [(s.heap.push (noSet w)).objs.size, l] := fun z => by
          rw [z1] at z
          rcases List.mem_cons.mp z with e | z
          · exact Nat.ne_of_lt (Nat.lt_succ_self _) e
          · exact Nat.ne_of_gt lS (List.mem_singleton.mp z)
        have vals : ∀ (i : Nat) (v : Value), items[i]? = some v → ∃ p, ks[i]? = some p ∧ v = .ref p.1 := fun i v e => by
          rw [← Array.getElem?_toList, hit, List.getElem?_map] at e
          obtain ⟨p, e1, e2⟩ := Option.map_eq_some_iff.mp e
          exact ⟨p, e1, e2.symm⟩
        have W := (Walks.list (prog := P) (w := w) h3 (s.heap.push (noSet w)).objs.size l nI items).toS
        rw [← hz] at W
        refine turns F0 W nS vals s.heap hk (no_obj (Nat.le_refl _)) (fun b hb => no_obj (by
            rw [List.mem_singleton.mp hb, z1]
            exact Nat.le_succ _)) hu ks.length 0 _ (Nat.zero_add _)
          ⟨⟨_, Heap.get?_push_size _ rfl, rfl, rfl⟩, l1.push _⟩ (fun b o e => Heap.get?_push_of_some _ (Heap.get?_push_of_some _ e)) ⟨[], #[], 0, _, great_new (Heap.get?_push_of_some _ hS), Got.zero ks⟩ fun s' L es ep t mv gr g kp => ?_
        obtain ⟨h', g2, d', tk', os'⟩ := s'
        obtain rfl : g2 = s.gens := mv.gens
        obtain rfl : d' = s.drawn := mv.drawn
        obtain rfl : os' = s.os := mv.os
        show wpAny _ _ _ _ _ _
        refine wpAny_pure ?_
        show wpAny _ _ (ret Value.none) _ _ _
        exact wpAny_pure ⟨rfl, h', tk', L, es, ep, t, rfl, gr, g, kp⟩
      · cases r₂ with
        | error e => exact hr₂
        | ok fl₂ =>
          cases fl₂ with
          | ret r =>
            obtain ⟨rfl, h', tk, L, es, ep, t, rfl, gr, g, kp⟩ := hr₂
            repeat (any_goals (first | assumption | wp_step))
            exact hQ _ _ _ _ _ _ gr g kp
          | _ => exact hr₂.elim
    | _ => exact hr.elim
end
end BS
/-! DN4: tuples sorted, empty ones among them. -/
namespace BS
open PySem PySem.Spec PyProof.Rows PySem.W PySem.SeqAt PySem.Calls
section
variable {prog : Program} {w : World} {A : Around} {s : Shared}
/-- the call of tuple's own __lt__ -/
theorem call_tuple_lt {E : Value → Shared → Prop} {Q : Value → Shared → Prop} {l b : Addr} {items items2 : Array Value} {e r : Nat → Bool} (hl : s.heap.IsTuple l items) (hb : s.heap.IsTuple b items2)
    (he : ∀ j (h1 : j < items.size) (h2 : j < items2.size), EqAt A.in1 s items[j] items2[j] (e j)) (hr : ∀ j (h1 : j < items.size) (h2 : j < items2.size), e j = false → RcLt A.in1 s items[j] items2[j] (r j))
    (h : Q (.bool (firstLt e r (decide (items.size < items2.size)) (List.range (min items.size items2.size)))) s) : wpAny (model prog w) A (call (.builtin "tuple.__lt__") [.ref l, .ref b]) Q E s := by
  obtain ⟨⟨c1, d1, x1, l1⟩, g1, rfl, n1, rfl⟩ := id hl
  obtain ⟨⟨c2, d2, x2, l2⟩, g2, rfl, n2, rfl⟩ := id hb
  exact call_meets F.slot_tuple_lt ⟨_, g1, rfl⟩ F.entry_tuple_lt (F.args_tuple_lt_2 _ _) (tuple_ltAt l b items items2 n1 n2 d1 d2 l1 l2 e r) ⟨g1, g2, he, hr, h⟩
theorem one_tuples {xs ys : List PyData} {a b : Value} {as bs : List Addr} {E : Value → Shared → Prop} {Q : Bool → Shared → Prop} (ra : Reads s.heap a (.tuple xs) as) (rb : Reads s.heap b (.tuple ys) bs) (h : alike (.tuple xs) (.tuple ys) = true)
    (hu : A.units + min (PyData.tuple xs).depth (PyData.tuple ys).depth < cLine) (hq : Q (dataLt (.tuple xs) (.tuple ys)) s) : wpAny (model prog w) A (oneLt' true a b) Q E s := by
  have hal : alikeAll xs ys = true := by simpa [alike] using h
  cases ra with
  | @tuple l o vs n _ _ h1 h2 h3 h4 =>
    cases rb with
    | @tuple l' o' vs' n' _ _ k1 k2 k3 k4 =>
      have n1 : vs.size = xs.length := by simpa using ReadsAll.length _ _ _ h4
      have n2 : vs'.size = ys.length := by simpa using ReadsAll.length _ _ _ k4
      rw [dataLt_tuple, ← firstLt_toks xs ys hal, ← n1, ← n2] at hq
      rw [oneLt'_eq]
      simp only [if_true]
      refine wpAny_bind (wpAny_cRoomFor (room_here hu) ?_)
      refine wpAny_bind (wpAny_callSpecialIfBound?_slot (T := "tuple") ⟨_, h1, h2⟩ F.slot_tuple_lt (call_tuple_lt (e := pairEq xs ys) (r := fun j => dataLt (xs.getD j .none) (ys.getD j .none)) ⟨_, h1, h2, _, h3⟩ ⟨_, k1, k2, _, k3⟩ (fun j j1 j2 => ?_) (fun j j1 j2 hj => ?_) (wpAny_truthy_bool hq)))
      · exact eqAt_alikeAll xs ys A.in1 s vs.toList vs'.toList _ _ h4 k4 hal (room_in hu) j (by rw [Array.length_toList]; exact j1) (by rw [Array.length_toList]; exact j2)
      · exact rcLt_alikeAll xs ys A.in1 s vs.toList vs'.toList _ _ h4 k4 hal (room_in hu) j (by rw [Array.length_toList]; exact j1) (by rw [Array.length_toList]; exact j2) hj
/-- a tuple's first item, if it has one -/
def HasFst (h : Heap) (v : Value) (f : Option Value) : Prop := ∃ a o xs n, v = .ref a ∧ h.get? a = some o ∧ o.cls = .type "tuple" ∧ o.data = .seq xs n ∧ xs[0]? = f
theorem firsts_run {M : Model} {E : Value → Shared → Prop} : ∀ {vs : List Value} {fs : List (Option Value)} {Q : List (Option Value) → Shared → Prop}, EachIs (HasFst s.heap) vs fs → Q fs s → wpAny M A (vs.mapM firstOfTuple') Q E s
  | _, _, _, .nil, h => by
    rw [List.mapM_nil]
    exact wpAny_pure h
  | _, _, Q, .cons (b := f) (bs := fs) ⟨a, o, xs, n, e, ho, hc, hd, hf⟩ t, h => by
    subst e
    rw [List.mapM_cons, kas_first_eq]
    refine wpAny_bind (wpAny_bind (Looks.here (show Looks M s.heap (typeOf (.ref a)) o.cls from (Looks.ld ho).andThen .now) ?_))
    rw [hc, if_neg (by decide)]
    refine wpAny_bind (listItems_at ho hd (wpAny_pure ?_))
    rw [hf]
    exact wpAny_bind (firsts_run (Q := fun r s' => wpAny M A (pure (f :: r)) Q E s') t (wpAny_pure h))
theorem firsts_of {h : Heap} : ∀ {vs : List Value} {ds : List PyData}, EachIs (fun v d => ∃ as, Reads h v d as) vs ds → (∀ d ∈ ds, ∃ xs, d = .tuple xs) →
    ∃ fs : List (Option Value), EachIs (HasFst h) vs fs ∧ fs.length = ds.length ∧ ∀ (i : Nat) xs, ds[i]? = some (.tuple xs) → ∃ f, fs[i]? = some f ∧ (f.isSome = !xs.isEmpty)
  | _, _, .nil, _ => ⟨[], .nil, rfl, fun i xs e => by simp at e⟩
  | _, _, .cons (b := d) ⟨as, r⟩ t, ht => by
    obtain ⟨fs, h1, h2, h3⟩ := firsts_of t fun d hd => ht d (List.mem_cons_of_mem _ hd)
    obtain ⟨ys, rfl⟩ := ht d List.mem_cons_self
    cases r with
    | @tuple a o xs n _ _ ho hc hd hr =>
      have ln : xs.size = ys.length := by simpa using ReadsAll.length _ _ _ hr
      refine ⟨xs[0]? :: fs, .cons ⟨a, o, xs, n, rfl, ho, hc, hd, rfl⟩ h1, by rw [List.length_cons, List.length_cons, h2], fun i zs e => ?_⟩
      cases i with
      | zero =>
        have e1 : PyData.tuple ys = .tuple zs := Option.some.inj e
        injection e1 with e1
        subst e1
        refine ⟨xs[0]?, rfl, ?_⟩
        cases ys with
        | nil => simp [Array.getElem?_eq_none (show xs.size ≤ 0 from Nat.le_of_eq ln)]
        | cons y ys =>
          have : 0 < xs.size := by rw [ln]; exact Nat.succ_pos _
          simp [this]
      | succ i => exact h3 i zs e
theorem looks_tuple {M : Model} {h : Heap} {v : Value} {f : Option Value} (e : HasFst h v f) : Looks M h (typeOf v) (.type "tuple") := by
  obtain ⟨a, o, xs, n, rfl, ho, hc, hd, hf⟩ := e
  exact hc ▸ (Looks.ld ho).andThen .now
/-- tuples of alike items can be sorted -/
theorem sorts_tups {vs : List Value} {ds : List PyData} (e : EachIs (fun v d => ∃ as, Reads s.heap v d as) vs ds) (hal : AllAlike ds) (ht : ∀ d ∈ ds, ∃ xs, d = .tuple xs) (hu : ∀ d, d ∈ ds → A.units + d.depth < cLine) : SortsAt prog w A s (dataKind s.heap ds) vs := by
  rcases Classical.em (∀ d ∈ ds, ∃ x r, d = .tuple (x :: r)) with full | gap
  · exact SortsAt.data e hal (.inl full) hu
  · obtain ⟨d0, hd0, hg⟩ : ∃ d, d ∈ ds ∧ d = .tuple [] := by
      rcases Classical.em (∃ d, d ∈ ds ∧ d = .tuple []) with z | z
      · exact z
      · refine absurd (fun d hd => ?_) gap
        obtain ⟨xs, rfl⟩ := ht d hd
        cases xs with
        | nil => exact absurd ⟨_, hd, rfl⟩ z
        | cons x r => exact ⟨x, r, rfl⟩
    obtain ⟨fs, f1, f2, f3⟩ := firsts_of e ht
    obtain ⟨i0, hi0, e0⟩ := List.getElem_of_mem hd0
    obtain ⟨g, hg1, hg2⟩ := f3 i0 [] (by rw [List.getElem?_eq_getElem hi0, e0, hg])
    have notall : ¬ (fs.toArray.all fun x => x.isSome) = true := fun z => by
      simp only [List.all_toArray, List.all_eq_true] at z
      have := z g (List.mem_of_getElem? hg1)
      rw [hg2] at this
      cases this
    have types : ∀ v ∈ vs, Looks (model prog w) s.heap (typeOf v) (.type "tuple") := fun v hv => by
      obtain ⟨f, hf, q⟩ := f1.left v hv
      exact looks_tuple q
    have tupOf : ∀ {v k}, (dataKind s.heap ds).keyOf v = some k → ∃ xs as, .tuple xs ∈ ds ∧ Reads s.heap v (.tuple xs) as ∧ k = keyToks (.tuple xs) := fun {v k} q => by
      obtain ⟨d, as, hd, r, rfl⟩ := dataKind_inv q
      obtain ⟨xs, rfl⟩ := ht d hd
      exact ⟨xs, as, hd, r, rfl⟩
    refine ⟨fun v hv => ?_, ?_⟩
    · obtain ⟨d, hd, as, r⟩ := e.left v hv
      exact ⟨_, dataKind_some hal hd r⟩
    · by_cases c : (fs.toArray[0]?.bind id).isSome = true
      · refine ⟨general', fun E x y a b Q ha hb hq => ?_, fun h2 E Q hq => ?_⟩
        · obtain ⟨xs, as, hx, rx, rfl⟩ := tupOf ha
          obtain ⟨ys, bs, hy, ry, rfl⟩ := tupOf hb
          show wpAny _ _ (oneLt' false x y) _ _ _
          exact oneLt_alike (f := false) (fun z => nomatch z) rx ry (hal _ hx _ hy) (fun z => nomatch z) (Nat.lt_of_le_of_lt (Nat.add_le_add_left (Nat.min_le_left _ _) _) (hu _ hx)) hq
        · rw [keyKind'_eq, List.mapM_toArray, map_eq_pure_bind]
          refine wpAny_bind (wpAny_bind (firsts_run f1 (wpAny_pure ?_)))
          rw [if_neg notall, if_pos c]
          exact wpAny_pure hq
      · refine ⟨oneType', fun E x y a b Q ha hb hq => ?_, fun h2 E Q hq => ?_⟩
        · obtain ⟨xs, as, hx, rx, rfl⟩ := tupOf ha
          obtain ⟨ys, bs, hy, ry, rfl⟩ := tupOf hb
          rw [keyLt'_oneType]
          exact one_tuples rx ry (hal _ hx _ hy) (Nat.lt_of_le_of_lt (Nat.add_le_add_left (Nat.min_le_left _ _) _) (hu _ hx)) hq
        · rw [keyKind'_eq, List.mapM_toArray, map_eq_pure_bind]
          refine wpAny_bind (wpAny_bind (firsts_run f1 (wpAny_pure ?_)))
          rw [if_neg notall, if_neg c, oneTypeOnly'_eq, List.mapM_toArray, map_eq_pure_bind]
          refine wpAny_bind (wpAny_bind (wpAny_bind (kas_mapM (r := Value.type "tuple") _ (fun v hv Q' hq' => (types v hv).here hq') (wpAny_pure ?_))))
          obtain ⟨v1, r, rfl⟩ : ∃ v1 r, vs = v1 :: r := by
            cases vs with
            | nil => simp at h2
            | cons v1 r => exact ⟨v1, r, rfl⟩
          have a1 : ((List.map (fun _ => Value.type "tuple") (v1 :: r)).toArray.all fun x => x == Value.type "tuple") = true := by
            simp only [List.all_toArray, List.all_map, List.all_eq_true]
            intro _ _
            rfl
          have a0 : (List.map (fun _ => Value.type "tuple") (v1 :: r)).toArray[0]? = some (Value.type "tuple") := by simp
          rw [a0]
          simp only [a1, if_true]
          exact wpAny_pure (wpAny_pure hq)
end
end BS
/-! DM1: len(set(xs)), xs a list of tuples of whole numbers. -/
namespace DL
open PySem PySem.Spec PyProof.Rows L2
/-- each once -/
def dd {α : Type} [DecidableEq α] : List α → List α
  | [] => []
  | k :: r => if k ∈ r then dd r else k :: dd r
theorem dd_mem {α : Type} [DecidableEq α] {a : α} : ∀ {l : List α}, a ∈ dd l ↔ a ∈ l
  | [] => Iff.rfl
  | k :: r => by
    unfold dd
    by_cases h : k ∈ r
    · rw [if_pos h, dd_mem, List.mem_cons]
      exact ⟨.inr, fun z => z.elim (fun e => e ▸ h) id⟩
    · rw [if_neg h, List.mem_cons, List.mem_cons, dd_mem]
theorem dd_nodup {α : Type} [DecidableEq α] : ∀ l : List α, (dd l).Nodup
  | [] => List.nodup_nil
  | k :: r => by
    unfold dd
    by_cases h : k ∈ r
    · rw [if_pos h]; exact dd_nodup r
    · rw [if_neg h]; exact List.nodup_cons.mpr ⟨fun z => h (dd_mem.mp z), dd_nodup r⟩
section
variable {X : Cx} {G : Gx}
/-! the mirror -/
def intL : List P → Option (List Int)
  | [] => some []
  | .int i :: r => (intL r).map (i :: ·)
  | _ => none
def tupL : P → Option (List Int)
  | .tuple xs => intL xs
  | _ => none
def tupsL : List P → Option (List (List Int))
  | [] => some []
  | p :: r => (tupL p).bind fun k => (tupsL r).map (k :: ·)
theorem intL_ok {H : Hp} : ∀ {vs : List V} {ps : List P} {is : List Int}, RepL H vs ps → intL ps = some is → vs = is.map V.int
  | _, _, is, .nil, h => by cases h; rfl
  | _, _, is, .cons (p := p) a b, h => by
    cases p with
    | int i =>
      obtain ⟨js, h1, h2⟩ := Option.map_eq_some_iff.mp (show (intL _).map _ = _ from h)
      subst h2
      cases a
      rw [List.map_cons, intL_ok b h1]
    | _ => cases h
end
end DL
/-! DN5: sorted(set(xs)) and len(set(xs)), xs a list of tuples of whole numbers, up to 4914 unlike ones. -/
namespace BS
open PySem PySem.Spec PyProof.Rows L2 PySem.W PySem.Calls
/-- each once, rising -/
def sortT (kss : List (List Int)) : List (List Int) := (DL.dd kss).mergeSort fun a b => decide (a ≤ b)
theorem leL_trans (a b c : List Int) (h : decide (a ≤ b) = true) (k : decide (b ≤ c) = true) : decide (a ≤ c) = true :=
  decide_eq_true (List.le_trans (of_decide_eq_true h) (of_decide_eq_true k))
theorem leL_total (a b : List Int) : (decide (a ≤ b) || decide (b ≤ a)) = true := by
  rw [Bool.or_eq_true, decide_eq_true_eq, decide_eq_true_eq]
  exact List.le_total a b
theorem rise_of {ks : List (List Int)} (nd : ks.Nodup) : (ks.mergeSort fun a b => decide (a ≤ b)).Pairwise (· < ·) := by
  have p := List.pairwise_mergeSort leL_trans leL_total ks
  have n : (ks.mergeSort fun a b => decide (a ≤ b)).Nodup := (List.mergeSort_perm _ _).nodup_iff.mpr nd
  refine (List.pairwise_and_iff.mpr ⟨p, n⟩).imp fun {a b} h => ?_
  obtain ⟨h1, h2⟩ := h
  have h1 := of_decide_eq_true h1
  have h2 : a ≠ b := h2
  rcases Classical.em (a < b) with c | c
  · exact c
  · exact absurd (List.le_antisymm h1 (List.not_lt.mp c)) h2
theorem sortT_rise (kss : List (List Int)) : (sortT kss).Pairwise (· < ·) := rise_of (DL.dd_nodup kss)
theorem sortT_mem {kss : List (List Int)} {k : List Int} : k ∈ sortT kss ↔ k ∈ kss := by
  unfold sortT
  rw [List.mem_mergeSort, DL.dd_mem]
theorem sortT_nodup (kss : List (List Int)) : (sortT kss).Nodup := (sortT_rise kss).imp fun {a b} h (e : a = b) => List.lt_irrefl b (e ▸ h)
theorem sortT_is {kss xs : List (List Int)} (h : xs.Pairwise (· < ·)) (hm : ∀ k, k ∈ xs ↔ k ∈ kss) : xs = sortT kss :=
  DL.rising_eq (r := fun a b : List Int => a < b) (fun a h => List.lt_irrefl a h) (fun a b c h k => List.lt_trans h k) h (sortT_rise kss) fun k => by rw [hm, sortT_mem]
theorem few_dd {ks : List (Addr × List Int)} (h : (DL.dd (ks.map (·.2))).length ≤ 4914) : Few ks := fun l nd hs => by
  have : ∀ (xs ys : List (List Int)), xs.Nodup → (∀ x ∈ xs, x ∈ ys) → xs.length ≤ ys.length := by
    intro xs
    induction xs with
    | nil => intro _ _ _; exact Nat.zero_le _
    | cons x xs ih =>
      intro ys n s
      rw [List.nodup_cons] at n
      have m := s x List.mem_cons_self
      have := ih (ys.erase x) n.2 fun y hy => (List.mem_erase_of_ne (fun e => n.1 (by rw [← e]; exact hy))).mpr (s y (List.mem_cons_of_mem _ hy))
      rw [List.length_erase_of_mem m] at this
      have := List.length_pos_of_mem m
      rw [List.length_cons]
      omega
  exact Nat.le_trans (this l _ nd fun k hk => DL.dd_mem.mpr (hs k hk)) h
def encT (p : Addr × List Int) : PyData := .tuple (p.2.map .int)
theorem le_encT : dataLe false encT = fun p q => decide (p.2 ≤ q.2) := by
  funext p q
  show (!dataLt (.tuple (q.2.map .int)) (.tuple (p.2.map .int))) = _
  rw [dataLt_tuple]
  show (!rowLt (q.2.map .int) (p.2.map .int)) = _
  rw [dataLt_ints]
  by_cases h : q.2 < p.2
  · have : ¬ p.2 ≤ q.2 := fun r => List.not_lt.mpr r h
    simp [h, this]
  · have : p.2 ≤ q.2 := List.not_lt.mp h
    simp [h, this]
section
variable {P : Program} {w : World} {A : Around} {E : Value → Shared → Prop} {s : Shared}
theorem reads_items {h : Heap} : ∀ {k : List Int} {vs : List Value}, ItemsAre (intKind P w) k vs → ReadsAll h vs (k.map .int) [] := by
  intro k vs e
  induction e with
  | nil => exact .nil
  | @cons k0 v ks vs h1 _ ih =>
    obtain ⟨t, rfl⟩ := Value.isInt_shape h1
    exact ReadsAll.cons (as := []) (.int k0 t) ih
theorem reads_tup {h : Heap} {p : Addr × List Int} (x : IsT P w h p.2 p.1) : Reads h (.ref p.1) (encT p) [] := by
  obtain ⟨o, items, n, ho, hc, hd, hi⟩ := x
  exact .tuple ho hc hd (reads_items hi)
theorem alike_encT (p q : Addr × List Int) : alike (encT p) (encT q) = true := by
  show alike (.tuple _) (.tuple _) = true
  rw [alike]
  exact alike_ints _ _
theorem depth_encT (p : Addr × List Int) : (encT p).depth = 1 := by
  show (PyData.tuple (p.2.map .int)).depth = 1
  rw [PyData.depth, depth_ints]
/-- sorted of a great set -/
theorem sorted_great {a : Addr} {L : List (Addr × List Int)} {es : Array (Int × Value)} {ep : Nat} {t : SetTable} {Q : Value → Shared → Prop} (R : Great P w s.heap a L es ep t) (hh : A.handled = none) (hu : A.units + 4 < cLine) (hn : L.length < 4096)
    (hQ : ∀ s' p (out : Array Value) (c : Nat) (L' : List (Addr × List Int)), (∀ b o, s.heap.get? b = some o → s'.heap.get? b = some o) → s'.gens = s.gens → s'.os = s.os → s.heap.objs.size ≤ p →
      s'.heap.get? p = some (seqObj "list" out c) → out.toList = L'.map (fun q => Value.ref q.1) → L'.Perm L → L'.map (·.2) = sortT (L.map (·.2)) → Q (.ref p) s') :
    wpAny (model P w) A (call (.builtin "sorted") [.ref a]) Q E s := by
  obtain ⟨o, ho, hex, hd⟩ := R.ob
  have hsz := R.size
  refine Calls.call_function_entry kind_sorted plain_sorted entry_sorted (args_sorted1 _) ?_
  unfold Builtin.«sorted»
  refine wpAny_bind (m := checkCount "sorted" 1 1 _) (wpAny_pure ?_)
  refine wpAny_bind (collect_set (A := A.in1) hh ⟨o, ho, hex.1, hd⟩ R.fits (by unfold scanBound; omega) R.tab.ris R.led fun s1 vs k1 hz g1 o1 pm => ?_)
  have er : es.toList.map (·.2) = L.map fun q => Value.ref q.1 := by
    rw [R.rows, L2.rowsOf, List.map_map]
    rfl
  rw [er] at pm
  -- the members in the order in which the set gives them
  obtain ⟨L1, rfl, pl⟩ : ∃ L1 : List (Addr × List Int), vs = L1.map (fun q => Value.ref q.1) ∧ L1.Perm L := by
    have key : ∀ {xs ys : List Value}, xs.Perm ys → ∀ M : List (Addr × List Int), ys = M.map (fun q => Value.ref q.1) → ∃ L1 : List (Addr × List Int), xs = L1.map (fun q => Value.ref q.1) ∧ L1.Perm M := by
      intro xs ys p
      induction p with
      | nil => intro M e; cases M with
        | nil => exact ⟨[], rfl, .nil⟩
        | cons m M => cases e
      | @cons x xs ys p ih =>
        intro M e
        cases M with
        | nil => cases e
        | cons m M =>
          injection e with e1 e2
          obtain ⟨L1, e3, p3⟩ := ih M e2
          exact ⟨m :: L1, by rw [List.map_cons, e3, e1], p3.cons m⟩
      | @swap x y xs =>
        intro M e
        cases M with
        | nil => cases e
        | cons m M => cases M with
          | nil => cases e
          | cons m2 M =>
            injection e with e1 e2
            injection e2 with e2 e3
            exact ⟨m2 :: m :: M, by rw [e1, e2, e3]; rfl, .swap m m2 M⟩
      | trans p1 p2 ih1 ih2 =>
        intro M e
        obtain ⟨L2, e2, q2⟩ := ih2 M e
        obtain ⟨L3, e3, q3⟩ := ih1 L2 e2
        exact ⟨L3, e3, q3.trans q2⟩
    exact key pm L rfl
  have l1 : L1.length = L.length := pl.length_eq
  have hl : (L1.map fun q => Value.ref q.1).length ≤ sizeLine := by rw [List.length_map, sizeLine_eq, l1]; omega
  refine wpAny_bind (wpAny_newList ?_ hl)
  have hoL : (s1.heap.push (seqObj "list" (L1.map fun q => Value.ref q.1).toArray 0)).get? s1.heap.objs.size = some (seqObj "list" (L1.map fun q => Value.ref q.1).toArray 0) := Heap.get?_push_size _ rfl
  have old : ∀ b u, s.heap.get? b = some u → (s1.heap.push (seqObj "list" (L1.map fun q => Value.ref q.1).toArray 0)).get? b = some u ∧ b ≠ s1.heap.objs.size := fun b u e =>
    ⟨Heap.get?_push_of_some _ (k1 b u e), Nat.ne_of_lt (Heap.lt_size (k1 b u e))⟩
  have rd : ∀ q ∈ L1, Reads (sortingHeap (s1.heap.push (seqObj "list" (L1.map fun q => Value.ref q.1).toArray 0)) s1.heap.objs.size (L1.map fun q => Value.ref q.1)) (.ref q.1) (encT q) [] := fun q hq => by
    obtain ⟨o2, it2, n2, g2, r2⟩ := R.tup q (pl.mem_iff.mp hq)
    have := old _ _ g2
    exact reads_tup (P := P) (w := w) ⟨o2, it2, n2, sortingHeap_old this.2 this.1, r2⟩
  have each : ∀ M : List (Addr × List Int), EachIs (fun (v : Value) (q : Addr × List Int) => v = Value.ref q.1) (M.map fun q => Value.ref q.1) M := by
    intro M
    induction M with
    | nil => exact .nil
    | cons m M ih => exact .cons rfl ih
  have eachR : EachIs (fun v b => ∃ as, Reads (sortingHeap (s1.heap.push (seqObj "list" (L1.map fun q => Value.ref q.1).toArray 0)) s1.heap.objs.size (L1.map fun q => Value.ref q.1)) v (encT b) as) (L1.map fun q => Value.ref q.1) L1 := (each_mem (each L1)).mono fun v q ⟨e, m⟩ => by
    subst e
    exact ⟨[], rd q m⟩
  have hal : AllAlike (L1.map encT) := AllAlike.of alike_encT
  refine wpAny_bind (wpAny_holding (wpAny_call_entry slot_list_sort ⟨_, hoL, rfl⟩ entry_list_sort (list_sort_vals (s := { s1 with heap := s1.heap.push (seqObj "list" (L1.map fun q => Value.ref q.1).toArray 0) }) (κ := dataKind (sortingHeap (s1.heap.push (seqObj "list" (L1.map fun q => Value.ref q.1).toArray 0)) s1.heap.objs.size (L1.map fun q => Value.ref q.1)) (L1.map encT)) hoL
    (sorts_tups (each_map (R := fun v d => ∃ as, Reads (sortingHeap (s1.heap.push (seqObj "list" (L1.map fun q => Value.ref q.1).toArray 0)) s1.heap.objs.size (L1.map fun q => Value.ref q.1)) v d as) encT eachR) hal (fun d hd => ?_) (fun d hd => ?_)) hl ⟨.none, rfl, ?_⟩) (args_list_sort _)))
  · obtain ⟨q, _, rfl⟩ := List.mem_map.mp hd
    exact ⟨_, rfl⟩
  · obtain ⟨q, _, rfl⟩ := List.mem_map.mp hd
    rw [depth_encT]
    show A.units + 1 + 1 + 1 < cLine
    omega
  · have res := sortVals_data (R := fun (v : Value) (q : Addr × List Int) => v = Value.ref q.1) false (each L1) eachR hal
    rw [le_encT] at res
    have back : ∀ {xs : List Value} {M : List (Addr × List Int)}, EachIs (fun (v : Value) (q : Addr × List Int) => v = Value.ref q.1) xs M → xs = M.map fun q => Value.ref q.1 := by
      intro xs M e
      induction e with
      | nil => rfl
      | cons h _ ih => rw [List.map_cons, h, ih]
    have eo := back res
    obtain ⟨c, hc⟩ := sortedHeap_at (vs := L1.map fun q => Value.ref q.1) (out := (sortVals (dataKind (sortingHeap (s1.heap.push (seqObj "list" (L1.map fun q => Value.ref q.1).toArray 0)) s1.heap.objs.size (L1.map fun q => Value.ref q.1)) (L1.map encT)) false (L1.map fun q => Value.ref q.1) (L1.map fun q => Value.ref q.1)).toArray) hoL
    refine wpAny_pure ⟨_, rfl, hQ _ s1.heap.objs.size _ c (L1.mergeSort fun p q => decide (p.2 ≤ q.2)) (fun b u e => ?_) g1 o1 hz hc eo ((List.mergeSort_perm _ _).trans pl) ?_⟩
    · show (sortedHeap (s1.heap.push (seqObj "list" (L1.map fun q => Value.ref q.1).toArray 0)) s1.heap.objs.size _ _).get? b = some u
      rw [sortedHeap_old (old b u e).2 (Heap.lt_size (old b u e).1)]
      exact (old b u e).1
    · have e1 : (L1.mergeSort fun p q => decide (p.2 ≤ q.2)).map (·.2) = (L1.map (·.2)).mergeSort fun a b => decide (a ≤ b) :=
        List.map_mergeSort (r := fun p q : Addr × List Int => decide (p.2 ≤ q.2)) (s := fun a b : List Int => decide (a ≤ b)) (f := fun p : Addr × List Int => p.2) (fun _ _ _ _ => rfl)
      rw [e1]
      refine sortT_is (rise_of ((pl.map (·.2)).nodup_iff.mpr R.nd)) fun k => ?_
      rw [List.mem_mergeSort, (pl.map (·.2)).mem_iff]
end
end BS
/-! DN6: sorted(set(xs)), len(set(xs)) of tuples as rules of the walk, up to 1228 unlike ones; sorted(set(t)) of a tuple of numbers. -/
namespace DL
open PySem PySem.Spec PyProof.Rows L2
def tupP (k : List Int) : P := .tuple (k.map .int)
theorem tupsL_rep {K : PySem.W.Frag} {H : Hp} : ∀ {vs : List V} {ps : List P} {kss : List (List Int)}, RepL H vs ps → tupsL ps = some kss → ∃ ks : List (Addr × List Int), vs = ks.map (fun p => V.ref p.1) ∧ (∀ p ∈ ks, SqT K H p.1 (p.2.map V.int) ∧ Rep H (.ref p.1) (tupP p.2)) ∧ ks.map (·.2) = kss
  | _, _, kss, .nil, h => by cases h; exact ⟨[], rfl, (fun p hp => by cases hp), rfl⟩
  | _, _, kss, .cons (p := p) a b, h => by
    obtain ⟨k, h1, h⟩ := Option.bind_eq_some_iff.mp (show (tupL p).bind _ = _ from h)
    obtain ⟨js, h2, h3⟩ := Option.map_eq_some_iff.mp h
    subst h3
    obtain ⟨ks, e1, e2, e3⟩ := tupsL_rep (K := K) b h2
    cases p with
    | tuple xs =>
      have ex : xs = k.map .int := by
        have key : ∀ (xs : List P) (k : List Int), intL xs = some k → xs = k.map .int := by
          intro xs
          induction xs with
          | nil => intro k e; cases e; rfl
          | cons x xs ih =>
            intro k e
            cases x with
            | int i =>
              obtain ⟨ms, e1, e2⟩ := Option.map_eq_some_iff.mp (show (intL xs).map _ = _ from e)
              rw [← e2, List.map_cons, ← ih ms e1]
            | _ => cases e
        exact key xs k h1
      have a2 := a
      cases a with
      | tup q1 q2 =>
        rename_i t us
        have e := intL_ok q2 (show intL xs = some k from h1)
        subst e
        refine ⟨(t, k) :: ks, by rw [List.map_cons, e1], fun p hp => ?_, by rw [List.map_cons, e3]⟩
        rcases List.mem_cons.mp hp with rfl | hp
        · exact ⟨.inl (.inl q1), by rw [ex] at a2; exact a2⟩
        · exact e2 p hp
    | _ => cases h1
section
variable {X : Cx} {G : Gx}
def tSortSetT (K : PySem.W.Frag) (ta : TE) : TE := fun σ H Q => ta σ H fun x H1 => ∃ (l : Addr) (ks : List (Addr × List Int)), x = V.ref l ∧ SqL K H1 l (ks.map fun p => V.ref p.1) ∧ (∀ p ∈ ks, SqT K H1 p.1 (p.2.map V.int)) ∧ (dd (ks.map (·.2))).length ≤ 1228 ∧
  ∀ (p : Addr) (L' : List (Addr × List Int)), H1 p = none → (∀ q ∈ L', q ∈ ks) → L'.map (·.2) = BS.sortT (ks.map (·.2)) → Q (.ref p) (upd H1 p (.lst (L'.map fun q => V.ref q.1)))
theorem nd_sub {α : Type} [DecidableEq α] : ∀ (xs ys : List α), xs.Nodup → (∀ x ∈ xs, x ∈ ys) → xs.length ≤ ys.length
  | [], _, _, _ => Nat.zero_le _
  | x :: xs, ys, n, s => by
    rw [List.nodup_cons] at n
    have m := s x List.mem_cons_self
    have := nd_sub xs (ys.erase x) n.2 fun y hy => (List.mem_erase_of_ne (fun e => n.1 (by rw [← e]; exact hy))).mpr (s y (List.mem_cons_of_mem _ hy))
    rw [List.length_erase_of_mem m] at this
    have := List.length_pos_of_mem m
    rw [List.length_cons]
    omega
theorem got_keys {ks L : List (Addr × List Int)} (g : Got ks ks.length L) : (∀ q ∈ L, q ∈ ks) ∧ ∀ k, k ∈ L.map (·.2) ↔ k ∈ ks.map (·.2) := by
  have h1 : ∀ q ∈ L, q ∈ ks := fun q hq => List.mem_of_mem_take (g.sub q hq)
  refine ⟨h1, fun k => ⟨fun z => ?_, fun z => ?_⟩⟩
  · obtain ⟨p, hp, rfl⟩ := List.mem_map.mp z
    exact List.mem_map_of_mem (h1 p hp)
  · obtain ⟨p, hp, rfl⟩ := List.mem_map.mp z
    exact g.all p (by rw [List.take_length]; exact hp)
theorem pe_sortSetT {a : Expr} {ta : TE} {p p2 q pos : Pos} (hc : X.calm = true) (hu : X.A.units + 65 < cLine) (hg : Gl X "sorted") (hm : X.mg "sorted" = none) (hg2 : Gl X "set") (hm2 : X.mg "set" = none) (ha : PE X a ta)
    (na : starEach [a] X.env = (false, eval a X.env) :: starEach [] X.env := by rfl) (ns : starEach [.Call (.Name "set" p2) [a] [] q] X.env = (false, eval (.Call (.Name "set" p2) [a] [] q) X.env) :: starEach [] X.env := by rfl) (hpl : (backTo pos (starEach [] X.env)).any (·.1) = false := by rfl) :
    PE X (.Call (.Name "sorted" p) [.Call (.Name "set" p2) [a] [] q] [] pos) (tSortSetT X.K ta) := by
  refine ⟨fun pins s σ H Q I h => ?_⟩
  refine wpAny_Call_Name_kw (ld_blt I hg hm rfl ?_)
  refine PyProof.Rows.callWith_builtin1 ?_ ns hpl
  rw [ns]
  show wpAny _ _ (spliced ((false, eval (.Call (.Name "set" p2) [a] [] q) X.env) :: backTo pos (starEach [] X.env))) _ _ s
  refine Calls.spliced_cons ?_
  refine wpAny_Call_Name_kw (ld_blt I hg2 hm2 rfl ?_)
  refine PyProof.Rows.callWith_type1 ?_ na rfl
  rw [na]
  show wpAny _ _ (spliced ((false, eval a X.env) :: backTo q (starEach [] X.env))) _ _ s
  refine Calls.spliced_cons (thn (ha.run pins s σ H _ I h) fun v s1 ⟨x, H1, I1, r1, q1⟩ => ?_)
  obtain ⟨l, ks, rfl, hl, hk, hf, q1⟩ := q1
  cases r1
  obtain ⟨its, rv, pl, hz⟩ := I1.list hl
  refine Calls.spliced_nil ?_
  refine BS.call_set (P := X.prog) (w := X.w) (BS.few_dd (Nat.le_trans hf (by decide))) (I1.ok.hd hc) pl.isList (by simpa using refs_of_vals rv) (fun p hp => I1.isT (hk p hp)) (by omega) fun h' tk L es ep t R g k => ?_
  obtain ⟨g1, g2⟩ := got_keys g
  have ln : L.length ≤ 1228 := by
    have := nd_sub (L.map (·.2)) (dd (ks.map (·.2))) R.nd fun k hk => dd_mem.mpr ((g2 k).mp hk)
    rw [List.length_map] at this
    omega
  refine Calls.spliced_nil ?_
  refine BS.sorted_great (s := { s1 with heap := h', toks := tk }) R (I1.ok.hd hc) (by omega) (by omega) fun s' b out c L' k2 g3 o2 hp hg4 hout pm hk2 => ?_
  have I2 : Inv X pins σ H1 { s1 with heap := h', toks := tk } := I1.kept k
  have hn : H1 b = none := I2.hok.fresh hp
  have hlen : (L'.map fun q => V.ref q.1).length ≤ sizeLine := by rw [List.length_map, pm.length_eq, sizeLine_eq]; omega
  have hv : Vals (L'.map fun q => V.ref q.1) out.toList := by rw [hout]; exact vals_of_refs L'
  have J : Inv X pins σ (upd H1 b (.lst (L'.map fun q => V.ref q.1))) { ({ s1 with heap := h', toks := tk } : Shared) with heap := s'.heap, gens := s'.gens, drawn := s'.drawn, toks := s'.toks } :=
    I2.call (ch := []) (Un.laid k2 hp hn) (I2.hok.laid k2 hp ⟨hlen, out.toList, c, hv, hg4⟩) (by rw [g3]; exact I2.bare) (fun _ z => nomatch z)
  have e : s' = { s1 with heap := s'.heap, gens := s'.gens, drawn := s'.drawn, toks := s'.toks } := by
    cases s'
    cases s1
    cases o2
    rfl
  rw [e]
  refine ⟨.ref b, _, J, rfl, q1 b L' hn (fun q hq => g1 q (pm.mem_iff.mp hq)) ?_⟩
  rw [hk2]
  exact BS.sortT_is (BS.sortT_rise _) fun k => by rw [BS.sortT_mem, g2]
/-- sorted(set(x)), x a list of tuples of numbers -/
def gSSetT (d : D) (S : Sto) : Option (D × Sto) := (seqD d S).bind fun q => if q.1 then none else (pusOf q.2).bind fun ps => (tupsL ps).bind fun kss => if (dd kss).length ≤ 1228 then some (.pu (.list ((BS.sortT kss).map tupP)), S) else none
theorem d_sortSetT {a : Expr} {xa : Ex} {p p2 q pos : Pos} (hK : X.K = G.K) (hc : X.calm = true) (hu : X.A.units + 65 < cLine) (hg : Gl X "sorted") (hm : X.mg "sorted" = none) (hg2 : Gl X "set") (hm2 : X.mg "set" = none) (ha : DE X G a xa)
    (na : starEach [a] X.env = (false, eval a X.env) :: starEach [] X.env := by rfl) (ns : starEach [.Call (.Name "set" p2) [a] [] q] X.env = (false, eval (.Call (.Name "set" p2) [a] [] q) X.env) :: starEach [] X.env := by rfl) (hpl : (backTo pos (starEach [] X.env)).any (·.1) = false := by rfl) :
    DE X G (.Call (.Name "sorted" p) [.Call (.Name "set" p2) [a] [] q] [] pos) (x1 gSSetT xa) :=
  pe_mono (pe_gh (pe_sortSetT hc hu hg hm hg2 hm2 ha na ns hpl)) fun σ H Q hw => by
    obtain ⟨e, S, f, r, d, S', hx, q⟩ := hw
    obtain ⟨⟨d1, S1⟩, h1, hx⟩ := Option.bind_eq_some_iff.mp hx
    obtain ⟨⟨b, is⟩, h2, hx⟩ := Option.bind_eq_some_iff.mp (show (seqD d1 S1).bind _ = _ from hx)
    cases b with
    | true => cases hx
    | false =>
      obtain ⟨ps, h3, hx⟩ := Option.bind_eq_some_iff.mp (show (pusOf is).bind _ = _ from hx)
      obtain ⟨kss, h4, hx⟩ := Option.bind_eq_some_iff.mp hx
      by_cases c : (dd kss).length ≤ 1228
      · rw [if_pos c] at hx
        cases hx
        have e3 := pusOf_eq h3
        subst e3
        refine ⟨e, S, f, r, d1, _, h1, fun v H1 f1 r1 n1 p1 => ?_⟩
        obtain ⟨a, us, rfl, _, hl, hp⟩ := seq_ok r1 p1 h2
        obtain ⟨ks, e1, e2, e4⟩ := tupsL_rep (K := X.K) (rd_reps hp) h4
        subst e1
        subst e4
        refine ⟨a, ks, rfl, by rw [hK]; exact hl rfl, fun p hp => (e2 p hp).1, c, fun l L' nl hs hk => ?_⟩
        have hr : RepL H1 (L'.map fun q => V.ref q.1) ((BS.sortT (ks.map (·.2))).map tupP) := by
          have := zip_rep (H := H1) (bs := L'.map fun q => (V.ref q.1, tupP q.2)) fun b hb => by
            obtain ⟨q, hq, rfl⟩ := List.mem_map.mp hb
            exact (e2 q (hs q hq)).2
          rw [List.map_map, List.map_map] at this
          rw [← hk, List.map_map]
          exact this
        exact lst_fin nl hr fun v H' s rv => q v H' f1 (r1.same s) (n1.trans (.of s _ _)) rv
      · rw [if_neg c] at hx
        cases hx
end
end DL
/-! DN7: tuple(range(n)), tuple(range(a, b)); sorted(set(t)) of a list or a tuple of numbers. -/
namespace DL
open PySem PySem.Spec PyProof.Rows L2
section
variable {X : Cx} {G : Gx}
/-! sorted(set(x)), x a list or a tuple -/
end
end DL
/-! DN8: x in d, x not in d, where d may be empty, x a number, a text or a tuple of these. -/
namespace DL
open PySem PySem.Spec PyProof.Rows L2
section
variable {X : Cx} {G : Gx} {σ : L2.St} {H : Hp} {e : Envi} {S : Sto} {f : Nat → Addr}
end
end DL
namespace DL
open PySem PySem.Spec PyProof.Rows L2
noncomputable def b_is_part : Sx := sSeq (sRet (xA (gBls fun bs => bs.all id) (aCons (xLc (iSeq (xVar 0)) (gNm 2) (tYesX) (x2 (gIn false) (xVar 2) (xVar 1)) [2]) (aNil)))) (sNil)
noncomputable def m_is_part : List P → Option P := runP 2 3 b_is_part
theorem l_is_part {ps : List P} {p : P} (h : m_is_part ps = some p) : ps.length = 2 := runP_len h
noncomputable def b_greatest_ones : Sx := sSeq (sSet 1 (x1 gSSetT (xVar 0))) (sSeq (sRet (xLc (iSeq (xVar 1)) (gNm 2) (tNotX (tOfE (xA (gBls fun bs => bs.any id) (aCons (xLc (iSeq (xVar 1)) (gNm 3) (tYesX) (xAndX (x2 (gEq true) (xVar 2) (xVar 3)) (xA (gCallP m_is_part) (aCons (xVar 2) (aCons (xVar 3) (aNil))))) [3]) (aNil))))) (xVar 2) [2])) (sNil))
noncomputable def m_greatest_ones : List P → Option P := runP 1 4 b_greatest_ones
theorem l_greatest_ones {ps : List P} {p : P} (h : m_greatest_ones ps = some p) : ps.length = 1 := runP_len h
noncomputable def b_bound_of : Sx := sSeq (sDrop (xA (gCallP m_look_round) (aCons (xVar 0) (aNil)))) (sSeq (sSet 1 (xMeth "Taking" "takes_from" (m_Taking_takes_from 12) (xA (gMake "Taking" m_Taking___init__) (aCons (xVar 0) (aNil))) (aCons (xA gTup (aNil)) (aNil)))) (sSeq (sSet 2 (xA gLstN (aNil))) (sSeq (sSet 3 (xA gLst (aCons (xA gTup (aNil)) (aNil)))) (sSeq (sFor (iRange1 (aCons (x2 (s2 pSub) (xVar 1) (xP (.int 1))) (aNil))) (gNm 4) (sSeq (sSet 5 (xA gLstN (aNil))) (sSeq (sFor (iSeq (xVar 3)) (gNm 6) (sSeq (sExt (xVar 5) (xLcN (iSeq (xA (gCallP m_tools_of) (aCons (xVar 0) (aNil)))) (gNm 7) (tYesX) (xA (gCallP m_gone_on) (aCons (xVar 0) (aCons (xVar 7) (aCons (xVar 6) (aNil))))) [7])) (sNil))) (sFq 5 (sSeq (sSet 3 (xA (gCallP m_greatest_ones) (aCons (xVar 5) (aNil)))) (sSeq (sApp (xVar 2) (xVar 3)) (sNil))))))) (sFq 2 (sSeq (sRet (xVar 2)) (sNil)))))))
noncomputable def m_bound_of : List D → Sto → Option (D × Sto) := runF 1 8 b_bound_of
end DL
/-! KB: what a paper shows, walked: rows, what is done behind one. -/
namespace JJ
open PySem PySem.Spec PyProof.Rows L2 DL
section
variable {S : Sto} {e : Envi} {p : P} {xs : List P} {js : List Job} {n : Nat} {O F : List Nat} {t : Int}
def whole : P → Bool
  | .int _ => true
  | _ => false
open Classical in
open Classical in
open Classical in
end
end JJ
/-! KC: the bound's own paper, walked. -/
namespace JJ
open PySem PySem.Spec PyProof.Rows L2 DL
section
variable {S : Sto} {e : Envi} {p : P} {xs : List P} {js : List Job} {n : Nat} {O F : List Nat} {t : Int}
theorem part_ok {O F : List Nat} (h1 : O.length ≤ 100000) {Q : P → Prop} (q : Q (.bool (decide (∀ m ∈ O, m ∈ F)))) : W (m_is_part [tN O, tN F]) Q := by
  unfold m_is_part
  rw [w_runP]
  refine ⟨⟨rfl, by decide⟩, ?_⟩
  rw [show env0 3 (List.map D.pu [tN O, tN F]) = [some (.val (.pu (tN O))), some (.val (.pu (tN F))), none] from rfl]
  unfold b_is_part
  simp only [DL.evA, DL.evH, DL.evJ, DL.evM, DL.evQ, DL.evU, DL.evX, List.getElem?_cons_zero, List.getElem?_cons_succ, List.set_cons_zero, List.set_cons_succ, ↓reduceIte, Bool.false_eq_true, List.map_cons, List.map_nil, List.length_cons, List.length_nil, Bool.not_true, Bool.not_false]
  refine sq_it (xs := O.map nI) (.inr rfl) fun b => ?_
  refine comp_on nI (fun m => .bool (decide (m ∈ F))) O (fun m hm R r => ?_) (by unfold lim; omega) ?_
  · simp only [wipeE, DL.evA, DL.evH, DL.evJ, DL.evM, DL.evQ, DL.evU, DL.evX, List.getElem?_cons_zero, List.getElem?_cons_succ, List.set_cons_zero, List.set_cons_succ, ↓reduceIte, Bool.false_eq_true, List.map_cons, List.map_nil, List.length_cons, List.length_nil, Bool.not_true, Bool.not_false]
    refine ⟨trivial, in_nat (neg := false) (O := F) (.inr rfl) ?_⟩
    rw [if_neg Bool.false_ne_true]
    exact r
  · (try simp only [DL.evA, DL.evH, DL.evJ, DL.evM, DL.evQ, DL.evU, DL.evX, List.getElem?_cons_zero, List.getElem?_cons_succ, List.set_cons_zero, List.set_cons_succ, ↓reduceIte, Bool.false_eq_true, List.map_cons, List.map_nil, List.length_cons, List.length_nil, Bool.not_true, Bool.not_false])
    refine bls_w ?_
    rw [List.all_map, show (O.all (id ∘ fun m => decide (m ∈ F))) = decide (∀ m ∈ O, m ∈ F) by
      rw [Bool.eq_iff_iff, decide_eq_true_eq, List.all_eq_true]
      exact ⟨fun z m hm => of_decide_eq_true (z m hm), fun z m hm => decide_eq_true (z m hm)⟩]
    exact q
def zN (D : List Nat) : List Int := D.map fun n : Nat => (n : Int)
theorem zN_inj {A B : List Nat} (h : zN A = zN B) : A = B := List.map_inj_right (fun a b e => by
  have e : (a : Int) = (b : Int) := e
  omega) |>.mp h
theorem tup_z (D : List Nat) : tupP (zN D) = tN D := by
  unfold tupP zN tN
  rw [List.map_map]
  rfl
theorem intL_z : ∀ D : List Nat, intL (D.map nI) = some (zN D)
  | [] => rfl
  | n :: D => by
    show (intL (D.map nI)).map _ = _
    rw [intL_z D]
    rfl
theorem tupsL_z : ∀ X : List (List Nat), tupsL (X.map tN) = some (X.map zN)
  | [] => rfl
  | D :: X => by
    show (tupL (tN D)).bind (fun k => (tupsL (X.map tN)).map (k :: ·)) = _
    rw [tupsL_z X, show tupL (tN D) = some (zN D) from intL_z D]
    rfl
/-- unlike rows of so many jobs are few -/
theorem few_rows {X : List (List Nat)} (h10 : js.length ≤ 10) (hX : ∀ D ∈ X, Srt D ∧ Sub js D) : (dd (X.map zN)).length ≤ 1024 := by
  have h1 := nd_sub (dd (X.map zN)) ((subs js.length).map zN) (dd_nodup _) fun z hz => by
    obtain ⟨D, hD, rfl⟩ := List.mem_map.mp (dd_mem.mp hz)
    obtain ⟨s, b⟩ := hX D hD
    exact List.mem_map_of_mem (subs_all js.length D s b)
  rw [List.length_map, subs_len] at h1
  have : 2 ^ js.length ≤ 2 ^ 10 := Nat.pow_le_pow_right (by decide) h10
  omega
/-- the unlike rows, in their order -/
theorem rows_of {X : List (List Nat)} : ∃ U : List (List Nat), BS.sortT (X.map zN) = U.map zN ∧ U.Nodup ∧ (∀ D, D ∈ U ↔ D ∈ X) ∧ U.length = (dd (X.map zN)).length := by
  have key : ∀ zs : List (List Int), (∀ z ∈ zs, ∃ D ∈ X, z = zN D) → ∃ U : List (List Nat), zs = U.map zN ∧ ∀ D ∈ U, D ∈ X := by
    intro zs
    induction zs with
    | nil => intro _; exact ⟨[], rfl, fun D h => by cases h⟩
    | cons z zs ih =>
      intro h
      obtain ⟨D, hD, rfl⟩ := h z List.mem_cons_self
      obtain ⟨U, rfl, hU⟩ := ih fun z hz => h z (List.mem_cons_of_mem _ hz)
      exact ⟨D :: U, rfl, fun E hE => (List.mem_cons.mp hE).elim (fun e => e ▸ hD) (hU E)⟩
  obtain ⟨U, e, hU⟩ := key (BS.sortT (X.map zN)) fun z hz => by
    obtain ⟨D, hD, rfl⟩ := List.mem_map.mp (BS.sortT_mem.mp hz)
    exact ⟨D, hD, rfl⟩
  have nd : (U.map zN).Nodup := by rw [← e]; exact BS.sortT_nodup _
  refine ⟨U, e, (List.pairwise_map.mp nd).imp fun {a b} h e => h (by rw [e]), fun D => ⟨hU D, fun hD => ?_⟩, ?_⟩
  · have : zN D ∈ U.map zN := by rw [← e, BS.sortT_mem]; exact List.mem_map_of_mem hD
    obtain ⟨E, hE, e2⟩ := List.mem_map.mp this
    rw [← zN_inj e2]
    exact hE
  · have := congrArg List.length e
    rw [List.length_map] at this
    rw [← this]
    unfold BS.sortT
    exact List.length_mergeSort _
theorem w_ssetT {X U : List (List Nat)} (h : (dd (X.map zN)).length ≤ 1228) (e : BS.sortT (X.map zN) = U.map zN) {Q : D × Sto → Prop} (q : Q (.pu (.list (U.map tN)), S)) : W (gSSetT (.pu (.list (X.map tN))) S) Q := by
  show W ((pusOf ((X.map tN).map D.pu)).bind fun ps => (tupsL ps).bind fun kss => if (dd kss).length ≤ 1228 then some (.pu (.list ((BS.sortT kss).map tupP)), S) else none) Q
  rw [pus_map, Option.bind_some, tupsL_z, Option.bind_some, if_pos h, e, List.map_map, show (tupP ∘ zN) = tN from funext tup_z, w_some]
  exact q
theorem eqv_tN (A B : List Nat) : PyData.eqv (tN A) (tN B) = decide (A = B) := enc_n.eqv A B
/-- the greatest of some rows -/
theorem greatest_ok {X : List (List Nat)} (h10 : js.length ≤ 10) (hX : ∀ D ∈ X, Srt D ∧ Sub js D) {Q : P → Prop} (q : ∀ G : List (List Nat), G.Nodup → G.length ≤ 1024 → Grt X G → Q (.list (G.map tN))) : W (m_greatest_ones [.list (X.map tN)]) Q := by
  unfold m_greatest_ones
  rw [w_runP]
  refine ⟨⟨rfl, by decide⟩, ?_⟩
  rw [show env0 4 (List.map D.pu [.list (X.map tN)]) = [some (.val (.pu (.list (X.map tN)))), none, none, none] from rfl]
  unfold b_greatest_ones
  simp only [DL.evA, DL.evH, DL.evJ, DL.evM, DL.evQ, DL.evU, DL.evX, List.getElem?_cons_zero, List.getElem?_cons_succ, List.set_cons_zero, List.set_cons_succ, ↓reduceIte, Bool.false_eq_true, List.map_cons, List.map_nil, List.length_cons, List.length_nil, Bool.not_true, Bool.not_false]
  obtain ⟨U, u1, u2, u3, u4⟩ := rows_of (X := X)
  have few := few_rows h10 hX
  refine w_ssetT (by omega) u1 ?_
  (try simp only [DL.evA, DL.evH, DL.evJ, DL.evM, DL.evQ, DL.evU, DL.evX, List.getElem?_cons_zero, List.getElem?_cons_succ, List.set_cons_zero, List.set_cons_succ, ↓reduceIte, Bool.false_eq_true, List.map_cons, List.map_nil, List.length_cons, List.length_nil, Bool.not_true, Bool.not_false])
  have len : ∀ O ∈ U, O.length ≤ 100000 := fun O hO => by
    obtain ⟨s, b⟩ := hX O ((u3 O).mp hO)
    have := len_le (s.imp fun {a b} h => Nat.ne_of_lt h) b
    omega
  refine comp_if tN tN (fun O => !decide (∃ F ∈ U, O ≠ F ∧ ∀ m ∈ O, m ∈ F)) U (fun O hO R N r1 r2 => ?_) (by unfold lim; omega) ?_
  · simp only [wipeE, DL.evA, DL.evH, DL.evJ, DL.evM, DL.evQ, DL.evU, DL.evX, List.getElem?_cons_zero, List.getElem?_cons_succ, List.set_cons_zero, List.set_cons_succ, ↓reduceIte, Bool.false_eq_true, List.map_cons, List.map_nil, List.length_cons, List.length_nil, Bool.not_true, Bool.not_false]
    refine comp_on tN (fun F => .bool (decide (O ≠ F ∧ ∀ m ∈ O, m ∈ F))) U (fun F hF R r => ?_) (by unfold lim; omega) ?_
    · simp only [wipeE, DL.evA, DL.evH, DL.evJ, DL.evM, DL.evQ, DL.evU, DL.evX, List.getElem?_cons_zero, List.getElem?_cons_succ, List.set_cons_zero, List.set_cons_succ, ↓reduceIte, Bool.false_eq_true, List.map_cons, List.map_nil, List.length_cons, List.length_nil, Bool.not_true, Bool.not_false]
      refine ⟨trivial, ?_⟩
      refine ⟨by rw [shpN, shpN]; rfl, ?_⟩
      rw [eqv_tN]
      by_cases c : O = F
      · rw [decide_eq_true c]
        rw [decide_eq_false fun z => z.1 c] at r
        (try simp only [DL.evA, DL.evH, DL.evJ, DL.evM, DL.evQ, DL.evU, DL.evX, List.getElem?_cons_zero, List.getElem?_cons_succ, List.set_cons_zero, List.set_cons_succ, ↓reduceIte, Bool.false_eq_true, List.map_cons, List.map_nil, List.length_cons, List.length_nil, Bool.not_true, Bool.not_false])
        exact r
      · rw [decide_eq_false c]
        (try simp only [DL.evA, DL.evH, DL.evJ, DL.evM, DL.evQ, DL.evU, DL.evX, List.getElem?_cons_zero, List.getElem?_cons_succ, List.set_cons_zero, List.set_cons_succ, ↓reduceIte, Bool.false_eq_true, List.map_cons, List.map_nil, List.length_cons, List.length_nil, Bool.not_true, Bool.not_false])
        refine part_ok (len O hO) ?_
        rw [show decide (O ≠ F ∧ ∀ m ∈ O, m ∈ F) = decide (∀ m ∈ O, m ∈ F) from decide_eq_decide.mpr ⟨fun z => z.2, fun z => ⟨c, z⟩⟩] at r
        (try simp only [DL.evA, DL.evH, DL.evJ, DL.evM, DL.evQ, DL.evU, DL.evX, List.getElem?_cons_zero, List.getElem?_cons_succ, List.set_cons_zero, List.set_cons_succ, ↓reduceIte, Bool.false_eq_true, List.map_cons, List.map_nil, List.length_cons, List.length_nil, Bool.not_true, Bool.not_false])
        exact r
    · (try simp only [DL.evA, DL.evH, DL.evJ, DL.evM, DL.evQ, DL.evU, DL.evX, List.getElem?_cons_zero, List.getElem?_cons_succ, List.set_cons_zero, List.set_cons_succ, ↓reduceIte, Bool.false_eq_true, List.map_cons, List.map_nil, List.length_cons, List.length_nil, Bool.not_true, Bool.not_false])
      refine bls_w ?_
      rw [List.any_map, show (U.any (id ∘ fun F => decide (O ≠ F ∧ ∀ m ∈ O, m ∈ F))) = decide (∃ F ∈ U, O ≠ F ∧ ∀ m ∈ O, m ∈ F) by
        rw [Bool.eq_iff_iff, decide_eq_true_eq, List.any_eq_true]
        exact ⟨fun ⟨F, h1, h2⟩ => ⟨F, h1, of_decide_eq_true h2⟩, fun ⟨F, h1, h2⟩ => ⟨F, h1, decide_eq_true h2⟩⟩]
      by_cases c : ∃ F ∈ U, O ≠ F ∧ ∀ m ∈ O, m ∈ F
      · rw [decide_eq_true c] at r2 ⊢
        (try simp only [DL.evA, DL.evH, DL.evJ, DL.evM, DL.evQ, DL.evU, DL.evX, List.getElem?_cons_zero, List.getElem?_cons_succ, List.set_cons_zero, List.set_cons_succ, ↓reduceIte, Bool.false_eq_true, List.map_cons, List.map_nil, List.length_cons, List.length_nil, Bool.not_true, Bool.not_false])
        exact r2 rfl
      · rw [decide_eq_false c] at r1 ⊢
        (try simp only [DL.evA, DL.evH, DL.evJ, DL.evM, DL.evQ, DL.evU, DL.evX, List.getElem?_cons_zero, List.getElem?_cons_succ, List.set_cons_zero, List.set_cons_succ, ↓reduceIte, Bool.false_eq_true, List.map_cons, List.map_nil, List.length_cons, List.length_nil, Bool.not_true, Bool.not_false])
        exact r1 rfl
  · (try simp only [DL.evA, DL.evH, DL.evJ, DL.evM, DL.evQ, DL.evU, DL.evX, List.getElem?_cons_zero, List.getElem?_cons_succ, List.set_cons_zero, List.set_cons_succ, ↓reduceIte, Bool.false_eq_true, List.map_cons, List.map_nil, List.length_cons, List.length_nil, Bool.not_true, Bool.not_false])
    refine q _ (u2.filter _) (Nat.le_trans (List.length_filter_le ..) (by omega)) fun O => ?_
    rw [List.mem_filter, Bool.not_eq_true', decide_eq_false_iff_not, u3]
    constructor
    · rintro ⟨h1, h2⟩
      exact ⟨h1, fun E hE hne hsub => h2 ⟨E, (u3 E).mpr hE, hne, hsub⟩⟩
    · rintro ⟨h1, h2⟩
      exact ⟨h1, fun ⟨E, hE, hne, hsub⟩ => h2 E ((u3 E).mp hE) hne hsub⟩
def lastOf : List (List Nat) → List (List (List Nat)) → List (List Nat)
  | A, [] => A
  | _, B :: r => lastOf B r
theorem lastOf_snoc : ∀ (bs : List (List (List Nat))) (A B : List (List Nat)), lastOf A (bs ++ [B]) = B
  | [], _, _ => rfl
  | C :: bs, _, B => lastOf_snoc bs C B
theorem steps_snoc {B : List (List Nat)} : ∀ (bs : List (List (List Nat))) (k : Nat) (A : List (List Nat)), Steps js k A bs → (∃ X, (∀ D, D ∈ X ↔ ∃ E ∈ lastOf A bs, ∃ n, n < js.length ∧ D = gone js (tl js n) E) ∧ Grt X B) → Steps js k A (bs ++ [B])
  | [], _, _, _, h => ⟨h, trivial⟩
  | C :: bs, k, _, h1, h => ⟨h1.1, steps_snoc bs (k + 1) C h1.2 h⟩
/-- what the tools do from each of these -/
noncomputable def fur (js : List Job) (A : List (List Nat)) : List (List Nat) := A.flatMap fun D => (tls js).map fun t => gone js t D
theorem fur_mem {A : List (List Nat)} {D : List Nat} : D ∈ fur js A ↔ ∃ E ∈ A, ∃ n, n < js.length ∧ D = gone js (tl js n) E := by
  unfold fur
  rw [List.mem_flatMap]
  constructor
  · rintro ⟨E, hE, h⟩
    obtain ⟨t, ht, rfl⟩ := List.mem_map.mp h
    obtain ⟨n, hn, rfl⟩ := mem_tls.mp ht
    exact ⟨E, hE, n, hn, rfl⟩
  · rintro ⟨E, hE, n, hn, rfl⟩
    exact ⟨E, hE, List.mem_map.mpr ⟨_, mem_tls.mpr ⟨n, hn, rfl⟩, rfl⟩⟩
theorem fur_len (A : List (List Nat)) : (fur js A).length = A.length * (tls js).length := by
  unfold fur
  induction A with
  | nil => simp
  | cons D A ih => rw [List.flatMap_cons, List.length_append, ih, List.length_map, List.length_cons, Nat.succ_mul]; omega
/-- the bound's paper -/
theorem bound_ok (h : JS p js) (h10 : js.length ≤ 10) (ac : Acy js) (w : Wf js) {Q : D × Sto → Prop} (q : ∀ (bs : List (List (List Nat))) (S' : Sto), Steps js 0 [[]] bs → bs.length = T js [] - 1 → (∀ B ∈ bs, B.length ≤ 1024) → (∀ k, k < S.length → S'[k]? = S[k]?) → Q (.pu (.list (paperP bs)), S')) : W (m_bound_of [.pu p] S) Q := by
  unfold m_bound_of
  rw [w_runF]
  refine ⟨⟨rfl, by decide⟩, ?_⟩
  rw [show env0 8 [.pu p] = [some (.val (.pu p)), none, none, none, none, none, none, none] from rfl]
  unfold b_bound_of
  simp only [DL.evA, DL.evH, DL.evJ, DL.evM, DL.evQ, DL.evU, DL.evX, List.getElem?_cons_zero, List.getElem?_cons_succ, List.set_cons_zero, List.set_cons_succ, ↓reduceIte, Bool.false_eq_true, List.map_cons, List.map_nil, List.length_cons, List.length_nil, Bool.not_true, Bool.not_false, w_fld, w_meth]
  refine round_ok h ac ?_
  refine make_ok h ?_
  have g1 : ∀ {a b : MC}, (S ++ [a, b])[S.length]? = some a := fun {a b} => by
    rw [List.getElem?_append_right (Nat.le_refl _), Nat.sub_self]
    rfl
  (try simp only [DL.evA, DL.evH, DL.evJ, DL.evM, DL.evQ, DL.evU, DL.evX, List.getElem?_cons_zero, List.getElem?_cons_succ, List.set_cons_zero, List.set_cons_succ, ↓reduceIte, Bool.false_eq_true, List.map_cons, List.map_nil, List.length_cons, List.length_nil, Bool.not_true, Bool.not_false, w_fld, w_meth])
  refine obj_at g1 ?_
  rw [if_pos (lk_no (by decide +kernel) (by decide +kernel) (by decide +kernel))]
  (try simp only [DL.evA, DL.evH, DL.evJ, DL.evM, DL.evQ, DL.evU, DL.evX, List.getElem?_cons_zero, List.getElem?_cons_succ, List.set_cons_zero, List.set_cons_succ, ↓reduceIte, Bool.false_eq_true, List.map_cons, List.map_nil, List.length_cons, List.length_nil, Bool.not_true, Bool.not_false, w_fld, w_meth])
  refine ⟨(Nat.le_of_ble_eq_true rfl), ?_⟩
  have hs0 : St2 js (S ++ [.obj "Taking" (flds (.pu p) (.pu (.list ((tls js).map .int))) (.rf (S.length + 1))), .dct []]) (S.length + 1) (S ++ [.obj "Taking" (flds (.pu p) (.pu (.list ((tls js).map .int))) (.rf (S.length + 1))), .dct []]) := by
    refine ⟨[], ⟨List.nodup_nil, fun O hO => (by cases hO)⟩, ?_⟩
    rw [List.set_append_right _ _ (by omega), show S.length + 1 - S.length = 1 by omega]
    rfl
  refine takes_ok h ac w (by omega) 12 [] List.Pairwise.nil (fun n hn => (by cases hn)) (by have := left_le js []; omega) _ _ g1 (by rw [List.length_append]; simp) hs0 _ fun S' hS' => ?_
  have hS2 : ∀ k, k < S.length → S'[k]? = S[k]? := fun k hk => by
    rw [hS'.obj (by omega), List.getElem?_append_left hk]
  (try simp only [DL.evA, DL.evH, DL.evJ, DL.evM, DL.evQ, DL.evU, DL.evX, List.getElem?_cons_zero, List.getElem?_cons_succ, List.set_cons_zero, List.set_cons_succ, ↓reduceIte, Bool.false_eq_true, List.map_cons, List.map_nil, List.length_cons, List.length_nil, Bool.not_true, Bool.not_false, w_fld, w_meth])
  have T10 : T js [] ≤ 100000 := by
    obtain ⟨f1, f2, f3⟩ := first_ok ac w
    have key : ∀ (O : List Nat) (tool : Option Int), takes js tool O ≤ O.length := by
      intro O
      induction O with
      | nil => intro tool; exact Nat.le_refl _
      | cons n O ih =>
        intro tool
        have := ih (some (tl js n))
        have h1 : chg js tool n ≤ 1 := by unfold chg; split <;> omega
        show chg js tool n + takes js (some (tl js n)) O ≤ O.length + 1
        omega
    have := key (first js) none
    omega
  have t20 := tls_len h.2.1
  refine ⟨by decide, by simp, by decide, by decide, trivial, by rw [rOk_iff]; omega, ?_⟩
  refine for_rng (fun i e S2 => ∃ (bs : List (List (List Nat))) (e4 e5 e6 e7 : Option Sl), e = [some (.val (.pu p)), some (.val (.pu (.int (T js [] : Nat)))), some (.ow (.lst (paperP bs))), some (.val (.pu (.list ((lastOf [[]] bs).map tN)))), e4, e5, e6, e7] ∧ S2 = S' ∧ (bs.length : Int) = i ∧ Steps js 0 [[]] bs ∧ (∀ B ∈ bs, B.length ≤ 1024) ∧ (lastOf [[]] bs).length ≤ 1024 ∧ ∀ D ∈ lastOf [[]] bs, Srt D ∧ Sub js D) ⟨[], _, _, _, _, rfl, rfl, rfl, trivial, fun B hB => (by cases hB), by decide, fun D hD => ?_⟩ ?_ ?_
  · rw [List.mem_singleton.mp hD]
    exact ⟨List.Pairwise.nil, fun n hn => by cases hn⟩
  · rintro i e S2 hi0 hi1 ⟨bs, e4, e5, e6, e7, rfl, rfl, hl, hS, hB, hA, hr⟩
    (try simp only [DL.evA, DL.evH, DL.evJ, DL.evM, DL.evQ, DL.evU, DL.evX, List.getElem?_cons_zero, List.getElem?_cons_succ, List.set_cons_zero, List.set_cons_succ, ↓reduceIte, Bool.false_eq_true, List.map_cons, List.map_nil, List.length_cons, List.length_nil, Bool.not_true, Bool.not_false])
    refine ⟨by decide, by simp, ?_⟩
    refine for_map (f := tN) (fun j e S3 => ∃ (e6 e7 : Option Sl), e = [some (.val (.pu p)), some (.val (.pu (.int (T js [] : Nat)))), some (.ow (.lst (paperP bs))), some (.val (.pu (.list ((lastOf [[]] bs).map tN)))), some (.val (.pu (.int i))), some (.ow (.lst ((fur js ((lastOf [[]] bs).take j)).map tN))), e6, e7] ∧ S3 = S2) ⟨_, _, rfl, rfl⟩ ?_ ?_
    · rintro j D e S3 hj ⟨e6, e7, rfl, hse⟩
      subst hse
      (try simp only [DL.evA, DL.evH, DL.evJ, DL.evM, DL.evQ, DL.evU, DL.evX, List.getElem?_cons_zero, List.getElem?_cons_succ, List.set_cons_zero, List.set_cons_succ, ↓reduceIte, Bool.false_eq_true, List.map_cons, List.map_nil, List.length_cons, List.length_nil, Bool.not_true, Bool.not_false])
      obtain ⟨sD, bD⟩ := hr D (List.mem_of_getElem? hj)
      refine tools_ok h ?_
      (try simp only [DL.evA, DL.evH, DL.evJ, DL.evM, DL.evQ, DL.evU, DL.evX, List.getElem?_cons_zero, List.getElem?_cons_succ, List.set_cons_zero, List.set_cons_succ, ↓reduceIte, Bool.false_eq_true, List.map_cons, List.map_nil, List.length_cons, List.length_nil, Bool.not_true, Bool.not_false])
      refine comp_on PyData.int (fun t => tN (gone js t D)) (tls js) (fun t ht R r => ?_) (by unfold lim; omega) ?_
      · simp only [wipeE, DL.evA, DL.evH, DL.evJ, DL.evM, DL.evQ, DL.evU, DL.evX, List.getElem?_cons_zero, List.getElem?_cons_succ, List.set_cons_zero, List.set_cons_succ, ↓reduceIte, Bool.false_eq_true, List.map_cons, List.map_nil, List.length_cons, List.length_nil, Bool.not_true, Bool.not_false]
        refine ⟨trivial, gone_on_ok h (.inr rfl) (sD.imp fun {a b} h => Nat.ne_of_lt h) bD ?_⟩
        (try simp only [DL.evA, DL.evH, DL.evJ, DL.evM, DL.evQ, DL.evU, DL.evX, List.getElem?_cons_zero, List.getElem?_cons_succ, List.set_cons_zero, List.set_cons_succ, ↓reduceIte, Bool.false_eq_true, List.map_cons, List.map_nil, List.length_cons, List.length_nil, Bool.not_true, Bool.not_false])
        exact r
      · have ln := fur_len (js := js) ((lastOf [[]] bs).take j)
        have lt : ((lastOf [[]] bs).take j).length ≤ 1024 := by rw [List.length_take]; omega
        have mul : ((lastOf [[]] bs).take j).length * (tls js).length ≤ 1024 * 20 := Nat.mul_le_mul lt t20
        have e1 : fur js ((lastOf [[]] bs).take (j + 1)) = fur js ((lastOf [[]] bs).take j) ++ (tls js).map fun t => gone js t D := by
          rw [List.take_add_one, hj]
          unfold fur
          rw [List.flatMap_append]
          simp
        have e2 : (fur js ((lastOf [[]] bs).take (j + 1))).map tN = (fur js ((lastOf [[]] bs).take j)).map tN ++ (tls js).map fun t => tN (gone js t D) := by
          rw [e1, List.map_append, List.map_map (f := fun t => gone js t D)]
          rfl
        rw [e2]
        exact ⟨by rw [List.length_map, List.length_map]; unfold lim; omega, _, _, rfl, rfl⟩
    · rintro e S3 ⟨e6, e7, rfl, hse⟩
      subst hse
      (try simp only [DL.evA, DL.evH, DL.evJ, DL.evM, DL.evQ, DL.evU, DL.evX, List.getElem?_cons_zero, List.getElem?_cons_succ, List.set_cons_zero, List.set_cons_succ, ↓reduceIte, Bool.false_eq_true, List.map_cons, List.map_nil, List.length_cons, List.length_nil, Bool.not_true, Bool.not_false])
      rw [List.take_length, show frzP (.lst ((fur js (lastOf [[]] bs)).map tN)) = .list ((fur js (lastOf [[]] bs)).map tN) from rfl]
      have fr : ∀ D ∈ fur js (lastOf [[]] bs), Srt D ∧ Sub js D := fun D hD => by
        obtain ⟨E, _, n, _, rfl⟩ := fur_mem.mp hD
        exact ⟨srt_gone, sub_gone⟩
      refine greatest_ok h10 fr fun G g1 g2 g3 => ?_
      have pl : (paperP bs).length = bs.length := by unfold paperP; rw [List.length_map]
      have p1 : paperP (bs ++ [G]) = paperP bs ++ [.list (G.map tN)] := by
        unfold paperP
        rw [List.map_append]
        rfl
      have inv : ((bs ++ [G]).length : Int) = i + 1 ∧ Steps js 0 [[]] (bs ++ [G]) ∧ (∀ B ∈ bs ++ [G], B.length ≤ 1024) ∧ (lastOf [[]] (bs ++ [G])).length ≤ 1024 ∧ ∀ D ∈ lastOf [[]] (bs ++ [G]), Srt D ∧ Sub js D := by
        refine ⟨by rw [List.length_append, List.length_singleton]; omega, steps_snoc bs 0 _ hS ⟨fur js (lastOf [[]] bs), fun D => fur_mem, g3⟩, fun B hB' => ?_, ?_, ?_⟩
        · rcases List.mem_append.mp hB' with z | z
          · exact hB B z
          · rw [List.mem_singleton.mp z]; exact g2
        · rw [lastOf_snoc]; exact g2
        · rw [lastOf_snoc]
          exact fun D hD => fr D ((g3 D).mp hD).1
      refine ⟨rfl, by rw [pl]; unfold lim; omega, bs ++ [G], ?_⟩
      rw [p1, lastOf_snoc]
      rw [lastOf_snoc] at inv
      exact ⟨_, _, _, _, rfl, trivial, inv⟩
  · rintro e S2 ⟨bs, e4, e5, e6, e7, rfl, hse, hl, hS, hB, hA, hr⟩
    (try simp only [DL.evA, DL.evH, DL.evJ, DL.evM, DL.evQ, DL.evU, DL.evX, List.getElem?_cons_zero, List.getElem?_cons_succ, List.set_cons_zero, List.set_cons_succ, ↓reduceIte, Bool.false_eq_true, List.map_cons, List.map_nil, List.length_cons, List.length_nil, Bool.not_true, Bool.not_false])
    refine ⟨rfl, q bs _ hS (by omega) hB fun k hk => ?_⟩
    rw [hse]
    exact hS2 k hk
end
end JJ
/-! KD: small things: a comprehension that draws and skips; papers fit. -/
namespace JJ
open PySem PySem.Spec PyProof.Rows L2
open DL hiding St take_st take_ok
section
variable {S : Sto} {e : Envi} {p : P} {xs : List P} {js : List Job} {n : Nat} {O F : List Nat} {t : Int}
end
end JJ
namespace DL
open PySem PySem.Spec PyProof.Rows L2
end DL
/-! KW: the law's own look at a paper, walked. -/
namespace JJ
open PySem PySem.Spec PyProof.Rows L2
open DL hiding St take_st take_ok
section
variable {S : Sto} {e : Envi} {p : P} {xs : List P} {js : List Job} {n : Nat} {O F : List Nat} {t : Int}
open Classical in
end
end JJ
/-! DNA: xs.clear(), xs an own list or a cell. -/
namespace DL
open PySem PySem.Spec PyProof.Rows L2
section
variable {X : Cx} {G : Gx} {e : Envi} {S : Sto}
end
end DL
/-! DNB: lists that live: loops and comprehensions over a cell, which read it as it stands; a told list as a cell. -/
namespace DL
open PySem PySem.Spec PyProof.Rows L2

/-! ### the entry set anew: what stands now, own things apart -/
open Classical in
section
variable {G : Gx} {σ σ' : L2.St} {H H' : Hp} {e e' : Envi} {S S' : Sto} {f f' : Nat → Addr}
end

/-! ### for x in a cell -/
section
variable {X : Cx} {G : Gx}
end
end DL
/-! DNC: a told list becomes a cell; comprehensions over a cell. -/
namespace DL
open PySem PySem.Spec PyProof.Rows L2
section
variable {G : Gx} {σ : L2.St} {H : Hp} {e : Envi} {S : Sto} {f : Nat → Addr}
end
section
variable {X : Cx} {G : Gx}
end

/-! ### [x for t in cell if c] -/
section
variable {X : Cx} {G : Gx}
end
end DL
/-! DND: enumerate of a cell: loops and comprehensions, which read it as it stands. -/
namespace DL
open PySem PySem.Spec PyProof.Rows L2
section
variable {X : Cx} {G : Gx}
end
/-! ### [x for i, y in enumerate(cell) if c] -/
section
variable {X : Cx} {G : Gx}
end
end DL
/-! DNE: list(reversed(x)), x + y as cells; comprehensions over a cell whose list is a cell of things of any kind; tuples of things in append. -/
namespace DL
open PySem PySem.Spec PyProof.Rows L2
section
variable {X : Cx} {G : Gx} {σ : L2.St} {H : Hp} {e : Envi} {S : Sto} {f : Nat → Addr}
end
section
variable {X : Cx} {G : Gx}
/-! ### list(reversed(x)) as a cell -/
/-! ### x + y of lists, as a cell -/
/-! ### [x for t in cell if c], a cell of things of any kind -/
end
end DL
/-! DNF: what lives is lent to a def of kind F that tells a tuple of a plain thing and a list of plain things, both new. -/
namespace DL
open PySem PySem.Spec PyProof.Rows L2
section
variable {X : Cx} {G : Gx} {σ : L2.St} {H : Hp} {e : Envi} {S : Sto} {f : Nat → Addr}
variable {k n : Nat} {ps : List Str} {g : Addr} {fd : FuncData} {m : List D → Sto → Option (D × Sto)} {cl : Str → Option Addr}
end
end DL
/-! DNG: a comprehension over plain things that tells a cell of things. -/
namespace DL
open PySem PySem.Spec PyProof.Rows L2
section
variable {X : Cx} {G : Gx}
end
end DL
/-! DMB: calls without arguments. -/
namespace DL
open PySem PySem.Spec PyProof.Rows L2
section
variable {X : Cx} {G : Gx} {σ : L2.St} {H : Hp} {e : Envi} {S : Sto} {f : Nat → Addr}
end
end DL
/-! EX0: defs that may raise one class of the text. -/
namespace DL
open PySem PySem.Spec PyProof.Rows L2
/-- where a row may end: as ever, or by the exception -/
inductive OutY where | o (x : Out) | ex (e : Envi) (S : Sto)
abbrev Yx := Envi → Sto → Option OutY
def EndOfY (G : Gx) (H : Hp) (T : Ends) (W : WX) (C : Value) : OutY → Prop
  | .o x => EndOf G H T x
  | .ex e S => ∀ σ' H' f, R G σ' H' e S f → Ext0 H H' → W C none σ' H'
theorem EndOfY.pre {G : Gx} {H H1 : Hp} {T : Ends} {W : WX} {C : Value} (x : Ext0 H H1) : ∀ {o : OutY}, EndOfY G H T W C o → EndOfY G H1 T W C o
  | .o _, h => EndOf.pre x h
  | .ex _ _, h => fun σ' H' f r y => h σ' H' f r (x.trans y)
def tYx (G : Gx) (W : WX) (C : Value) (y : Yx) : TS := fun T σ H => ∃ e S f, R G σ H e S f ∧ ∃ o, y e S = some o ∧ EndOfY G H T W C o
abbrev DY (X : Cx) (G : Gx) (W : WX) (C : Value) (a : Stmt) (y : Yx) : Prop := PS X a (tYx G W C y)
abbrev DYs (X : Cx) (G : Gx) (W : WX) (C : Value) (a : List Stmt) (y : Yx) : Prop := PSs X a (tYx G W C y)
def yOf (x : Sx) : Yx := fun e S => (x e S).map .o
def ySeq (a b : Yx) : Yx := fun e S => (a e S).bind fun o => match o with
  | .o (.nx e' S') => b e' S'
  | o => some o
def yIf (t : Tx) (a b : Yx) : Yx := fun e S => (t e S).bind fun r => if r.1 then a e r.2 else b e r.2
def yRaise : Yx := fun e S => some (.ex e S)
/-- what a def that may raise comes to -/
inductive Rz where | ok (d : D) (S : Sto) | ex (S : Sto)
def yCall (m : List D → Sto → Option Rz) (a : Ax) : Yx := fun e S => (a e S).bind fun q => if noBo q.1 then (m q.1 q.2).bind fun r => match r with
    | .ok _ S' => some (.o (.nx e S'))
    | .ex S' => some (.ex e S')
  else none
def SpY (K : PySem.W.Frag) (cl : Str → Option Addr) (n : Nat) (m : List D → Sto → Option Rz) (C : Value) : Sp := fun vs H Q E => vs.length = n ∧ ∃ f S ds r, Paired (RD K H f S.length) vs ds ∧ Cells ⟨K, cl, H, S.length, f⟩ H f S ∧ m ds S = some r ∧
  match r with
  | .ok d S' => ∀ v H' f', Cells ⟨K, cl, H, S.length, f⟩ H' f' S' → Nx H H' f f' S.length S'.length → RD K H' f' S'.length v d → Q v H'
  | .ex S' => ∀ H' f', Cells ⟨K, cl, H, S.length, f⟩ H' f' S' → Nx H H' f f' S.length S'.length → E C none H'
def runY (n l : Nat) (b : Yx) (ds : List D) (S : Sto) : Option Rz := if ds.length = n ∧ n ≤ l then (b (env0 l ds) S).bind fun o => match o with
    | .o (.nx _ S') => some (.ok (.pu .none) S')
    | .o (.rt d _ S') => if noBo [d] then some (.ok d S') else none
    | .ex _ S' => some (.ex S')
    | _ => none
  else none
theorem runY_len {n l : Nat} {b : Yx} {ds : List D} {S : Sto} {r : Rz} (h : runY n l b ds S = some r) : ds.length = n := by
  unfold runY at h
  by_cases c : ds.length = n ∧ n ≤ l
  · exact c.1
  · rw [if_neg c] at h
    cases h
section
variable {X : Cx} {G : Gx} {W : WX} {C : Value}
theorem dy_of {st : Stmt} {x : Sx} (h : DS X G st x) : DY X G W C st (yOf x) := ps_mono h fun T σ H hw => by
  obtain ⟨e, S, f, r, o, hx, q⟩ := hw
  obtain ⟨o', h1, rfl⟩ := Option.map_eq_some_iff.mp hx
  exact ⟨e, S, f, r, o', h1, q⟩
theorem dys_of {sts : List Stmt} {x : Sx} (h : DSs X G sts x) : DYs X G W C sts (yOf x) := pss_mono h fun T σ H hw => by
  obtain ⟨e, S, f, r, o, hx, q⟩ := hw
  obtain ⟨o', h1, rfl⟩ := Option.map_eq_some_iff.mp hx
  exact ⟨e, S, f, r, o', h1, q⟩
theorem dy_cons {st : Stmt} {rest : List Stmt} {a b : Yx} (h1 : DY X G W C st a) (h2 : DYs X G W C rest b) : DYs X G W C (st :: rest) (ySeq a b) := pss_mono (pss_cons h1 h2) fun T σ H hw => by
  obtain ⟨e, S, f, r, o, hx, q⟩ := hw
  obtain ⟨o1, e1, hx⟩ := Option.bind_eq_some_iff.mp hx
  refine ⟨e, S, f, r, o1, e1, ?_⟩
  cases o1 with
  | ex e' S' => cases hx; exact q
  | o x =>
    cases x with
    | nx e' S' => exact fun σ' H' f' r' y => ⟨e', S', f', r', o, hx, q.pre y⟩
    | rt d e' S' => cases hx; exact q
    | bk e' S' => cases hx; exact q
    | ct e' S' => cases hx; exact q
theorem dy_if {c : Expr} {p q : List Stmt} {t : Tx} {a b : Yx} {pos : Pos} (hc : DT X G c t) (ha : DYs X G W C p a) (hb : DYs X G W C q b) : DY X G W C (.If c p q pos) (yIf t a b) := ps_mono (ps_if hc ha hb) fun T σ H hw => by
  obtain ⟨e, S, f, r, o, hx, q⟩ := hw
  obtain ⟨⟨b1, S1⟩, h1, hx⟩ := Option.bind_eq_some_iff.mp hx
  refine ⟨e, S, f, r, b1, S1, h1, fun H1 f1 r1 n1 => ?_⟩
  cases b1 with
  | true => exact ⟨e, S1, f1, r1, o, hx, q.pre n1.ext⟩
  | false => exact ⟨e, S1, f1, r1, o, hx, q.pre n1.ext⟩
/-- a class of the text over ValueError, without __init__ of its own -/
structure ExcT (K : PySem.W.Frag) (mg : Str → Option Value) (x : Str) (C : Addr) : Prop where
  g : mg x = some (.ref C)
  k : PySem.W.keepIn K (.ref C) = true
  n : PySem.W.excIn K C [.type "ValueError", .type "Exception", .type "BaseException", .type "object"] "ValueError.__new__" = true
  b : PySem.W.subIn K (.ref C) (.type "BaseException") = some true
  t : PySem.W.typeIn K (.ref C) = some (.type "type")
theorem dy_raise {x m : Str} {j : Nat} {c : Addr} {p p2 pos pos' : Pos} (hc : X.calm = true) (tk : L2N.Takes X W) (T : ExcT X.K X.mg x c) (hg : Gl X x := by rfl) (hd : (x == ("__debug__" : Str)) = false := by decide) :
    DY X G W (.ref c) (.Raise (some (.Call (.Name x p) [.Constant (.str m) j p2] [] pos)) none pos') yRaise :=
  ps_mono (L2N.ps_raise hc tk (L2N.pmk_own PySem.F.excBase_ValueError T.n T.g T.k (raises_own T.b T.t) hg hd)) fun T σ H hw => by
    obtain ⟨e, S, f, r, o, hx, q⟩ := hw
    cases hx
    exact q σ H f r (.refl _)
/-- a def that may raise, as its callers see it -/
structure CalleeY (Pg : Program) (w : World) (K : PySem.W.Frag) (mg : Str → Option Value) (base : Heap) (k : Nat) (x : Str) (ps : List Str) (sp : Sp) : Prop where
  ex : ∃ g fd, FnOk Pg w K mg base (L2N.CX Pg w) k g fd ps sp ∧ mg x = some (.ref g) ∧ PySem.W.keepIn K (.ref g) = true ∧ Binds K fd ps []
theorem dy_call {m : List D → Sto → Option Rz} {k n : Nat} {ps : List Str} {x : Str} {p pos pos' : Pos} {a : Expr} {es : List Expr} {xa : Ax} (tk : L2N.Takes X W) (F : CalleeY X.prog X.w X.K X.mg X.base k x ps (SpY G.K G.cl n m C)) (hl : ∀ ds S r, m ds S = some r → ds.length = n) (hr : Room k X.A)
    (ha : DA X G (a :: es) xa) (hg : Gl X x := by rfl) (hdb : (x == ("__debug__" : Str)) = false := by decide) (he : starEach (a :: es) X.env = (false, eval a X.env) :: starEach es X.env := by rfl) (hpl : (backTo pos (starEach es X.env)).any (·.1) = false := by rfl)
    (hs : swapsWith (.Call (.Name x p) (a :: es) [] pos) none pos'.line X.env = pure false := by rfl) : DY X G W C (.Expr (.Call (.Name x p) (a :: es) [] pos) pos') (yCall m xa) := by
  obtain ⟨g, fd, F, hm, hk, hb⟩ := F
  refine ps_mono (ps_expr (pe_callS F hr hg hm hk hb (L2N.passAt tk) ha hdb he hpl) hs) fun T σ H hw => ?_
  obtain ⟨e, S, f, r, o, hx, q⟩ := hw
  obtain ⟨⟨ds, S1⟩, h1, hx⟩ := Option.bind_eq_some_iff.mp hx
  refine ⟨e, S, f, r, ds, S1, h1, fun vs H1 f1 r1 n1 p1 => ?_⟩
  dsimp only at hx
  by_cases c : noBo ds = true
  · rw [if_pos c] at hx
    obtain ⟨z, h2, hx⟩ := Option.bind_eq_some_iff.mp hx
    refine ⟨by rw [Paired.length p1]; exact hl _ _ _ h2, f1, S1, ds, z, re_rds p1 c, Cells.re (G := G) (G' := ⟨G.K, G.cl, H1, S1.length, f1⟩) rfl rfl r1.cells, h2, ?_⟩
    cases z with
    | ok d S2 =>
      cases hx
      exact fun v H' f' cc nn rd => q σ H' f' (r1.nx nn (Cells.re (G := ⟨G.K, G.cl, H1, S1.length, f1⟩) (G' := G) rfl rfl cc)) (n1.ext.trans nn.ext)
    | ex S2 =>
      cases hx
      exact fun H' f' cc nn => q σ H' f' (r1.nx nn (Cells.re (G := ⟨G.K, G.cl, H1, S1.length, f1⟩) (G' := G) rfl rfl cc)) (n1.ext.trans nn.ext)
  · rw [if_neg c] at hx
    cases hx
end
section
variable {Pg : Program} {w : World} {K : PySem.W.Frag} {mg : Str → Option Value} {base : Heap} {x qual : Str} {st : Stmt} {f : Addr} {fd : FuncData} {N ps : List Str} {k n : Nat} {b : Yx} {C : Value}
/-- such a def's body -/
def BodyY (Pg : Program) (w : World) (K : PySem.W.Frag) (mg : Str → Option Value) (base : Heap) (qual : Str) (st : Stmt) (f : Addr) (N : List Str) (k : Nat) (cl : Str → Option Addr) (C : Value) (b : Yx) : Prop :=
  ∀ (X : Cx) (W : WX) (G : Gx), (∃ (cdv : Value) (A : Around) (outer : List Env) (s : Shared) (H : Hp) (E : XK), X = cxOf (L2N.CX Pg w) Pg w K mg base N qual (defScope st) f cdv A outer s H E ∧ W = fun cls d _ H => E cls d H) → G.K = K → G.cl = cl →
    L2N.Takes X W → PassesOwn (model X.prog X.w) X.A X.env X.xe → Room k X.A → DYs X G W C (defBody st) b
theorem fnY {cl : Str → Option Addr} (F : Fun K x qual st f fd) (S : FnScope N ps (defScope st)) (hn : ps.length = n) (hb : BodyY Pg w K mg base qual st f N k cl C b) : FnOk Pg w K mg base (L2N.CX Pg w) (k + 1) f fd ps (SpY K cl n (runY n N.length b) C) := by
  obtain ⟨oc, od, kV, doc, pm, an, cdv, ct, osl, rfl, lk, hcd⟩ := F.ex
  refine fn_of lk hcd S (fun vs H Q E h => h.1.trans hn.symm) fun A outer s H vs Q E hr h => ?_
  obtain ⟨hl, f0, S0, ds, z, hp, hc, hm, q⟩ := h
  have hX := hb (cxOf (L2N.CX Pg w) Pg w K mg base N qual (defScope st) f cdv A outer s H E) (fun cls d _ H => E cls d H) ⟨K, cl, H, S0.length, f0⟩ ⟨cdv, A, outer, s, H, E, rfl, rfl⟩ rfl rfl (L2N.takes_of rfl rfl rfl rfl) (passes_of rfl) hr
  refine ⟨_, hX, ?_⟩
  unfold runY at hm
  by_cases c : ds.length = n ∧ n ≤ N.length
  · rw [if_pos c] at hm
    obtain ⟨o, h1, h2⟩ := Option.bind_eq_some_iff.mp hm
    have r0 : R ⟨K, cl, H, S0.length, f0⟩ (L2.start N vs) H (env0 N.length ds) S0 f0 := R.entry (G := ⟨K, cl, H, S0.length, f0⟩) (by omega) hp rfl hc
    refine ⟨_, S0, f0, r0, o, h1, ?_⟩
    cases o with
    | ex e1 S1 =>
      cases h2
      exact fun σ' H' f' r' x' => q H' f' r'.cells r'.back
    | o y =>
      cases y with
      | nx e1 S1 =>
        cases h2
        exact fun σ' H' f' r' x' => q .non H' f' r'.cells r'.back .non
      | rt d1 e1 S1 =>
        dsimp only at h2
        by_cases c2 : noBo [d1] = true
        · rw [if_pos c2] at h2
          cases h2
          exact fun v σ' H' f' r' x' p' => q v H' f' r'.cells r'.back (re_rd p' c2)
        · rw [if_neg c2] at h2
          cases h2
      | bk _ _ => cases h2
      | ct _ _ => cases h2
  · rw [if_neg c] at hm
    cases hm
end
end DL
namespace DL
open PySem PySem.Spec PyProof.Rows L2
section
variable {e : Envi} {S : Sto}
/-- what the rows of such a def come to -/
def yQ (b : Yx) (Q : OutY → Prop) : OutY → Prop
  | .o (.nx e' S') => W (b e' S') Q
  | o => Q o
theorem w_ySeq {a b : Yx} {Q : OutY → Prop} : W (ySeq a b e S) Q ↔ W (a e S) (yQ b Q) := by
  refine w_bind.trans ⟨fun h => h.imp fun o h => ?_, fun h => h.imp fun o h => ?_⟩
  · cases o with
    | ex e' S' => exact (show Q _ from (w_some (Q := Q)).mp h)
    | o x => cases x <;> first | exact h | exact (show Q _ from (w_some (Q := Q)).mp h)
  · cases o with
    | ex e' S' => exact (w_some (Q := Q)).mpr h
    | o x => cases x <;> first | exact h | exact (w_some (Q := Q)).mpr h
theorem w_yOf {x : Sx} {Q : OutY → Prop} : W (yOf x e S) Q ↔ W (x e S) fun o => Q (.o o) := by
  constructor
  · rintro ⟨o, h, q⟩
    obtain ⟨o', h1, rfl⟩ := Option.map_eq_some_iff.mp h
    exact ⟨o', h1, q⟩
  · rintro ⟨o, h, q⟩
    exact ⟨.o o, Option.map_eq_some_iff.mpr ⟨o, h, rfl⟩, q⟩
theorem w_yIf {t : Tx} {a b : Yx} {Q : OutY → Prop} : W (yIf t a b e S) Q ↔ W (t e S) fun r => if r.1 = true then W (a e r.2) Q else W (b e r.2) Q := w_bind.trans (by simp only [w_ite])
theorem w_yRaise {Q : OutY → Prop} : W (yRaise e S) Q ↔ Q (.ex e S) := w_some
def ycQ (e : Envi) (Q : OutY → Prop) : Rz → Prop
  | .ok _ S' => Q (.o (.nx e S'))
  | .ex S' => Q (.ex e S')
theorem w_yCall {m : List D → Sto → Option Rz} {a : Ax} {Q : OutY → Prop} : W (yCall m a e S) Q ↔ W (a e S) fun q => noBo q.1 = true ∧ W (m q.1 q.2) (ycQ e Q) := by
  refine w_bind.trans ⟨fun h => h.imp fun q h => ?_, fun h => h.imp fun q h => ?_⟩
  · by_cases c : noBo q.1 = true
    · rw [if_pos c] at h
      exact ⟨c, (w_bind.mp h).imp fun r h => by cases r <;> exact (w_some (Q := Q)).mp h⟩
    · rw [if_neg c] at h
      exact (w_none.mp h).elim
  · rw [if_pos h.1]
    exact w_bind.mpr (h.2.imp fun r h => by cases r <;> exact (w_some (Q := Q)).mpr h)
def yEnd (Q : Rz → Prop) : OutY → Prop
  | .o (.nx _ S') => Q (.ok (.pu .none) S')
  | .o (.rt d _ S') => noBo [d] = true ∧ Q (.ok d S')
  | .ex _ S' => Q (.ex S')
  | _ => False
theorem w_runY {n l : Nat} {b : Yx} {ds : List D} {Q : Rz → Prop} : W (runY n l b ds S) Q ↔ (ds.length = n ∧ n ≤ l) ∧ W (b (env0 l ds) S) (yEnd Q) := by
  unfold runY
  rw [w_ite, w_none]
  by_cases c : ds.length = n ∧ n ≤ l
  · rw [if_pos c, w_bind]
    refine ⟨fun h => ⟨c, h.imp fun o h => ?_⟩, fun h => h.2.imp fun o h => ?_⟩
    · cases o with
      | ex e' S' => exact (w_some (Q := Q)).mp h
      | o x =>
        cases x with
        | nx e' S' => exact (w_some (Q := Q)).mp h
        | rt d e' S' =>
          have h : W (if noBo [d] = true then some (Rz.ok d S') else none) Q := h
          rw [w_ite, w_none] at h
          by_cases c2 : noBo [d] = true
          · rw [if_pos c2] at h; exact ⟨c2, (w_some (Q := Q)).mp h⟩
          · rw [if_neg c2] at h; exact h.elim
        | bk _ _ => exact (w_none.mp h).elim
        | ct _ _ => exact (w_none.mp h).elim
    · cases o with
      | ex e' S' => exact (w_some (Q := Q)).mpr h
      | o x =>
        cases x with
        | nx e' S' => exact (w_some (Q := Q)).mpr h
        | rt d e' S' =>
          show W (if noBo [d] = true then some (Rz.ok d S') else none) Q
          rw [if_pos h.1]
          exact (w_some (Q := Q)).mpr h.2
        | bk _ _ => exact h.elim
        | ct _ _ => exact h.elim
  · rw [if_neg c]
    exact ⟨fun h => h.elim, fun h => (c h.1).elim⟩
theorem w_yQn {b : Yx} {Q : OutY → Prop} : yQ b Q (.o (.nx e S)) ↔ W (b e S) Q := Iff.rfl
theorem w_yQx {b : Yx} {Q : OutY → Prop} : yQ b Q (.ex e S) ↔ Q (.ex e S) := Iff.rfl
theorem w_ycO {Q : OutY → Prop} {d : D} : ycQ e Q (.ok d S) ↔ Q (.o (.nx e S)) := Iff.rfl
theorem w_ycX {Q : OutY → Prop} : ycQ e Q (.ex S) ↔ Q (.ex e S) := Iff.rfl
theorem w_yEn {Q : Rz → Prop} : yEnd Q (.o (.nx e S)) ↔ Q (.ok (.pu .none) S) := Iff.rfl
theorem w_yEx {Q : Rz → Prop} : yEnd Q (.ex e S) ↔ Q (.ex S) := Iff.rfl
end
end DL
/-! EX1: a def that is called with the exception at hand, and tells a word; try of one clause that calls it. -/
namespace DL
open PySem PySem.Spec PyProof.Rows L2
section
variable {X : Cx} {a D : Addr}
/-- the exception at a, of the class D, stands beside the state -/
def PinE (X : Cx) (a D : Addr) : Prop := ∃ oe, (a, oe) ∈ X.pn ∧ L2N.Zn (.ref D) none oe ∧ ∃ vs, oe.data = .fields vs
theorem PinE.inst {pins : List (Addr × Obj)} {σ : L2.St} {H : Hp} {s : Shared} (h : PinE X a D) (I : Inv X pins σ H s) : ∃ oe, PySem.W.InstAt s.heap a oe D none := by
  obtain ⟨⟨oc, od, oda, osl⟩, hm, ⟨h1, h2, _⟩, vs, hv⟩ := h
  have g := (I.pin _ (List.mem_append_left _ hm)).1
  dsimp only at h1 h2 hv
  subst h1 h2 hv
  exact ⟨_, g, rfl, rfl, trivial⟩
/-- isinstance(e, c), isinstance(e, (c, ..)) -/
def rExI (K : PySem.W.Frag) (D a : Addr) : List V → Hp → VK → Prop := fun xs H Q => (∃ (c : V) (cv : Value) (b : Bool), xs = [.ref a, c] ∧ ClsV c cv ∧ PySem.W.kitOne K (.ref D) cv = some b ∧ Q (.bl b) H) ∨
  ∃ (tp : Addr) (cs : List V) (us : List Value) (b : Bool), xs = [.ref a, .ref tp] ∧ H tp = some (.tup cs) ∧ Paired ClsV cs us ∧ PySem.W.kitAny K (.ref D) us = some b ∧ Q (.bl b) H
theorem call_exI (C : ExcC X.K D) (h : PinE X a D) : CallR X (.builtin "isinstance") (rExI X.K D a) := by
  intro pins s σ H xs us Q I r hh
  obtain ⟨oe, J⟩ := h.inst I
  rcases hh with ⟨c, cv, b, rfl, k, e, q⟩ | ⟨tp, cs, ws, b, rfl, hT, k, e, q⟩
  · obtain ⟨u1, u2, rfl, r1, r2⟩ := vals2 r
    cases (show u1 = Value.ref a from r1)
    cases k.eq r2
    exact PySem.W.kia_one (PySem.W.handS_kitx_exc C.hg C.hk C.hs C.hd C.ha C.hn C.ht C.hm) I.kIn J e (fun z => nomatch z) fun tk => ⟨.bl b, H, I.tok tk, rfl, q⟩
  · obtain ⟨u1, u2, rfl, r1, r2⟩ := vals2 r
    cases (show u1 = Value.ref a from r1)
    cases (show u2 = Value.ref tp from r2)
    obtain ⟨_, its, rv, o, g1, g2, n, g3⟩ := (show ObjOk X.prog X.w H s.heap tp (.tup cs) from I.hok tp _ hT)
    cases ClsV.all k rv
    obtain ⟨oc, od, dt, sl⟩ := o
    dsimp only at g2 g3
    cases g2
    cases g3
    exact PySem.W.kia_tup (PySem.W.handS_kitx_exc C.hg C.hk C.hs C.hd C.ha C.hn C.ht C.hm) I.kIn J g1 e (fun z => nomatch z) fun tk => ⟨.bl b, H, I.tok tk, rfl, q⟩
end
/-- a def that tells the word of an exception of the class D that is handled -/
structure FnE (P : Program) (w : World) (K : PySem.W.Frag) (mg : Str → Option Value) (base : Heap) (k : Nat) (f : Addr) (fd : FuncData) (q : Str) (D : Addr) (word : Str) : Prop where
  run : ∀ (A : Around) (outer : List Env) (s : Shared) (H : Hp) (a : Addr) (oe : Obj) (Q : VK), L2H.RoomH k A → L2H.Hot1 A (a, oe) → L2H.PinOk outer H s (a, oe) → L2N.Zn (.ref D) none oe → (∃ vs, oe.data = .fields vs) → Env0 P w K mg base A outer s H →
    BindsTo s fd ⟨[.ref a], []⟩ [(q, .ref a)] → (∀ H', Same H H' → Q (.str word) H') → codeAny (model P w) A (.call (.ref f) ⟨[.ref a], []⟩) (CR CX0 outer P w H s Q E0) s
/-- what its body must show -/
def tWd (N : List Str) (a : Addr) (word : Str) : TS := fun T σ H => σ = L2.start N [.ref a] ∧ ∀ H', Same H H' → T.rt (.str word) H'
theorem fnE {P : Program} {w : World} {K : PySem.W.Frag} {mg : Str → Option Value} {base : Heap} {k : Nat} {x qual q : Str} {st : Stmt} {f D : Addr} {fd : FuncData} {word : Str} {N : List Str} (F : Fun K x qual st f fd) (S : FnScope N [q] (defScope st))
    (hb : ∀ (X : Cx) (a : Addr), X.K = K → X.mg = mg → PinE X a D → L2H.HotC X → (∃ (cdv : Value) (A : Around) (outer : List Env) (s : Shared) (H : Hp) (E : XK) (p : Addr × Obj), X = L2H.cxH CX0 P w K mg base N qual (defScope st) f cdv A outer s H E p) → PSs X (defBody st) (tWd N a word)) :
    FnE P w K mg base (k + 1) f fd q D word := by
  obtain ⟨oc, od, kV, doc, pm, an, cdv, ct, osl, rfl, lk, hcd⟩ := F.ex
  refine ⟨fun A outer s H a oe Q hr hot hp hz hf e0 hbd hq => ?_⟩
  have KX : K.In s.heap := e0.mod.kin.keeps fun b o e => (e0.bs b o e).1
  have lim : s.heap.NoLimit := e0.mod.nolimit.keeps fun b o e => (e0.bs b o e).1
  refine codeAny_call_function hr.depth (KX _ _ lk) rfl S.co S.gen rfl (PySem.W.codeRec_of KX hcd) (hbd _ _ _ _ ?_)
  have hk : ∀ y ∈ ([(q, Value.ref a)] : List (Str × Value)), (defScope st).names.lookup y.1 = some .local ∨ ((defScope st).names.lookup y.1 = some .cell ∧ ((cellsFrom (s.heap.objs.size + 1) (defScope st).names []).lookup y.1).isSome = true) := fun y hy => by
    cases List.mem_singleton.mp hy
    rcases S.par q List.mem_cons_self with z | z
    · exact .inl z
    · exact .inr ⟨z, PySem.W.cellsFrom_some _ _ _ (.inl z)⟩
  refine wpAny_newFunctionEnv_cells S.kind hk fun env he s1 hx => ?_
  subst he
  refine ⟨lim.keeps hx.toInCall.keep, codeAny_func ?_⟩
  have I : Inv (L2H.cxH CX0 P w K mg base N qual (defScope st) f cdv A outer s H E0 (a, oe)) [] (L2.start N [.ref a]) H s1 := L2H.inv_startH (us := [.ref a]) S hp e0 rfl (.cons rfl .nil) hx
  have B := hb _ a rfl rfl ⟨oe, List.mem_cons_self, hz, hf⟩ ⟨(a, oe), hot, List.mem_cons_self⟩ ⟨cdv, A, outer, s, H, E0, (a, oe), rfl⟩
  refine wpAny_mono (B.run [] s1 _ H { nx := fun _ _ => False, rt := Q } I ⟨rfl, fun _ z => hq _ z⟩) (fun fl s' hs => ?_) fun e s' hs => hs
  cases fl with
  | ret u =>
    obtain ⟨v, σ', H', J, rv, z⟩ := hs
    exact ⟨v, H', J.os, J.bare, J.base, J.hok, rv, z⟩
  | next => obtain ⟨_, _, _, z⟩ := hs; exact z.elim
  | brk => obtain ⟨_, _, _, z⟩ := hs; exact z.elim
  | cont => obtain ⟨_, _, _, z⟩ := hs; exact z.elim
/-- such a def, as its callers see it -/
structure CalleeE (P : Program) (w : World) (K : PySem.W.Frag) (mg : Str → Option Value) (base : Heap) (k : Nat) (x q : Str) (D : Addr) (word : Str) : Prop where
  ex : ∃ g fd, FnE P w K mg base k g fd q D word ∧ mg x = some (.ref g) ∧ PySem.W.keepIn K (.ref g) = true ∧ Binds K fd [q] []
/-- g(e) in the suite -/
theorem pe_exc {X : Cx} {a D : Addr} {oe : Obj} {k i : Nat} {g q err word : Str} {p p2 pos : Pos} (F : CalleeE X.prog X.w X.K X.mg X.base k g q D word) (hr : L2H.RoomH k X.A) (hh : X.A.handled = some (.ref a)) (hm : (a, oe) ∈ X.pn) (hz : L2N.Zn (.ref D) none oe) (hf : ∃ vs, oe.data = .fields vs)
    (hN : X.N[i]? = some err) (hv : Vis X.env.scope err) (hg : Gl X g) (hd : (err == ("__debug__" : Str)) = false := by decide) (hcd : (err == ("__classdict__" : Str)) = false := by decide) (hdg : (g == ("__debug__" : Str)) = false := by decide)
    (he : starEach [.Name err p2] X.env = (false, eval (.Name err p2) X.env) :: starEach [] X.env := by rfl) (hpl : (backTo pos (starEach [] X.env)).any (·.1) = false := by rfl) :
    PE X (.Call (.Name g p) [.Name err p2] [] pos) (fun σ H Q => σ[i]? = some (some (.ref a)) ∧ ∀ H', Same H H' → Q (.str word) H') := by
  obtain ⟨f, fd, F, hmg, hk, hb⟩ := F
  obtain ⟨vs, hvs⟩ := hf
  refine ⟨fun pins s σ H Q I h => ?_⟩
  obtain ⟨h1, h2⟩ := h
  refine wpAny_Call_Name_kw (ld_glob I hg hmg ?_ hdg)
  refine PySem.W.callWith_K (h₀ := X.base) I.ok.mod.kin hk (thn ((pa_cons (pe_var hN hv hd hcd) pa_nil he).run pos pins s σ H (fun vs H1 => vs = [.ref a] ∧ H1 = H) I ⟨_, h1, rfl, rfl⟩) fun us s1 z => ?_) he hpl
  obtain ⟨ws, H1, I1, r, rfl, rfl⟩ := z
  cases r with
  | cons r0 rr =>
    cases rr
    cases r0
    refine ⟨I1.kIn, ?_⟩
    have P1 := I1.pin (a, oe) (List.mem_append_left _ hm)
    have hp : L2H.PinOk X.stack H1 s1 (a, oe) := ⟨P1.1, P1.2.1, fun z => (List.mem_cons.mp (I1.stkSub a z)).elim P1.2.2.1 P1.2.2.2.1, P1.2.2.2.2⟩
    have b := hb s1 [.ref a] I1.kIn rfl
    refine wpAny_call (codeAny_mono (F.run X.A X.stack s1 H1 a oe Q hr ⟨hh, vs, hvs, hz.2.2 vs hvs⟩ hp hz ⟨vs, hvs⟩ I1.env0 b h2) fun r s' hq => ?_)
    cases r with
    | error e => exact False.elim hq
    | ok fl =>
      cases fl with
      | ret u => exact I1.after hq
      | next => exact False.elim hq
      | brk => exact False.elim hq
      | cont => exact False.elim hq
section
variable {G : Gx} {σ : L2.St} {H : Hp} {e : Envi} {S : Sto} {f : Nat → Addr}
/-- a name of which nothing is said may hold anything -/
theorem R.any (r : R G σ H e S f) {i : Nat} (h : ∀ s, e[i]? ≠ some (some s)) (o : Option V) : R G (σ.set i o) H e S f where
  ln := by rw [List.length_set]; exact r.ln
  val := fun j d hj => by
    have : i ≠ j := fun z => h _ (z ▸ hj)
    rw [List.getElem?_set_ne this]
    exact r.val j d hj
  own := fun j c hj => by
    have : i ≠ j := fun z => h _ (z ▸ hj)
    rw [List.getElem?_set_ne this]
    exact r.own j c hj
  sep := fun j k c c' a hjk hj hk ha => by
    have n1 : i ≠ j := fun z => h _ (z ▸ hj)
    have n2 : i ≠ k := fun z => h _ (z ▸ hk)
    rw [List.getElem?_set_ne n1] at ha
    rw [List.getElem?_set_ne n2]
    exact r.sep j k c c' a hjk hj hk ha
  cel := r.cel
  inj := r.inj
  frm := r.frm
  new := r.new
  old := r.old
  le := r.le
  ext := r.ext
end
/-- try: .. except C as e: w = g(e) -/
def sTry (y : Yx) (i j : Nat) (word : Str) : Sx := fun e S => (y e S).bind fun o => match o with
  | .o x => some x
  | .ex e' S' => if i < e'.length ∧ j < e'.length then some (.nx ((e'.set i none).set j (some (.val (.pu (.str word))))) S') else none
theorem ds_try {X : Cx} {G : Gx} {body : List Stmt} {y : Yx} {i j k : Nat} {x err wd g q word : Str} {c D : Addr} {p1 p2 p3 p4 p5 p6 pos pos' : Pos} (hs : X.stack = X.env :: X.outer) (hf : X.env.frame = some X.env.locals) (hN : X.N.Nodup) (hi : X.N[i]? = some err) (hj : X.N[j]? = some wd) (hij : i ≠ j)
    (hln : X.env.kindOf err = some .local) (hve : Vis X.env.scope err) (hlw : Loc X.env.scope wd) (hfw : X.fn wd = true ∨ X.env.scope.names.lookup wd = some .local) (hc : Names X x (.ref c)) (hm : PySem.W.exmOne X.K (.ref D) (.ref c) = some true) (F : CalleeE X.prog X.w X.K X.mg X.base k g q D word) (hr : Room k X.A) (hg : Gl X g) (hdg : (g == ("__debug__" : Str)) = false)
    (hb : ∀ (W : WX) (pn : List (Addr × Obj)) (xe : Value → Shared → Prop), L2N.Takes (X.tr pn xe) W → PassesOwn (model X.prog X.w) X.A X.env xe → DYs (X.tr pn xe) G W (.ref D) body y)
    (hd : (err == ("__debug__" : Str)) = false := by decide) (hcd : (err == ("__classdict__" : Str)) = false := by decide)
    (hsw : ∀ a pn, swapsWith (.Call (.Name g p4) [.Name err p5] [] p6) (some (.Name wd p2)) p3.line (X.suite a pn).env = pure false := by intros; rfl)
    (he : ∀ a pn, starEach [.Name err p5] (X.suite a pn).env = (false, eval (.Name err p5) (X.suite a pn).env) :: starEach [] (X.suite a pn).env := by intros; rfl) (hpl : ∀ a pn, (backTo p6 (starEach [] (X.suite a pn).env)).any (·.1) = false := by intros; rfl) :
    DS X G (.Try body [.ExceptHandler (some (.Name x p1)) (some err) [.Assign [.Name wd p2] (.Call (.Name g p4) [.Name err p5] [] p6) p3] pos'] [] [] pos) (sTry y i j word) := by
  have base := L2N.ps_try_as (X := X) (c := .ref c) (i := i) (n := err) (x := x) (np := p1) (pos := pos) (pos' := pos') (body := body) (b₀ := .Assign [.Name wd p2] (.Call (.Name g p4) [.Name err p5] [] p6) p3) (suite := [])
    (tb := fun W => tYx G W (.ref D) y) (Wout := fun _ _ _ _ => False) (ts := fun a cls d T σ H => cls = .ref D ∧ d = none ∧ σ[i]? = some (some (.ref a)) ∧ ∀ H', Same H H' → T.nx (σ.set j (some (.str word))) H')
    hs hf hN hi hln hc (fun u s' z => by obtain ⟨_, _, _, _, _, _, _, _, _, _, _, _, _, _, _, _, z⟩ := z; exact z.elim) hb (fun a oe cls d pn hz hv => ?_)
  · refine ps_mono base fun T σ H hw => ?_
    obtain ⟨e, S, f, r, o, hx, q⟩ := hw
    obtain ⟨o1, h1, hx⟩ := Option.bind_eq_some_iff.mp hx
    refine ⟨e, S, f, r, o1, h1, ?_⟩
    cases o1 with
    | o z => cases hx; exact q
    | ex e' S' =>
      by_cases c : i < e'.length ∧ j < e'.length
      · have hx : some (Out.nx ((e'.set i none).set j (some (.val (.pu (.str word))))) S') = some o := by rw [← hx]; exact (if_pos c).symm
        cases hx
        intro σ' H' f' r' x'
        have li : i < σ'.length := by rw [← r'.ln]; exact c.1
        refine ⟨true, hm, fun _ a ha => ⟨rfl, rfl, List.getElem?_set_self li, fun H2 z => ?_⟩, fun z => by cases z⟩
        have r1 := (r'.same z).drop i
        have n1 : ∀ s, (e'.set i none)[i]? ≠ some (some s) := fun s y => by rw [List.getElem?_set_self c.1] at y; cases y
        have r2 := (r1.any n1 (some (.ref a))).set (i := j) (v := .str word) (d := .pu (.str word)) (.str word)
        have n2 : ∀ s, ((e'.set i none).set j (some (.val (.pu (.str word)))))[i]? ≠ some (some s) := fun s y => by rw [List.getElem?_set_ne (Ne.symm hij)] at y; exact n1 s y
        exact q _ H2 f' (r2.any n2 none) (x'.trans (.of z))
      · have hx : (none : Option Out) = some o := by rw [← hx]; exact (if_neg c).symm
        cases hx
  · have hr2 : L2H.RoomH k (X.suite a ((a, oe) :: pn)).A := ⟨hr.dp, hr.un⟩
    have key : ∀ D', cls = .ref D' → d = none → D' = D → PSs (X.suite a ((a, oe) :: pn)) [.Assign [.Name wd p2] (.Call (.Name g p4) [.Name err p5] [] p6) p3] (fun T σ H => σ[i]? = some (some (.ref a)) ∧ ∀ H', Same H H' → T.nx (σ.set j (some (.str word))) H') := by
      rintro D' rfl rfl rfl
      exact pss_one (ps_mono (ps_set (i := j) hN hj hlw (pe_exc (X := X.suite a ((a, oe) :: pn)) (i := i) (a := a) (oe := oe) (D := D') F hr2 rfl List.mem_cons_self hz hv hi hve hg hd hcd hdg (he a _) (hpl a _)) (hsw a _) hfw) fun T σ H hw => ⟨hw.1, hw.2⟩)
    refine ⟨fun pins s σ H T I hw => ?_⟩
    obtain ⟨h1, h2, h3, h4⟩ := hw
    exact (key D h1 h2 rfl).run pins s σ H T I ⟨h3, h4⟩
end DL
namespace DL
open PySem PySem.Spec PyProof.Rows L2
def tryQ (i j : Nat) (word : Str) (Q : Out → Prop) : OutY → Prop
  | .o x => Q x
  | .ex e' S' => (i < e'.length ∧ j < e'.length) ∧ Q (.nx ((e'.set i none).set j (some (.val (.pu (.str word))))) S')
theorem w_sTry {e : Envi} {S : Sto} {y : Yx} {i j : Nat} {word : Str} {Q : Out → Prop} : W (sTry y i j word e S) Q ↔ W (y e S) (tryQ i j word Q) := by
  refine w_bind.trans ⟨fun h => h.imp fun o h => ?_, fun h => h.imp fun o h => ?_⟩
  · cases o with
    | o x => exact (w_some (Q := Q)).mp h
    | ex e' S' =>
      have h : W (if i < e'.length ∧ j < e'.length then some (Out.nx ((e'.set i none).set j (some (.val (.pu (.str word))))) S') else none) Q := h
      rw [w_ite, w_none] at h
      by_cases c : i < e'.length ∧ j < e'.length
      · rw [if_pos c] at h; exact ⟨c, (w_some (Q := Q)).mp h⟩
      · rw [if_neg c] at h; exact h.elim
  · cases o with
    | o x => exact (w_some (Q := Q)).mpr h
    | ex e' S' =>
      show W (if i < e'.length ∧ j < e'.length then some (Out.nx ((e'.set i none).set j (some (.val (.pu (.str word))))) S') else none) Q
      rw [if_pos h.1]
      exact (w_some (Q := Q)).mpr h.2
theorem w_tryO {i j : Nat} {word : Str} {Q : Out → Prop} {x : Out} : tryQ i j word Q (.o x) ↔ Q x := Iff.rfl
theorem w_tryX {i j : Nat} {word : Str} {Q : Out → Prop} {e : Envi} {S : Sto} : tryQ i j word Q (.ex e S) ↔ (i < e.length ∧ j < e.length) ∧ Q (.nx ((e.set i none).set j (some (.val (.pu (.str word))))) S) := Iff.rfl
end DL
namespace K60
open PySem PySem.Spec PyProof.Rows L2 DL
def topS (i : Nat) : Stmt := PySem.Challenge.pw_millpath_k60_needs_in_a_ring.main.body.getD i (.Pass ⟨0, 0, 0, 0⟩)
/-! ### _law_begin -/
abbrev s__law_begin : Stmt := topS 21
abbrev N__law_begin : List Str := ["_law_script", "_law_cells"]
theorem sc__law_begin : FnScope N__law_begin ["_law_script"] (defScope s__law_begin) := ⟨rfl, rfl, rfl, by decide +kernel, rfl, by decide +kernel, by decide +kernel⟩
theorem ok__law_begin {Pg : Program} {w : World} {K : PySem.W.Frag} {mg : Str → Option Value} {base : Heap} {cl : Str → Option Addr} {f : Addr} {fd : FuncData} (F : Fun K "_law_begin" "_law_begin" s__law_begin f fd) (z_list : mg "list" = none) : FnOk Pg w K mg base CX0 1 f fd ["_law_script"] (SpF K cl 1 m__law_begin) :=
  fnF (k := 0) (cl := cl) F sc__law_begin rfl fun cdv A outer s H E G hG hcl hr => by
    have nd := sc__law_begin.nd
    have hK : K = G.K := hG.symm
    have hu := hu_of hr
    have hu2 := hr.units
    have hu3 := hu65 hr
    exact ds_cons (ds_set nd rfl (by first | exact .inl rfl | exact .inr rfl) (d_callTy call_list_of (v_listC hK) (by rfl) z_list (by rfl) (d_acons (d_slice hK (d_var 0) (d_onone) (d_osome (d_int))) (d_anil)))) (ds_cons (ds_if (d_cmpT (op_eqD hu2) (v_eq hK) (d_var 1) (d_lst (d_anil)) (nomark _)) (ds_cons (ds_set nd rfl (by first | exact .inl rfl | exact .inr rfl) (d_lstC (d_acons (d_int) (d_anil)))) (ds_nil)) (ds_nil)) (ds_cons (ds_ret (d_disp (dps_cons pe_str (d_var 1) (dps_cons pe_str (d_int) (dps_nil))))) (ds_nil)))
/-! ### _law_take -/
abbrev s__law_take : Stmt := topS 22
abbrev N__law_take : List Str := ["_law_state", "_law_many", "_law_turn", "_law_place", "_law_cell", "_law_mixed", "_law_digit"]
theorem sc__law_take : FnScope N__law_take ["_law_state", "_law_many"] (defScope s__law_take) := ⟨rfl, rfl, rfl, by decide +kernel, rfl, by decide +kernel, by decide +kernel⟩
theorem ok__law_take {Pg : Program} {w : World} {K : PySem.W.Frag} {mg : Str → Option Value} {base : Heap} {cl : Str → Option Addr} {f : Addr} {fd : FuncData} (F : Fun K "_law_take" "_law_take" s__law_take f fd) (z_divmod : mg "divmod" = none) (z_len : mg "len" = none) : FnOk Pg w K mg base CX0 1 f fd ["_law_state", "_law_many"] (SpF K cl 2 m__law_take) :=
  fnF (k := 0) (cl := cl) F sc__law_take rfl fun cdv A outer s H E G hG hcl hr => by
    have nd := sc__law_take.nd
    have hK : K = G.K := hG.symm
    have hu := hu_of hr
    have hu2 := hr.units
    have hu3 := hu65 hr
    exact ds_cons (ds_set nd rfl (by first | exact .inl rfl | exact .inr rfl) (d_op op_addA (v_add hK) (d_get hK hu (d_var 0) (d_str) (fun _ _ => rfl) (fun _ _ => rfl)) (d_int))) (ds_cons (ds_asg (u := fun _ => true) (d_var 2) (dg_sub hu (d_var 0) (d_str))) (ds_cons (ds_set nd rfl (by first | exact .inl rfl | exact .inr rfl) (d_op op_mod vp_mod.v (d_var 2) (d_callB call_len (v_len hK) (by rfl) z_len (by rfl) (d_acons (d_get hK hu (d_var 0) (d_str) (fun _ _ => rfl) (fun _ _ => rfl)) (d_anil))))) (ds_cons (ds_set nd rfl (by first | exact .inl rfl | exact .inr rfl) (d_get hK hu (d_get hK hu (d_var 0) (d_str) (fun _ _ => rfl) (fun _ _ => rfl)) (d_var 3) (fun _ _ => rfl) (fun _ _ => rfl))) (ds_cons (ds_if (d_cmpT op_ge vp_IB.v (d_var 4) (d_op op_pow vp_pow.v (d_int) (d_int)) (nomark _)) (ds_cons (ds_asg (u := fun _ => true) (d_callB call_divmod vp_divmod.v (by rfl) z_divmod (by rfl) (d_acons (d_var 4) (d_acons (d_var 1) (d_anil)))) (dg_any hK rfl (dgs_cons (dg_sub hu (d_get hK hu (d_var 0) (d_str) (fun _ _ => rfl) (fun _ _ => rfl)) (d_var 3)) (dgs_cons (dg_name (i := 6) (by decide) nd rfl (by first | exact .inl rfl | exact .inr rfl)) (dgs_nil))))) (ds_cons (ds_ret (d_var 6)) (ds_nil))) (ds_nil)) (ds_cons (ds_set nd rfl (by first | exact .inl rfl | exact .inr rfl) (d_op op_mod vp_mod.v (d_op op_mul vp_mul.v (d_op op_addA (v_add hK) (d_op op_addA (v_add hK) (d_op op_mod vp_mod.v (d_var 4) (d_int)) (d_op op_mul vp_mul.v (d_op op_mul vp_mul.v (d_var 2) (d_var 2)) (d_int))) (d_int)) (d_int)) (d_int))) (ds_cons (ds_set nd rfl (by first | exact .inl rfl | exact .inr rfl) (d_op op_mod vp_mod.v (d_op op_mul vp_mul.v (d_var 5) (d_var 5)) (d_int))) (ds_cons (ds_ret (d_op op_mod vp_mod.v (d_op op_fdiv vp_div.v (d_op op_mod vp_mod.v (d_op op_mul vp_mul.v (d_op op_addA (v_add hK) (d_var 5) (d_op op_mul vp_mul.v (d_var 2) (d_int))) (d_int)) (d_int)) (d_int)) (d_var 1))) (ds_nil))))))))
/-! ### _law_jobs -/
abbrev s__law_jobs : Stmt := topS 23
abbrev N__law_jobs : List Str := ["_law_state", "_law_many", "_law_tools", "_law_left", "_law_order", "_law_names", "_law_jobs_here", "_law_most", "_law_place", "_law_number", "_law_needs", "_law_turn"]
theorem sc__law_jobs : FnScope N__law_jobs ["_law_state", "_law_many", "_law_tools"] (defScope s__law_jobs) := ⟨rfl, rfl, rfl, by decide +kernel, rfl, by decide +kernel, by decide +kernel⟩
theorem ok__law_jobs {Pg : Program} {w : World} {K : PySem.W.Frag} {mg : Str → Option Value} {base : Heap} {cl : Str → Option Addr} {f : Addr} {fd : FuncData} (F : Fun K "_law_jobs" "_law_jobs" s__law_jobs f fd) (z_enumerate : mg "enumerate" = none) (z_len : mg "len" = none) (z_list : mg "list" = none) (z_range : mg "range" = none) (G__law_take : Callee Pg w K mg base 1 "_law_take" ["_law_state", "_law_many"] (SpF K cl 2 (m__law_take))) : FnOk Pg w K mg base CX0 2 f fd ["_law_state", "_law_many", "_law_tools"] (SpF K cl 3 m__law_jobs) :=
  fnF (k := 1) (cl := cl) F sc__law_jobs rfl fun cdv A outer s H E G hG hcl hr => by
    have nd := sc__law_jobs.nd
    have hK : K = G.K := hG.symm
    have hu := hu_of hr
    have hu2 := hr.units
    have hu3 := hu65 hr
    exact ds_cons (ds_set nd rfl (by first | exact .inl rfl | exact .inr rfl) (d_listRg1C rfl (by rfl) z_list (by rfl) z_range (d_var 1))) (ds_cons (ds_setLc (own := [("_law_turn", 11)]) (keep_nm) rfl nd rfl rfl (sw_true rfl rfl rfl (by decide +kernel)) (di_range1 (by rfl) z_range (d_acons (d_var 1) (d_anil))) (blkOk_by (N := N__law_jobs) (sc := defScope s__law_jobs) (by decide +kernel)) (fun _ _ _ _ _ => dn_name (i := 11) (by decide) nd rfl (by first | exact .inl rfl | exact .inr rfl)) (fun _ _ _ _ _ => dts_nil) (fun _ _ _ _ _ => d_popI (d_var 3) (d_cF (by rw [hG, hcl]; exact G__law_take) (fun _ _ _ h => l__law_take h) (hr.mono (by decide)) (d_acons (d_var 0) (d_acons (d_callB call_len (v_len hK) (by rfl) z_len (by rfl) (d_acons (d_var 3) (d_anil))) (d_anil)))))) (ds_cons (ds_set nd rfl (by first | exact .inl rfl | exact .inr rfl) (d_ix hK (d_lst (d_acons (d_lst (d_acons (d_int) (d_acons (d_int) (d_acons (d_int) (d_acons (d_int) (d_acons (d_int) (d_anil))))))) (d_acons (d_lst (d_acons (d_int) (d_acons (d_int) (d_acons (d_int) (d_acons (d_int) (d_acons (d_int) (d_anil))))))) (d_acons (d_lst (d_acons (d_int) (d_acons (d_int) (d_acons (d_int) (d_acons (d_int) (d_acons (d_int) (d_anil))))))) (d_anil))))) (d_cF (by rw [hG, hcl]; exact G__law_take) (fun _ _ _ h => l__law_take h) (hr.mono (by decide)) (d_acons (d_var 0) (d_acons (d_int) (d_anil)))) (fun _ _ => rfl))) (ds_cons (ds_set nd rfl (by first | exact .inl rfl | exact .inr rfl) (d_op op_rep v_repN (d_lstN (d_acons (d_tup (d_acons (d_int) (d_acons (d_lst (d_anil)) (d_anil)))) (d_anil))) (d_var 1))) (ds_cons (ds_set nd rfl (by first | exact .inl rfl | exact .inr rfl) (d_ix hK (d_lst (d_acons (d_int) (d_acons (d_int) (d_acons (d_int) (d_acons (d_int) (d_anil)))))) (d_cF (by rw [hG, hcl]; exact G__law_take) (fun _ _ _ h => l__law_take h) (hr.mono (by decide)) (d_acons (d_var 0) (d_acons (d_int) (d_anil)))) (fun _ _ => rfl))) (ds_fq 4 (ds_cons (ds_for (u := fun _ => true) PassesOwn.never rfl (di_enum hK (by rfl) z_enumerate (d_acons (d_var 4) (d_anil))) (dn_dg (dn_tup hK rfl (dns_cons (dn_name (i := 8) (by decide) nd rfl (by first | exact .inl rfl | exact .inr rfl)) (keep_nm) (dns_cons (dn_name (i := 9) (by decide) nd rfl (by first | exact .inl rfl | exact .inr rfl)) (keep_nm) (dns_nil)))) (keep_lst (keep_cons (keep_cons (keep_nil))))) (ds_cons (ds_set nd rfl (by first | exact .inl rfl | exact .inr rfl) (d_lstN (d_anil))) (ds_cons (ds_for (u := fun _ => true) PassesOwn.never rfl (di_range1 (by rfl) z_range (d_acons (d_ite (d_cmpT op_gt vp_IB.v (d_var 8) (d_int) (nomark _)) (d_cF (by rw [hG, hcl]; exact G__law_take) (fun _ _ _ h => l__law_take h) (hr.mono (by decide)) (d_acons (d_var 0) (d_acons (d_op op_addA (v_add hK) (d_var 7) (d_int)) (d_anil)))) (d_int)) (d_anil))) (dg_name (i := 11) (by decide) nd rfl (by first | exact .inl rfl | exact .inr rfl)) (ds_cons (ds_app (d_var 10) (d_get hK hu (d_var 4) (d_cF (by rw [hG, hcl]; exact G__law_take) (fun _ _ _ h => l__law_take h) (hr.mono (by decide)) (d_acons (d_var 0) (d_acons (d_var 8) (d_anil)))) (fun _ _ => rfl) (fun _ _ => rfl))) (ds_nil))) (ds_fq 10 (ds_cons (ds_asg (u := fun _ => true) (d_tup (d_acons (d_get hK hu (d_var 5) (d_cF (by rw [hG, hcl]; exact G__law_take) (fun _ _ _ h => l__law_take h) (hr.mono (by decide)) (d_acons (d_var 0) (d_acons (d_var 2) (d_anil)))) (fun _ _ => rfl) (fun _ _ => rfl)) (d_acons (d_var 10) (d_anil)))) (dg_sub hu (d_var 6) (d_var 9))) (ds_nil)))))) (ds_fq 6 (ds_cons (ds_ret (d_var 6)) (ds_nil)))))))))
/-! ### _law_word -/
abbrev s__law_word : Stmt := topS 24
abbrev N__law_word : List Str := ["_law_error", "_law_others"]
theorem sc__law_word : FnScope N__law_word ["_law_error"] (defScope s__law_word) := ⟨rfl, rfl, rfl, by decide +kernel, rfl, by decide +kernel, by decide +kernel⟩
theorem ok__law_word {Pg : Program} {w : World} {K : PySem.W.Frag} {mg : Str → Option Value} {base : Heap} {cl : Str → Option Addr} {f : Addr} {fd : FuncData} (F : Fun K "_law_word" "_law_word" s__law_word f fd) (z_ValueError : mg "ValueError" = none) (z_isinstance : mg "isinstance" = none) {X_Round X_NoTool X_NoWay X_Meets X_Bites X_Cuts X_BadRow : Addr} (C_E : ExcC K X_Round) (n_Round : mg "Round" = some (.ref X_Round)) (n_NoTool : mg "NoTool" = some (.ref X_NoTool)) (k_NoTool : PySem.W.kitOne K (.ref X_Round) (.ref X_NoTool) = some false) (n_NoWay : mg "NoWay" = some (.ref X_NoWay)) (k_NoWay : PySem.W.kitOne K (.ref X_Round) (.ref X_NoWay) = some false) (n_Meets : mg "Meets" = some (.ref X_Meets)) (k_Meets : PySem.W.kitOne K (.ref X_Round) (.ref X_Meets) = some false) (n_Bites : mg "Bites" = some (.ref X_Bites)) (k_Bites : PySem.W.kitOne K (.ref X_Round) (.ref X_Bites) = some false) (n_Cuts : mg "Cuts" = some (.ref X_Cuts)) (k_Cuts : PySem.W.kitOne K (.ref X_Round) (.ref X_Cuts) = some false) (n_BadRow : mg "BadRow" = some (.ref X_BadRow)) (k_BadRow : PySem.W.kitOne K (.ref X_Round) (.ref X_BadRow) = some false) (k_Round : PySem.W.kitOne K (.ref X_Round) (.ref X_Round) = some true) (k_VE : PySem.W.kitOne K (.ref X_Round) (.type "ValueError") = some true) : FnE Pg w K mg base 1 f fd "_law_error" X_Round "round" :=
  fnE F sc__law_word fun X a hK hmg hpin hot hX => by
    obtain ⟨cdv, A, outer, s, H, E, p, rfl⟩ := hX
    have nd := sc__law_word.nd
    refine pss_mono (pss_cons (ps_set (i := 1) nd rfl (by first | exact .inl rfl | exact .inr rfl) (pe_callB (call_exI C_E hpin) (by rfl) z_isinstance rfl (pa_cons (pv 0) (pa_cons (pe_tup (pa_cons (pe_glob (v := .ref X_NoTool) (by rfl) n_NoTool rfl) (pa_cons (pe_glob (v := .ref X_NoWay) (by rfl) n_NoWay rfl) (pa_cons (pe_glob (v := .ref X_Meets) (by rfl) n_Meets rfl) (pa_cons (pe_glob (v := .ref X_Bites) (by rfl) n_Bites rfl) (pa_cons (pe_glob (v := .ref X_Cuts) (by rfl) n_Cuts rfl) (pa_cons (pe_glob (v := .ref X_BadRow) (by rfl) n_BadRow rfl) pa_nil))))))) pa_nil))))
      (pss_cons (ps_if (pw_or (pt_val (pv 1)) (pw_or (pt_not (pt_val (pe_callB (call_exI C_E hpin) (by rfl) z_isinstance rfl (pa_cons (pv 0) (pa_cons (pe_bltn (v := .ty "ValueError") (by rfl) z_ValueError rfl rfl) pa_nil))))) (pw_or1 (pt_not (pt_val (pe_callB (call_exI C_E hpin) (by rfl) z_isinstance rfl (pa_cons (pv 0) (pa_cons (pe_glob (v := .ref X_Round) (by rfl) n_Round rfl) pa_nil)))))))).pt (pss_one (ps_ret pe_str)) pss_nil) (pss_one (ps_ret pe_str)))) fun T σ H hw => ?_
    obtain ⟨h0, hw⟩ := hw
    subst h0
    refine ⟨_, rfl, Nat.le_of_ble_eq_true rfl, fun tp np => .inr ⟨tp, _, _, false, rfl, upd_same, (.cons (.own X_NoTool) (.cons (.own X_NoWay) (.cons (.own X_Meets) (.cons (.own X_Bites) (.cons (.own X_Cuts) (.cons (.own X_BadRow) .nil)))))), (kitAny_cons k_NoTool (fun _ => (kitAny_cons k_NoWay (fun _ => (kitAny_cons k_Meets (fun _ => (kitAny_cons k_Bites (fun _ => (kitAny_cons k_Cuts (fun _ => (kitAny_cons k_BadRow (fun _ => kitAny_nil) (fun z => by cases z))) (fun z => by cases z))) (fun z => by cases z))) (fun z => by cases z))) (fun z => by cases z))) (fun z => by cases z)), ?_⟩⟩
    have hs : Same H (upd H tp (.tup [.ref X_NoTool, .ref X_NoWay, .ref X_Meets, .ref X_Bites, .ref X_Cuts, .ref X_BadRow])) := upd_new np
    refine ⟨_, rfl, false, rfl, iteF ⟨_, rfl, .inl ⟨_, _, true, rfl, .ty _, k_VE, true, rfl, iteF ⟨_, rfl, .inl ⟨_, _, true, rfl, .own _, k_Round, true, rfl, iteF ?_⟩⟩⟩⟩⟩
    exact hw _ hs
/-! ### tools_of -/
abbrev s_tools_of : Stmt := topS 10
abbrev N_tools_of : List Str := ["jobs", "job"]
theorem sc_tools_of : FnScope N_tools_of ["jobs"] (defScope s_tools_of) := ⟨rfl, rfl, rfl, by decide +kernel, rfl, by decide +kernel, by decide +kernel⟩
theorem ok_tools_of {Pg : Program} {w : World} {K : PySem.W.Frag} {mg : Str → Option Value} {base : Heap} {cl : Str → Option Addr} {f : Addr} {fd : FuncData} (F : Fun K "tools_of" "tools_of" s_tools_of f fd) (z_set : mg "set" = none) (z_sorted : mg "sorted" = none) : FnOk Pg w K mg base CX0 1 f fd ["jobs"] (SpP 1 m_tools_of) :=
  fnP (k := 0) (cl := cl) F sc_tools_of rfl fun cdv A outer s H E G hG hcl hr => by
    have nd := sc_tools_of.nd
    have hK : K = G.K := hG.symm
    have hu := hu_of hr
    have hu2 := hr.units
    have hu3 := hu65 hr
    exact ds_cons (ds_ret (d_sortSet hK rfl (d_lc (own := [("job", 1)]) (keep_nm) rfl nd (di_seq hK (d_var 0)) (blkOk_by (N := N_tools_of) (sc := defScope s_tools_of) (by decide +kernel)) (fun _ _ _ _ _ => dn_name (i := 1) (by decide) nd rfl (by first | exact .inl rfl | exact .inr rfl)) (fun _ _ _ _ _ => dts_nil) (fun _ _ _ _ _ => d_ix hK (d_var 1) (d_int) (fun _ _ => rfl))) (by rfl) z_sorted (by rfl) z_set)) (ds_nil)
/-! ### Taking___init__ -/
abbrev s_Taking___init__ : Stmt := inClass (topS 14) 0
abbrev N_Taking___init__ : List Str := ["self", "jobs"]
theorem sc_Taking___init__ : FnScope N_Taking___init__ ["self", "jobs"] (defScope s_Taking___init__) := ⟨rfl, rfl, rfl, by decide +kernel, rfl, by decide +kernel, by decide +kernel⟩
theorem ok_Taking___init__ {Pg : Program} {w : World} {K : PySem.W.Frag} {mg : Str → Option Value} {base : Heap} {cl : Str → Option Addr} {f : Addr} {fd : FuncData} (F : Fun K "__init__" "Taking.__init__" s_Taking___init__ f fd) (G_tools_of : Callee Pg w K mg base 1 "tools_of" ["jobs"] (SpP 1 (m_tools_of))) (T_Taking_jobs : ClsD K cl "Taking" "jobs") (T_Taking_known : ClsD K cl "Taking" "known") (T_Taking_tools : ClsD K cl "Taking" "tools") : FnOk Pg w K mg base CX0 2 f fd ["self", "jobs"] (SpF K cl 2 m_Taking___init__) :=
  fnF (k := 1) (cl := cl) F sc_Taking___init__ rfl fun cdv A outer s H E G hG hcl hr => by
    have nd := sc_Taking___init__.nd
    have hK : K = G.K := hG.symm
    have hu := hu_of hr
    have hu2 := hr.units
    have hu3 := hu65 hr
    exact ds_cons (ds_fld (c := "Taking") hK (by rw [hG, hcl]; exact T_Taking_jobs) (d_var 0) (d_var 1)) (ds_cons (ds_fld (c := "Taking") hK (by rw [hG, hcl]; exact T_Taking_tools) (d_var 0) (d_cP G_tools_of (fun _ _ h => l_tools_of h) (hr.mono (by decide)) (d_acons (d_var 1) (d_anil)))) (ds_cons (ds_fld (c := "Taking") hK (by rw [hG, hcl]; exact T_Taking_known) (d_var 0) (d_dct)) (ds_nil)))
/-! ### can_be_done -/
abbrev s_can_be_done : Stmt := topS 11
abbrev N_can_be_done : List Str := ["jobs", "number", "done", "need"]
theorem sc_can_be_done : FnScope N_can_be_done ["jobs", "number", "done"] (defScope s_can_be_done) := ⟨rfl, rfl, rfl, by decide +kernel, rfl, by decide +kernel, by decide +kernel⟩
theorem ok_can_be_done {Pg : Program} {w : World} {K : PySem.W.Frag} {mg : Str → Option Value} {base : Heap} {cl : Str → Option Addr} {f : Addr} {fd : FuncData} (F : Fun K "can_be_done" "can_be_done" s_can_be_done f fd) (z_all : mg "all" = none) : FnOk Pg w K mg base CX0 1 f fd ["jobs", "number", "done"] (SpP 3 m_can_be_done) :=
  fnP (k := 0) (cl := cl) F sc_can_be_done rfl fun cdv A outer s H E G hG hcl hr => by
    have nd := sc_can_be_done.nd
    have hK : K = G.K := hG.symm
    have hu := hu_of hr
    have hu2 := hr.units
    have hu3 := hu65 hr
    exact ds_cons (ds_ret (d_and (d_cmp (op_notInA hu3) (v_notIn hK) (d_var 1) (d_var 2) (by rfl)) (d_one (d_callB (cr_all rfl) (v_all hK) (by rfl) z_all (by rfl) (d_acons (d_lc (own := [("need", 3)]) (keep_nm) rfl nd (di_seq hK (d_ix hK (d_get hK hu (d_var 0) (d_var 1) (fun _ _ => rfl) (fun _ _ => rfl)) (d_int) (fun _ _ => rfl))) (blkOk_by (N := N_can_be_done) (sc := defScope s_can_be_done) (by decide +kernel)) (fun _ _ _ _ _ => dn_name (i := 3) (by decide) nd rfl (by first | exact .inl rfl | exact .inr rfl)) (fun _ _ _ _ _ => dts_nil) (fun _ _ _ _ _ => d_cmp (op_inA hu3) (v_in hK) (d_var 3) (d_var 2) (by rfl))) (d_anil)))))) (ds_nil)
/-! ### gone_on -/
abbrev s_gone_on : Stmt := topS 12
abbrev N_gone_on : List Str := ["jobs", "tool", "done", "found", "grown", "number", "job"]
theorem sc_gone_on : FnScope N_gone_on ["jobs", "tool", "done"] (defScope s_gone_on) := ⟨rfl, rfl, rfl, by decide +kernel, rfl, by decide +kernel, by decide +kernel⟩
theorem ok_gone_on {Pg : Program} {w : World} {K : PySem.W.Frag} {mg : Str → Option Value} {base : Heap} {cl : Str → Option Addr} {f : Addr} {fd : FuncData} (F : Fun K "gone_on" "gone_on" s_gone_on f fd) (z_enumerate : mg "enumerate" = none) (z_list : mg "list" = none) (z_sorted : mg "sorted" = none) (z_tuple : mg "tuple" = none) (G_can_be_done : Callee Pg w K mg base 1 "can_be_done" ["jobs", "number", "done"] (SpP 3 (m_can_be_done))) : FnOk Pg w K mg base CX0 2 f fd ["jobs", "tool", "done"] (SpP 3 m_gone_on) :=
  fnP (k := 1) (cl := cl) F sc_gone_on rfl fun cdv A outer s H E G hG hcl hr => by
    have nd := sc_gone_on.nd
    have hK : K = G.K := hG.symm
    have hu := hu_of hr
    have hu2 := hr.units
    have hu3 := hu65 hr
    exact ds_cons (ds_set nd rfl (by first | exact .inl rfl | exact .inr rfl) (d_callTy call_list_of (v_listN hK) (by rfl) z_list (by rfl) (d_acons (d_var 2) (d_anil)))) (ds_cons (ds_set nd rfl (by first | exact .inl rfl | exact .inr rfl) (d_bl)) (ds_cons (ds_while PassesOwn.never (d_test (d_var 4)) (ds_cons (ds_set nd rfl (by first | exact .inl rfl | exact .inr rfl) (d_bl)) (ds_cons (ds_for (u := fun _ => true) PassesOwn.never rfl (di_enumB hK (by rfl) z_enumerate (d_acons (d_var 0) (d_anil))) (dn_dg (dn_tup hK rfl (dns_cons (dn_name (i := 5) (by decide) nd rfl (by first | exact .inl rfl | exact .inr rfl)) (keep_nm) (dns_cons (dn_name (i := 6) (by decide) nd rfl (by first | exact .inl rfl | exact .inr rfl)) (keep_nm) (dns_nil)))) (keep_lst (keep_cons (keep_cons (keep_nil))))) (ds_cons (ds_if ((d_andT (d_cmpT (op_eqD hu2) (v_eq hK) (d_ix hK (d_var 6) (d_int) (fun _ _ => rfl)) (d_var 1) (nomark _)) (d_and1 (d_test (d_tf 3 (d_cP G_can_be_done (fun _ _ h => l_can_be_done h) (hr.mono (by decide)) (d_acons (d_var 0) (d_acons (d_var 5) (d_acons (d_var 3) (d_anil))))))))).pt) (ds_cons (ds_app (d_var 3) (d_var 5)) (ds_cons (ds_set nd rfl (by first | exact .inl rfl | exact .inr rfl) (d_bl)) (ds_nil))) (ds_nil)) (ds_nil))) (ds_nil)))) (ds_cons (ds_ret (d_callTy call_tuple_of (v_tupleA hK) (by rfl) z_tuple (by rfl) (d_acons (d_callB (cr_sortD hu3) (v_sortD hK) (by rfl) z_sorted (by rfl) (d_acons (d_var 3) (d_anil))) (d_anil)))) (ds_nil))))
/-! ### Taking_takes_from -/
abbrev s_Taking_takes_from : Stmt := inClass (topS 14) 1
abbrev N_Taking_takes_from : List Str := ["self", "done", "further", "tool", "more"]
theorem sc_Taking_takes_from : FnScope N_Taking_takes_from ["self", "done"] (defScope s_Taking_takes_from) := ⟨rfl, rfl, rfl, by decide +kernel, rfl, by decide +kernel, by decide +kernel⟩
theorem ok_Taking_takes_from {Pg : Program} {w : World} {K : PySem.W.Frag} {mg : Str → Option Value} {base : Heap} {cl : Str → Option Addr} {f : Addr} {fd : FuncData} (F : Fun K "takes_from" "Taking.takes_from" s_Taking_takes_from f fd) (hm : ∃ C, cl "Taking" = some C ∧ Cls K C ∧ Meth K C "takes_from" f) (z_len : mg "len" = none) (z_min : mg "min" = none) (G_gone_on : Callee Pg w K mg base 2 "gone_on" ["jobs", "tool", "done"] (SpP 3 (m_gone_on))) (T_Taking_jobs : ClsD K cl "Taking" "jobs") (T_Taking_known : ClsD K cl "Taking" "known") (T_Taking_tools : ClsD K cl "Taking" "tools") : ∀ j : Nat, FnOk Pg w K mg base CX0 (j + 2) f fd ["self", "done"] (SpF K cl 2 (m_Taking_takes_from j))
  | 0 => fn_none fun vs H Q E h => by
    obtain ⟨_, _, _, _, _, _, _, _, h, _⟩ := h
    cases h
  | j + 1 => FnOk.mono (fnF (k := (j + 2)) (cl := cl) F sc_Taking_takes_from rfl fun cdv A outer s H E G hG hcl hr => by
    have G_r : CalleeM Pg w K mg base cl (j + 2) "Taking" "takes_from" ["self", "done"] (SpF K cl 2 (m_Taking_takes_from j)) := let ⟨C, h1, h2, h3⟩ := hm; ⟨C, f, fd, h1, h2, h3, ok_Taking_takes_from (cl := cl) F hm z_len z_min G_gone_on T_Taking_jobs T_Taking_known T_Taking_tools j, F.binds (fun _ _ _ _ _ _ us hl => match us, hl with | [_, _], _ => rfl)⟩
    have hl : ∀ ds S r, m_Taking_takes_from j ds S = some r → ds.length = 2 := fun _ _ _ h => l_Taking_takes_from h
    have nd := sc_Taking_takes_from.nd
    have hK : K = G.K := hG.symm
    have hu := hu_of hr
    have hu2 := hr.units
    have hu3 := hu65 hr
    exact ds_cons (ds_if (d_cmpT (op_eqD hu2) (v_eq hK) (d_callB call_lenA (v_lenA hK) (by rfl) z_len (by rfl) (d_acons (d_var 1) (d_anil))) (d_callB call_lenA (v_lenA hK) (by rfl) z_len (by rfl) (d_acons (d_fld (c := "Taking") hK (by rw [hG, hcl]; exact T_Taking_jobs) (d_var 0)) (d_anil))) (nomark _)) (ds_cons (ds_ret (d_int)) (ds_nil)) (ds_nil)) (ds_cons (ds_if (d_cmpT (op_notInZ hu3) (v_inZ hK) (d_var 1) (d_fld (c := "Taking") hK (by rw [hG, hcl]; exact T_Taking_known) (d_var 0)) (by rfl)) (ds_cons (ds_setLc (own := [("tool", 3)]) (keep_nm) rfl nd rfl rfl (sw_true rfl rfl rfl (by decide +kernel)) (di_any hK (d_fld (c := "Taking") hK (by rw [hG, hcl]; exact T_Taking_tools) (d_var 0))) (blkOk_by (N := N_Taking_takes_from) (sc := defScope s_Taking_takes_from) (by decide +kernel)) (fun _ _ _ _ _ => dn_name (i := 3) (by decide) nd rfl (by first | exact .inl rfl | exact .inr rfl)) (fun _ _ _ _ _ => dts_nil) (fun _ _ _ _ _ => d_cP G_gone_on (fun _ _ h => l_gone_on h) (hr.mono (by omega)) (d_acons (d_fld (c := "Taking") hK (by rw [hG, hcl]; exact T_Taking_jobs) (d_var 0)) (d_acons (d_var 3) (d_acons (d_var 1) (d_anil)))))) (ds_fq 2 (ds_cons (ds_asg (u := fun _ => true) (d_op op_addA (v_add hK) (d_int) (d_callB (cr_min rfl) (v_minL hK) (by rfl) z_min (by rfl) (d_acons (d_lc (own := [("more", 4)]) (keep_nm) rfl nd (di_any hK (d_var 2)) (blkOk_by (N := N_Taking_takes_from) (sc := defScope s_Taking_takes_from) (by decide +kernel)) (fun _ _ _ _ _ => dn_name (i := 4) (by decide) nd rfl (by first | exact .inl rfl | exact .inr rfl)) (fun _ _ _ _ _ => dts_one (d_cmpT (op_neD hu2) (v_ne hK) (d_var 4) (d_var 1) (nomark _))) (fun _ _ _ _ _ => d_meth (by rw [hG, hcl]; exact G_r) hl (hr.mono (by omega)) (d_var 0) (d_acons (d_var 4) (d_anil)))) (d_anil)))) (dg_sub hu (d_fld (c := "Taking") hK (by rw [hG, hcl]; exact T_Taking_known) (d_var 0)) (d_var 1))) (ds_nil)))) (ds_nil)) (ds_cons (ds_ret (d_get hK hu (d_fld (c := "Taking") hK (by rw [hG, hcl]; exact T_Taking_known) (d_var 0)) (d_var 1) (fun _ _ => rfl) (fun _ _ => rfl))) (ds_nil)))) (by omega)
/-! ### is_part -/
abbrev s_is_part : Stmt := topS 17
abbrev N_is_part : List Str := ["one", "other", "number"]
theorem sc_is_part : FnScope N_is_part ["one", "other"] (defScope s_is_part) := ⟨rfl, rfl, rfl, by decide +kernel, rfl, by decide +kernel, by decide +kernel⟩
theorem ok_is_part {Pg : Program} {w : World} {K : PySem.W.Frag} {mg : Str → Option Value} {base : Heap} {cl : Str → Option Addr} {f : Addr} {fd : FuncData} (F : Fun K "is_part" "is_part" s_is_part f fd) (z_all : mg "all" = none) : FnOk Pg w K mg base CX0 1 f fd ["one", "other"] (SpP 2 m_is_part) :=
  fnP (k := 0) (cl := cl) F sc_is_part rfl fun cdv A outer s H E G hG hcl hr => by
    have nd := sc_is_part.nd
    have hK : K = G.K := hG.symm
    have hu := hu_of hr
    have hu2 := hr.units
    have hu3 := hu65 hr
    exact ds_cons (ds_ret (d_callB (cr_all rfl) (v_all hK) (by rfl) z_all (by rfl) (d_acons (d_lc (own := [("number", 2)]) (keep_nm) rfl nd (di_seq hK (d_var 0)) (blkOk_by (N := N_is_part) (sc := defScope s_is_part) (by decide +kernel)) (fun _ _ _ _ _ => dn_name (i := 2) (by decide) nd rfl (by first | exact .inl rfl | exact .inr rfl)) (fun _ _ _ _ _ => dts_nil) (fun _ _ _ _ _ => d_cmp (op_inA hu3) (v_in hK) (d_var 2) (d_var 1) (by rfl))) (d_anil)))) (ds_nil)
/-! ### greatest_ones -/
abbrev s_greatest_ones : Stmt := topS 18
abbrev N_greatest_ones : List Str := ["some", "unlike", "one", "other"]
theorem sc_greatest_ones : FnScope N_greatest_ones ["some"] (defScope s_greatest_ones) := ⟨rfl, rfl, rfl, by decide +kernel, rfl, by decide +kernel, by decide +kernel⟩
theorem ok_greatest_ones {Pg : Program} {w : World} {K : PySem.W.Frag} {mg : Str → Option Value} {base : Heap} {cl : Str → Option Addr} {f : Addr} {fd : FuncData} (F : Fun K "greatest_ones" "greatest_ones" s_greatest_ones f fd) (z_any : mg "any" = none) (z_set : mg "set" = none) (z_sorted : mg "sorted" = none) (G_is_part : Callee Pg w K mg base 1 "is_part" ["one", "other"] (SpP 2 (m_is_part))) : FnOk Pg w K mg base CX0 2 f fd ["some"] (SpP 1 m_greatest_ones) :=
  fnP (k := 1) (cl := cl) F sc_greatest_ones rfl fun cdv A outer s H E G hG hcl hr => by
    have nd := sc_greatest_ones.nd
    have hK : K = G.K := hG.symm
    have hu := hu_of hr
    have hu2 := hr.units
    have hu3 := hu65 hr
    exact ds_cons (ds_set nd rfl (by first | exact .inl rfl | exact .inr rfl) (d_sortSetT hK rfl hu3 (by rfl) z_sorted (by rfl) z_set (d_var 0))) (ds_cons (ds_ret (d_lc (own := [("one", 2)]) (keep_nm) rfl nd (di_seq hK (d_var 1)) (blkOk_by (N := N_greatest_ones) (sc := defScope s_greatest_ones) (by decide +kernel)) (fun _ _ _ _ _ => dn_name (i := 2) (by decide) nd rfl (by first | exact .inl rfl | exact .inr rfl)) (fun _ _ _ _ _ => dts_one (d_notT (d_test (d_callB (cr_any rfl) (v_any hK) (by rfl) z_any (by rfl) (d_acons (d_lc (own := [("other", 3)]) (keep_nm) rfl nd (di_seq hK (d_var 1)) (blkOk_by (by kernel_rfl)) (fun _ _ _ _ _ => dn_name (i := 3) (by decide) nd rfl (by first | exact .inl rfl | exact .inr rfl)) (fun _ _ _ _ _ => dts_nil) (fun _ _ _ _ _ => d_and (d_cmp (op_neD hu2) (v_ne hK) (d_var 2) (d_var 3) (nomark _)) (d_one (d_cP G_is_part (fun _ _ h => l_is_part h) (hr.mono (by decide)) (d_acons (d_var 2) (d_acons (d_var 3) (d_anil))))))) (d_anil)))))) (fun _ _ _ _ _ => d_var 2))) (ds_nil))
/-! ### look_round -/
abbrev s_look_round : Stmt := topS 13
abbrev N_look_round : List Str := ["jobs", "done", "grown", "more", "number"]
theorem sc_look_round : FnScope N_look_round ["jobs"] (defScope s_look_round) := ⟨rfl, rfl, rfl, by decide +kernel, rfl, by decide +kernel, by decide +kernel⟩
noncomputable def b_look_round_y : Yx := ySeq (yOf (sSet 1 (xA gLst (aNil)))) (ySeq (yOf (sSet 2 (xP (.bool true)))) (ySeq (yOf (sWhile (tOfE (xVar 2)) (sSeq (sSetLc 3 (iRange1 (aCons (xA gLen (aCons (xVar 0) (aNil))) (aNil))) (gNm 4) (tOfE (xA (gCallP m_can_be_done) (aCons (xVar 0) (aCons (xVar 4) (aCons (xVar 1) (aNil)))))) (xVar 4) [4]) (sFq 3 (sSeq (sSet 1 (x2 gAdd (xVar 1) (xVar 3))) (sSeq (sSet 2 (x2 (s2 (pIB fun i j => decide (j < i))) (xA gLen (aCons (xVar 3) (aNil))) (xP (.int 0)))) (sNil))))))) (ySeq (yIf (tOfE (x2 (s2 (pIB fun i j => decide (i < j))) (xA gLen (aCons (xVar 1) (aNil))) (xA gLen (aCons (xVar 0) (aNil))))) (ySeq (yRaise) (yOf (sNil))) (yOf (sNil))) (yOf (sNil)))))
noncomputable def m_look_round_y : List D → Sto → Option Rz := runY 1 5 b_look_round_y
theorem l_look_round_y {ds : List D} {S : Sto} {p : Rz} (h : m_look_round_y ds S = some p) : ds.length = 1 := runY_len h
theorem ok_look_round {Pg : Program} {w : World} {K : PySem.W.Frag} {mg : Str → Option Value} {base : Heap} {cl : Str → Option Addr} {f : Addr} {fd : FuncData} (F : Fun K "look_round" "look_round" s_look_round f fd) (z_len : mg "len" = none) (z_range : mg "range" = none) {X_Round : Addr} (E_Round : ExcT K mg "Round" X_Round) (G_can_be_done : Callee Pg w K mg base 1 "can_be_done" ["jobs", "number", "done"] (SpP 3 (m_can_be_done))) : FnOk Pg w K mg base (L2N.CX Pg w) 2 f fd ["jobs"] (SpY K cl 1 m_look_round_y (.ref X_Round)) :=
  fnY (k := 1) (cl := cl) F sc_look_round rfl fun X W G hX hG hcl tk hp hr => by
    obtain ⟨cdv, A, outer, s, H, E, rfl, _⟩ := hX
    have nd := sc_look_round.nd
    have hK : K = G.K := hG.symm
    have hu := hu_of hr
    have hu2 := hr.units
    have hu3 := hu65 hr
    exact dy_cons (dy_of (ds_set nd rfl (by first | exact .inl rfl | exact .inr rfl) (d_lst (d_anil)))) (dy_cons (dy_of (ds_set nd rfl (by first | exact .inl rfl | exact .inr rfl) (d_bl))) (dy_cons (dy_of (ds_while hp (d_test (d_var 2)) (ds_cons (ds_setLc (own := [("number", 4)]) (keep_nm) rfl nd rfl rfl (sw_true rfl rfl rfl (by decide +kernel)) (di_range1 (by rfl) z_range (d_acons (d_callB call_len (v_len hK) (by rfl) z_len (by rfl) (d_acons (d_var 0) (d_anil))) (d_anil))) (blkOk_by (N := N_look_round) (sc := defScope s_look_round) (by decide +kernel)) (fun _ _ _ _ _ => dn_name (i := 4) (by decide) nd rfl (by first | exact .inl rfl | exact .inr rfl)) (fun _ _ _ _ _ => dts_one (d_test (d_cP G_can_be_done (fun _ _ h => l_can_be_done h) (hr.mono (by decide)) (d_acons (d_var 0) (d_acons (d_var 4) (d_acons (d_var 1) (d_anil))))))) (fun _ _ _ _ _ => d_var 4)) (ds_fq 3 (ds_cons (ds_set nd rfl (by first | exact .inl rfl | exact .inr rfl) (d_op op_addA (v_add hK) (d_var 1) (d_var 3))) (ds_cons (ds_set nd rfl (by first | exact .inl rfl | exact .inr rfl) (d_cmp op_gt vp_IB.v (d_callB call_len (v_len hK) (by rfl) z_len (by rfl) (d_acons (d_var 3) (d_anil))) (d_int) (nomark _))) (ds_nil))))))) (dy_cons (dy_if (d_cmpT op_lt vp_IB.v (d_callB call_len (v_len hK) (by rfl) z_len (by rfl) (d_acons (d_var 1) (d_anil))) (d_callB call_len (v_len hK) (by rfl) z_len (by rfl) (d_acons (d_var 0) (d_anil))) (nomark _)) (dy_cons (dy_raise rfl tk E_Round) (dys_of (ds_nil))) (dys_of (ds_nil))) (dys_of (ds_nil)))))
/-! ### bound_of -/
abbrev s_bound_of : Stmt := topS 19
abbrev N_bound_of : List Str := ["jobs", "least", "paper", "last", "turn", "further", "done", "tool"]
theorem sc_bound_of : FnScope N_bound_of ["jobs"] (defScope s_bound_of) := ⟨rfl, rfl, rfl, by decide +kernel, rfl, by decide +kernel, by decide +kernel⟩
noncomputable def b_bound_of_y : Yx := ySeq (yCall m_look_round_y (aCons (xVar 0) (aNil))) (yOf (sSeq (sSet 1 (xMeth "Taking" "takes_from" (m_Taking_takes_from 12) (xA (gMake "Taking" m_Taking___init__) (aCons (xVar 0) (aNil))) (aCons (xA gTup (aNil)) (aNil)))) (sSeq (sSet 2 (xA gLstN (aNil))) (sSeq (sSet 3 (xA gLst (aCons (xA gTup (aNil)) (aNil)))) (sSeq (sFor (iRange1 (aCons (x2 (s2 pSub) (xVar 1) (xP (.int 1))) (aNil))) (gNm 4) (sSeq (sSet 5 (xA gLstN (aNil))) (sSeq (sFor (iSeq (xVar 3)) (gNm 6) (sSeq (sExt (xVar 5) (xLcN (iSeq (xA (gCallP m_tools_of) (aCons (xVar 0) (aNil)))) (gNm 7) (tYesX) (xA (gCallP m_gone_on) (aCons (xVar 0) (aCons (xVar 7) (aCons (xVar 6) (aNil))))) [7])) (sNil))) (sFq 5 (sSeq (sSet 3 (xA (gCallP m_greatest_ones) (aCons (xVar 5) (aNil)))) (sSeq (sApp (xVar 2) (xVar 3)) (sNil))))))) (sFq 2 (sSeq (sRet (xVar 2)) (sNil))))))))
noncomputable def m_bound_of_y : List D → Sto → Option Rz := runY 1 8 b_bound_of_y
theorem l_bound_of_y {ds : List D} {S : Sto} {p : Rz} (h : m_bound_of_y ds S = some p) : ds.length = 1 := runY_len h
theorem ok_bound_of {Pg : Program} {w : World} {K : PySem.W.Frag} {mg : Str → Option Value} {base : Heap} {cl : Str → Option Addr} {f : Addr} {fd : FuncData} (F : Fun K "bound_of" "bound_of" s_bound_of f fd) (z_range : mg "range" = none) {X_Round : Addr} (G_Taking___init__ : CalleeC Pg w K mg base cl 2 "Taking" ["self", "jobs"] (SpF K cl 2 (m_Taking___init__))) (G_Taking_takes_from : CalleeM Pg w K mg base cl 14 "Taking" "takes_from" ["self", "done"] (SpF K cl 2 (m_Taking_takes_from 12))) (G_gone_on : Callee Pg w K mg base 2 "gone_on" ["jobs", "tool", "done"] (SpP 3 (m_gone_on))) (G_greatest_ones : Callee Pg w K mg base 2 "greatest_ones" ["some"] (SpP 1 (m_greatest_ones))) (G_look_round : CalleeY Pg w K mg base 2 "look_round" ["jobs"] (SpY K cl 1 m_look_round_y (.ref X_Round))) (G_tools_of : Callee Pg w K mg base 1 "tools_of" ["jobs"] (SpP 1 (m_tools_of))) : FnOk Pg w K mg base (L2N.CX Pg w) 15 f fd ["jobs"] (SpY K cl 1 m_bound_of_y (.ref X_Round)) :=
  fnY (k := 14) (cl := cl) F sc_bound_of rfl fun X W G hX hG hcl tk hp hr => by
    obtain ⟨cdv, A, outer, s, H, E, rfl, _⟩ := hX
    have nd := sc_bound_of.nd
    have hK : K = G.K := hG.symm
    have hu := hu_of hr
    have hu2 := hr.units
    have hu3 := hu65 hr
    exact dy_cons (dy_call tk (by rw [hG, hcl]; exact G_look_round) (fun _ _ _ h => l_look_round_y h) (hr.mono (by decide)) (d_acons (d_var 0) (d_anil))) (dys_of (ds_cons (ds_set nd rfl (by first | exact .inl rfl | exact .inr rfl) (d_meth (by rw [hG, hcl]; exact G_Taking_takes_from) (fun _ _ _ h => l_Taking_takes_from h) (hr.mono (by decide)) (d_make (by rw [hG, hcl]; exact G_Taking___init__) (fun _ _ _ h => l_Taking___init__ h) (hr.mono (by decide)) (d_acons (d_var 0) (d_anil))) (d_acons (d_tup (d_anil)) (d_anil)))) (ds_cons (ds_set nd rfl (by first | exact .inl rfl | exact .inr rfl) (d_lstN (d_anil))) (ds_cons (ds_set nd rfl (by first | exact .inl rfl | exact .inr rfl) (d_lst (d_acons (d_tup (d_anil)) (d_anil)))) (ds_cons (ds_for (u := fun _ => true) hp rfl (di_range1 (by rfl) z_range (d_acons (d_op op_sub vp_sub.v (d_var 1) (d_int)) (d_anil))) (dg_name (i := 4) (by decide) nd rfl (by first | exact .inl rfl | exact .inr rfl)) (ds_cons (ds_set nd rfl (by first | exact .inl rfl | exact .inr rfl) (d_lstN (d_anil))) (ds_cons (ds_for (u := fun _ => true) hp rfl (di_seq hK (d_var 3)) (dg_name (i := 6) (by decide) nd rfl (by first | exact .inl rfl | exact .inr rfl)) (ds_cons (ds_ext (d_var 5) (d_lcN (own := [("tool", 7)]) (keep_nm) rfl nd (di_seq hK (d_cP G_tools_of (fun _ _ h => l_tools_of h) (hr.mono (by decide)) (d_acons (d_var 0) (d_anil)))) (blkOk_by (N := N_bound_of) (sc := defScope s_bound_of) (by decide +kernel)) (fun _ _ _ _ _ => dn_name (i := 7) (by decide) nd rfl (by first | exact .inl rfl | exact .inr rfl)) (fun _ _ _ _ _ => dts_nil) (fun _ _ _ _ _ => d_cP G_gone_on (fun _ _ h => l_gone_on h) (hr.mono (by decide)) (d_acons (d_var 0) (d_acons (d_var 7) (d_acons (d_var 6) (d_anil))))))) (ds_nil))) (ds_fq 5 (ds_cons (ds_set nd rfl (by first | exact .inl rfl | exact .inr rfl) (d_cP G_greatest_ones (fun _ _ h => l_greatest_ones h) (hr.mono (by decide)) (d_acons (d_var 5) (d_anil)))) (ds_cons (ds_app (d_var 2) (d_var 3)) (ds_nil))))))) (ds_fq 2 (ds_cons (ds_ret (d_var 2)) (ds_nil))))))))
/-! ### Taking_takes_behind -/
abbrev s_Taking_takes_behind : Stmt := inClass (topS 14) 2
abbrev N_Taking_takes_behind : List Str := ["self", "done", "number"]
theorem sc_Taking_takes_behind : FnScope N_Taking_takes_behind ["self", "done", "number"] (defScope s_Taking_takes_behind) := ⟨rfl, rfl, rfl, by decide +kernel, rfl, by decide +kernel, by decide +kernel⟩
theorem ok_Taking_takes_behind {Pg : Program} {w : World} {K : PySem.W.Frag} {mg : Str → Option Value} {base : Heap} {cl : Str → Option Addr} {f : Addr} {fd : FuncData} (F : Fun K "takes_behind" "Taking.takes_behind" s_Taking_takes_behind f fd) (G_Taking_takes_from : CalleeM Pg w K mg base cl 14 "Taking" "takes_from" ["self", "done"] (SpF K cl 2 (m_Taking_takes_from 12))) (G_gone_on : Callee Pg w K mg base 2 "gone_on" ["jobs", "tool", "done"] (SpP 3 (m_gone_on))) (T_Taking_jobs : ClsD K cl "Taking" "jobs") : FnOk Pg w K mg base CX0 15 f fd ["self", "done", "number"] (SpF K cl 3 m_Taking_takes_behind) :=
  fnF (k := 14) (cl := cl) F sc_Taking_takes_behind rfl fun cdv A outer s H E G hG hcl hr => by
    have nd := sc_Taking_takes_behind.nd
    have hK : K = G.K := hG.symm
    have hu := hu_of hr
    have hu2 := hr.units
    have hu3 := hu65 hr
    exact ds_cons (ds_ret (d_meth (by rw [hG, hcl]; exact G_Taking_takes_from) (fun _ _ _ h => l_Taking_takes_from h) (hr.mono (by decide)) (d_var 0) (d_acons (d_cP G_gone_on (fun _ _ h => l_gone_on h) (hr.mono (by decide)) (d_acons (d_fld (c := "Taking") hK (by rw [hG, hcl]; exact T_Taking_jobs) (d_var 0)) (d_acons (d_ix hK (d_get hK hu (d_fld (c := "Taking") hK (by rw [hG, hcl]; exact T_Taking_jobs) (d_var 0)) (d_var 2) (fun _ _ => rfl) (fun _ _ => rfl)) (d_int) (fun _ _ => rfl)) (d_acons (d_op op_addA (v_add hK) (d_var 1) (d_lst (d_acons (d_var 2) (d_anil)))) (d_anil))))) (d_anil)))) (ds_nil)
/-! ### Taking_next_job -/
abbrev s_Taking_next_job : Stmt := inClass (topS 14) 3
abbrev N_Taking_next_job : List Str := ["self", "done", "tool", "left", "number", "job"]
theorem sc_Taking_next_job : FnScope N_Taking_next_job ["self", "done", "tool", "left"] (defScope s_Taking_next_job) := ⟨rfl, rfl, rfl, by decide +kernel, rfl, by decide +kernel, by decide +kernel⟩
theorem ok_Taking_next_job {Pg : Program} {w : World} {K : PySem.W.Frag} {mg : Str → Option Value} {base : Heap} {cl : Str → Option Addr} {f : Addr} {fd : FuncData} (F : Fun K "next_job" "Taking.next_job" s_Taking_next_job f fd) (z_enumerate : mg "enumerate" = none) (z_int : mg "int" = none) (G_Taking_takes_behind : CalleeM Pg w K mg base cl 15 "Taking" "takes_behind" ["self", "done", "number"] (SpF K cl 3 (m_Taking_takes_behind))) (G_can_be_done : Callee Pg w K mg base 1 "can_be_done" ["jobs", "number", "done"] (SpP 3 (m_can_be_done))) (T_Taking_jobs : ClsD K cl "Taking" "jobs") : FnOk Pg w K mg base CX0 16 f fd ["self", "done", "tool", "left"] (SpF K cl 4 m_Taking_next_job) :=
  fnF (k := 15) (cl := cl) F sc_Taking_next_job rfl fun cdv A outer s H E G hG hcl hr => by
    have nd := sc_Taking_next_job.nd
    have hK : K = G.K := hG.symm
    have hu := hu_of hr
    have hu2 := hr.units
    have hu3 := hu65 hr
    exact ds_cons (ds_for (u := fun _ => true) PassesOwn.never rfl (di_enumB hK (by rfl) z_enumerate (d_acons (d_fld (c := "Taking") hK (by rw [hG, hcl]; exact T_Taking_jobs) (d_var 0)) (d_anil))) (dn_dg (dn_tup hK rfl (dns_cons (dn_name (i := 4) (by decide) nd rfl (by first | exact .inl rfl | exact .inr rfl)) (keep_nm) (dns_cons (dn_name (i := 5) (by decide) nd rfl (by first | exact .inl rfl | exact .inr rfl)) (keep_nm) (dns_nil)))) (keep_lst (keep_cons (keep_cons (keep_nil))))) (ds_cons (ds_if (d_test (d_cPL G_can_be_done (fun _ _ h => l_can_be_done h) (hr.mono (by decide)) (d_acons (d_fld (c := "Taking") hK (by rw [hG, hcl]; exact T_Taking_jobs) (d_var 0)) (d_acons (d_var 4) (d_acons (d_var 1) (d_anil)))))) (ds_cons (ds_if (d_cmpT op_le vp_IB.v (d_op op_addA (v_add hK) (d_callTy call_int1 vp_int.v (by rfl) z_int (by rfl) (d_acons (d_cmp (op_neD hu2) (v_ne hK) (d_ix hK (d_var 5) (d_int) (fun _ _ => rfl)) (d_var 2) (nomark _)) (d_anil))) (d_meth (by rw [hG, hcl]; exact G_Taking_takes_behind) (fun _ _ _ h => l_Taking_takes_behind h) (hr.mono (by decide)) (d_var 0) (d_acons (d_var 1) (d_acons (d_var 4) (d_anil))))) (d_var 3) (nomark _)) (ds_cons (ds_ret (d_var 4)) (ds_nil)) (ds_nil)) (ds_nil)) (ds_nil)) (ds_nil))) (ds_cons (ds_ret (d_non)) (ds_nil))
/-! ### first_order -/
abbrev s_first_order : Stmt := topS 15
abbrev N_first_order : List Str := ["taking", "least", "order", "tool", "left", "number"]
theorem sc_first_order : FnScope N_first_order ["taking", "least"] (defScope s_first_order) := ⟨rfl, rfl, rfl, by decide +kernel, rfl, by decide +kernel, by decide +kernel⟩
theorem ok_first_order {Pg : Program} {w : World} {K : PySem.W.Frag} {mg : Str → Option Value} {base : Heap} {cl : Str → Option Addr} {f : Addr} {fd : FuncData} (F : Fun K "first_order" "first_order" s_first_order f fd) (z_len : mg "len" = none) (G_Taking_next_job : CalleeM Pg w K mg base cl 16 "Taking" "next_job" ["self", "done", "tool", "left"] (SpF K cl 4 (m_Taking_next_job))) (T_Taking_jobs : ClsD K cl "Taking" "jobs") : FnOk Pg w K mg base CX0 17 f fd ["taking", "least"] (SpF K cl 2 m_first_order_c) :=
  fnF (k := 16) (cl := cl) F sc_first_order rfl fun cdv A outer s H E G hG hcl hr => by
    have nd := sc_first_order.nd
    have hK : K = G.K := hG.symm
    have hu := hu_of hr
    have hu2 := hr.units
    have hu3 := hu65 hr
    exact ds_cons (ds_set nd rfl (by first | exact .inl rfl | exact .inr rfl) (d_lstC (d_anil))) (ds_cons (ds_set nd rfl (by first | exact .inl rfl | exact .inr rfl) (d_non)) (ds_cons (ds_set nd rfl (by first | exact .inl rfl | exact .inr rfl) (d_var 1)) (ds_cons (ds_while PassesOwn.never (d_cmpT op_lt vp_IB.v (d_callB call_len (v_len hK) (by rfl) z_len (by rfl) (d_acons (d_var 2) (d_anil))) (d_callB call_len (v_len hK) (by rfl) z_len (by rfl) (d_acons (d_fld (c := "Taking") hK (by rw [hG, hcl]; exact T_Taking_jobs) (d_var 0)) (d_anil))) (nomark _)) (ds_cons (ds_set nd rfl (by first | exact .inl rfl | exact .inr rfl) (d_meth (by rw [hG, hcl]; exact G_Taking_next_job) (fun _ _ _ h => l_Taking_next_job h) (hr.mono (by decide)) (d_var 0) (d_acons (d_var 2) (d_acons (d_var 3) (d_acons (d_var 4) (d_anil)))))) (ds_cons (ds_if (d_cmpT (op_neD hu2) (v_ne hK) (d_ix hK (d_get hK hu (d_fld (c := "Taking") hK (by rw [hG, hcl]; exact T_Taking_jobs) (d_var 0)) (d_var 5) (fun _ _ => rfl) (fun _ _ => rfl)) (d_int) (fun _ _ => rfl)) (d_var 3) (nomark _)) (ds_cons (ds_set nd rfl (by first | exact .inl rfl | exact .inr rfl) (d_ix hK (d_get hK hu (d_fld (c := "Taking") hK (by rw [hG, hcl]; exact T_Taking_jobs) (d_var 0)) (d_var 5) (fun _ _ => rfl) (fun _ _ => rfl)) (d_int) (fun _ _ => rfl))) (ds_cons (ds_aug (i := 4) nd rfl (by first | exact .inl rfl | exact .inr rfl) (d_int) ip_sub v_iI) (ds_nil))) (ds_nil)) (ds_cons (ds_app (d_var 2) (d_var 5)) (ds_nil))))) (ds_cons (ds_ret (d_var 2)) (ds_nil)))))
/-! ### least_takes -/
abbrev s_least_takes : Stmt := topS 16
abbrev N_least_takes : List Str := ["jobs", "taking", "least"]
theorem sc_least_takes : FnScope N_least_takes ["jobs"] (defScope s_least_takes) := ⟨rfl, rfl, rfl, by decide +kernel, rfl, by decide +kernel, by decide +kernel⟩
noncomputable def b_least_takes_y : Yx := ySeq (yCall m_look_round_y (aCons (xVar 0) (aNil))) (yOf (sSeq (sSet 1 (xA (gMake "Taking" m_Taking___init__) (aCons (xVar 0) (aNil)))) (sSeq (sSet 2 (xMeth "Taking" "takes_from" (m_Taking_takes_from 12) (xVar 1) (aCons (xA gTup (aNil)) (aNil)))) (sSeq (sRet (xA gTupC (aCons (xVar 2) (aCons (xA (gCallF m_first_order_c) (aCons (xVar 1) (aCons (xVar 2) (aNil)))) (aNil))))) (sNil)))))
noncomputable def m_least_takes_y : List D → Sto → Option Rz := runY 1 3 b_least_takes_y
theorem l_least_takes_y {ds : List D} {S : Sto} {p : Rz} (h : m_least_takes_y ds S = some p) : ds.length = 1 := runY_len h
theorem ok_least_takes {Pg : Program} {w : World} {K : PySem.W.Frag} {mg : Str → Option Value} {base : Heap} {cl : Str → Option Addr} {f : Addr} {fd : FuncData} (F : Fun K "least_takes" "least_takes" s_least_takes f fd) {X_Round : Addr} (G_Taking___init__ : CalleeC Pg w K mg base cl 2 "Taking" ["self", "jobs"] (SpF K cl 2 (m_Taking___init__))) (G_Taking_takes_from : CalleeM Pg w K mg base cl 14 "Taking" "takes_from" ["self", "done"] (SpF K cl 2 (m_Taking_takes_from 12))) (G_first_order : Callee Pg w K mg base 17 "first_order" ["taking", "least"] (SpF K cl 2 (m_first_order_c))) (G_look_round : CalleeY Pg w K mg base 2 "look_round" ["jobs"] (SpY K cl 1 m_look_round_y (.ref X_Round))) : FnOk Pg w K mg base (L2N.CX Pg w) 18 f fd ["jobs"] (SpY K cl 1 m_least_takes_y (.ref X_Round)) :=
  fnY (k := 17) (cl := cl) F sc_least_takes rfl fun X W G hX hG hcl tk hp hr => by
    obtain ⟨cdv, A, outer, s, H, E, rfl, _⟩ := hX
    have nd := sc_least_takes.nd
    have hK : K = G.K := hG.symm
    have hu := hu_of hr
    have hu2 := hr.units
    have hu3 := hu65 hr
    exact dy_cons (dy_call tk (by rw [hG, hcl]; exact G_look_round) (fun _ _ _ h => l_look_round_y h) (hr.mono (by decide)) (d_acons (d_var 0) (d_anil))) (dys_of (ds_cons (ds_set nd rfl (by first | exact .inl rfl | exact .inr rfl) (d_make (by rw [hG, hcl]; exact G_Taking___init__) (fun _ _ _ h => l_Taking___init__ h) (hr.mono (by decide)) (d_acons (d_var 0) (d_anil)))) (ds_cons (ds_set nd rfl (by first | exact .inl rfl | exact .inr rfl) (d_meth (by rw [hG, hcl]; exact G_Taking_takes_from) (fun _ _ _ h => l_Taking_takes_from h) (hr.mono (by decide)) (d_var 1) (d_acons (d_tup (d_anil)) (d_anil)))) (ds_cons (ds_ret (d_tupC (d_acons (d_var 2) (d_acons (d_cF (by rw [hG, hcl]; exact G_first_order) (fun _ _ _ h => l_first_order_c h) (hr.mono (by decide)) (d_acons (d_var 1) (d_acons (d_var 2) (d_anil)))) (d_anil))))) (ds_nil)))))
/-! ### _law_refused -/
abbrev s__law_refused : Stmt := topS 25
abbrev N__law_refused : List Str := ["_law_which", "_law_jobs_here", "_law_word_here", "_law_error"]
theorem sc__law_refused : FnScope N__law_refused ["_law_which", "_law_jobs_here"] (defScope s__law_refused) := ⟨rfl, rfl, rfl, by decide +kernel, rfl, by decide +kernel, by decide +kernel⟩
noncomputable def b__law_refused : Sx := sSeq (sSet 2 (xP (.str ("" : Str)))) (sSeq (sTry (ySeq (yIf (tOfE (x2 (gEq false) (xVar 0) (xP (.int 0)))) (ySeq (yCall m_least_takes_y (aCons (xVar 1) (aNil))) (yOf (sNil))) (ySeq (yCall m_bound_of_y (aCons (xVar 1) (aNil))) (yOf (sNil)))) (yOf (sNil))) 3 2 ("round" : Str)) (sSeq (sRet (xVar 2)) (sNil)))
noncomputable def m__law_refused : List P → Option P := runP 2 4 b__law_refused
theorem l__law_refused {ps : List P} {p : P} (h : m__law_refused ps = some p) : ps.length = 2 := runP_len h
theorem ok__law_refused {Pg : Program} {w : World} {K : PySem.W.Frag} {mg : Str → Option Value} {base : Heap} {cl : Str → Option Addr} {f : Addr} {fd : FuncData} (F : Fun K "_law_refused" "_law_refused" s__law_refused f fd) {X_Round : Addr} (E_Round : ExcT K mg "Round" X_Round) {X_MillError : Addr} (M_MillError : mg "MillError" = some (.ref X_MillError)) (XM_Round_MillError : PySem.W.exmOne K (.ref X_Round) (.ref X_MillError) = some true) (G__law_word : CalleeE Pg w K mg base 1 "_law_word" "_law_error" X_Round "round") (G_bound_of : CalleeY Pg w K mg base 15 "bound_of" ["jobs"] (SpY K cl 1 m_bound_of_y (.ref X_Round))) (G_least_takes : CalleeY Pg w K mg base 18 "least_takes" ["jobs"] (SpY K cl 1 m_least_takes_y (.ref X_Round))) : FnOk Pg w K mg base CX0 19 f fd ["_law_which", "_law_jobs_here"] (SpP 2 m__law_refused) :=
  fnP (k := 18) (cl := cl) F sc__law_refused rfl fun cdv A outer s H E G hG hcl hr => by
    have nd := sc__law_refused.nd
    have hK : K = G.K := hG.symm
    have hu := hu_of hr
    have hu2 := hr.units
    have hu3 := hu65 hr
    exact ds_cons (ds_set nd rfl (by first | exact .inl rfl | exact .inr rfl) (d_str)) (ds_cons (ds_try (i := 3) (j := 2) rfl rfl nd rfl rfl (by decide) rfl (.inl rfl) (by first | exact .inl rfl | exact .inr rfl) (.inl rfl) ⟨by rfl, by decide, .inl M_MillError⟩ XM_Round_MillError G__law_word (hr.mono (by decide)) (by rfl) (by decide) (fun W pn xe tk hp => dy_cons (dy_if (d_cmpT (op_eqD hu2) (v_eq hK) (d_var 0) (d_int) (nomark _)) (dy_cons (dy_call tk (by rw [hG, hcl]; exact G_least_takes) (fun _ _ _ h => l_least_takes_y h) (hr.mono (by decide)) (d_acons (d_var 1) (d_anil))) (dys_of (ds_nil))) (dy_cons (dy_call tk (by rw [hG, hcl]; exact G_bound_of) (fun _ _ _ h => l_bound_of_y h) (hr.mono (by decide)) (d_acons (d_var 1) (d_anil))) (dys_of (ds_nil)))) (dys_of (ds_nil)))) (ds_cons (ds_ret (d_var 2)) (ds_nil)))
/-! ### law -/
abbrev s_law : Stmt := topS 26
abbrev N_law : List Str := ["_law_script", "_law_state", "_law_turn", "_law_many", "_law_good", "_law_left", "_law_ring", "_law_jobs_here", "_law_kept", "_law_which", "_law_k", "_law_number", "_law_needs", "_law_tool"]
theorem sc_law : FnScope N_law ["_law_script"] (defScope s_law) := ⟨rfl, rfl, rfl, by decide +kernel, rfl, by decide +kernel, by decide +kernel⟩
noncomputable def b_law : Sx := sSeq (sSet 1 (xA (gCallF m__law_begin) (aCons (xVar 0) (aNil)))) (sSeq (sFor (iRange1 (aCons (xP (.int 3)) (aNil))) (gNm 2) (sSeq (sSet 3 (x2 gAdd (xP (.int 1)) (xA (gCallF m__law_take) (aCons (xVar 1) (aCons (x2 gIx (xA gLst (aCons (xP (.int 5)) (aCons (xP (.int 10)) (aNil)))) (xA (gCallF m__law_take) (aCons (xVar 1) (aCons (xP (.int 2)) (aNil))))) (aNil)))))) (sSeq (sSet 4 (xA (gCallF m__law_jobs) (aCons (xVar 1) (aCons (xVar 3) (aCons (x2 gAdd (xP (.int 1)) (xA (gCallF m__law_take) (aCons (xVar 1) (aCons (xP (.int 5)) (aNil))))) (aNil)))))) (sSeq (sSet 5 (xLr1C (xVar 3))) (sSeq (sSetLc 6 (iRange1 (aCons (x2 gAdd (xP (.int 1)) (xA (gCallF m__law_take) (aCons (xVar 1) (aCons (xVar 3) (aNil))))) (aNil))) (gNm 10) (tYesX) (xPopI (xVar 5) (xA (gCallF m__law_take) (aCons (xVar 1) (aCons (xA gLen (aCons (xVar 5) (aNil))) (aNil))))) [10]) (sSeq (sSet 7 (xA gListN (aCons (xVar 4) (aNil)))) (sFq 6 (sSeq (sFor (iEnumX (aCons (xVar 6) (aNil))) (gtLst 2 (gnCons (gNm 10) (gnCons (gNm 11) (gnNil)))) (sSeq (sSet 12 (xA gListN (aCons (x2 gIx (x2 gGet (xVar 7) (xVar 11)) (xP (.int 1))) (aNil)))) (sSeq (sIns (xVar 12) (xA (gCallF m__law_take) (aCons (xVar 1) (aCons (x2 gAdd (xA gLen (aCons (xVar 12) (aNil))) (xP (.int 1))) (aNil)))) (x2 gGet (xVar 6) (x2 (s2 pMod) (x2 gAdd (xVar 10) (xP (.int 1))) (xA gLen (aCons (xVar 6) (aNil)))))) (sFq 12 (sSeq (sAsg (xA gTup (aCons (x2 gIx (x2 gGet (xVar 7) (xVar 11)) (xP (.int 0))) (aCons (xVar 12) (aNil)))) (gSubT (xVar 7) (xVar 11))) (sNil)))))) (sFq 7 (sSeq (sSetLc 8 (iSeq (xVar 7)) (gtLst 2 (gnCons (gNm 13) (gnCons (gNm 12) (gnNil)))) (tYesX) (xA gTup (aCons (xVar 13) (aCons (xA gList (aCons (xVar 12) (aNil))) (aNil)))) [13, 12]) (sSeq (sFor (iSeq (xA gTup (aCons (xP (.int 0)) (aCons (xP (.int 1)) (aCons (xP (.int 0)) (aNil)))))) (gNm 9) (sFq 7 (sSeq (sIf (tOrX (tOfE (x2 (gEq true) (xA (gCallP m__law_refused) (aCons (xVar 9) (aCons (xVar 7) (aNil)))) (xP (.str ("round" : Str))))) (tOrX (tOfE (x2 (gEq true) (xVar 7) (xVar 8))) (tOfE (x2 (gEq true) (xA (gCallP m__law_refused) (aCons (xVar 9) (aCons (xVar 4) (aNil)))) (xP (.str ("" : Str))))))) (sSeq (sRet (xP (.bool false))) (sNil)) (sNil)) (sNil)))) (sNil)))))))))))) (sSeq (sRet (xP (.bool true))) (sNil)))
noncomputable def m_law : List D → Sto → Option (D × Sto) := runF 1 14 b_law
theorem ok_law {Pg : Program} {w : World} {K : PySem.W.Frag} {mg : Str → Option Value} {base : Heap} {cl : Str → Option Addr} {f : Addr} {fd : FuncData} (F : Fun K "law" "law" s_law f fd) (z_enumerate : mg "enumerate" = none) (z_len : mg "len" = none) (z_list : mg "list" = none) (z_range : mg "range" = none) (G__law_begin : Callee Pg w K mg base 1 "_law_begin" ["_law_script"] (SpF K cl 1 (m__law_begin))) (G__law_jobs : Callee Pg w K mg base 2 "_law_jobs" ["_law_state", "_law_many", "_law_tools"] (SpF K cl 3 (m__law_jobs))) (G__law_refused : Callee Pg w K mg base 19 "_law_refused" ["_law_which", "_law_jobs_here"] (SpP 2 (m__law_refused))) (G__law_take : Callee Pg w K mg base 1 "_law_take" ["_law_state", "_law_many"] (SpF K cl 2 (m__law_take))) : FnOk Pg w K mg base CX0 20 f fd ["_law_script"] (SpF K cl 1 m_law) :=
  fnF (k := 19) (cl := cl) F sc_law rfl fun cdv A outer s H E G hG hcl hr => by
    have nd := sc_law.nd
    have hK : K = G.K := hG.symm
    have hu := hu_of hr
    have hu2 := hr.units
    have hu3 := hu65 hr
    exact ds_cons (ds_set nd rfl (by first | exact .inl rfl | exact .inr rfl) (d_cF (by rw [hG, hcl]; exact G__law_begin) (fun _ _ _ h => l__law_begin h) (hr.mono (by decide)) (d_acons (d_var 0) (d_anil)))) (ds_cons (ds_for (u := fun _ => true) PassesOwn.never rfl (di_range1 (by rfl) z_range (d_acons (d_int) (d_anil))) (dg_name (i := 2) (by decide) nd rfl (by first | exact .inl rfl | exact .inr rfl)) (ds_cons (ds_set nd rfl (by first | exact .inl rfl | exact .inr rfl) (d_op op_addA (v_add hK) (d_int) (d_cF (by rw [hG, hcl]; exact G__law_take) (fun _ _ _ h => l__law_take h) (hr.mono (by decide)) (d_acons (d_var 1) (d_acons (d_ix hK (d_lst (d_acons (d_int) (d_acons (d_int) (d_anil)))) (d_cF (by rw [hG, hcl]; exact G__law_take) (fun _ _ _ h => l__law_take h) (hr.mono (by decide)) (d_acons (d_var 1) (d_acons (d_int) (d_anil)))) (fun _ _ => rfl)) (d_anil)))))) (ds_cons (ds_set nd rfl (by first | exact .inl rfl | exact .inr rfl) (d_cF (by rw [hG, hcl]; exact G__law_jobs) (fun _ _ _ h => l__law_jobs h) (hr.mono (by decide)) (d_acons (d_var 1) (d_acons (d_var 3) (d_acons (d_op op_addA (v_add hK) (d_int) (d_cF (by rw [hG, hcl]; exact G__law_take) (fun _ _ _ h => l__law_take h) (hr.mono (by decide)) (d_acons (d_var 1) (d_acons (d_int) (d_anil))))) (d_anil)))))) (ds_cons (ds_set nd rfl (by first | exact .inl rfl | exact .inr rfl) (d_listRg1C rfl (by rfl) z_list (by rfl) z_range (d_var 3))) (ds_cons (ds_setLc (own := [("_law_k", 10)]) (keep_nm) rfl nd rfl rfl (sw_true rfl rfl rfl (by decide +kernel)) (di_range1 (by rfl) z_range (d_acons (d_op op_addA (v_add hK) (d_int) (d_cF (by rw [hG, hcl]; exact G__law_take) (fun _ _ _ h => l__law_take h) (hr.mono (by decide)) (d_acons (d_var 1) (d_acons (d_var 3) (d_anil))))) (d_anil))) (blkOk_by (N := N_law) (sc := defScope s_law) (by decide +kernel)) (fun _ _ _ _ _ => dn_name (i := 10) (by decide) nd rfl (by first | exact .inl rfl | exact .inr rfl)) (fun _ _ _ _ _ => dts_nil) (fun _ _ _ _ _ => d_popI (d_var 5) (d_cF (by rw [hG, hcl]; exact G__law_take) (fun _ _ _ h => l__law_take h) (hr.mono (by decide)) (d_acons (d_var 1) (d_acons (d_callB call_len (v_len hK) (by rfl) z_len (by rfl) (d_acons (d_var 5) (d_anil))) (d_anil)))))) (ds_cons (ds_set nd rfl (by first | exact .inl rfl | exact .inr rfl) (d_callTy call_list_of (v_listN hK) (by rfl) z_list (by rfl) (d_acons (d_var 4) (d_anil)))) (ds_fq 6 (ds_cons (ds_for (u := fun _ => true) PassesOwn.never rfl (di_enum hK (by rfl) z_enumerate (d_acons (d_var 6) (d_anil))) (dn_dg (dn_tup hK rfl (dns_cons (dn_name (i := 10) (by decide) nd rfl (by first | exact .inl rfl | exact .inr rfl)) (keep_nm) (dns_cons (dn_name (i := 11) (by decide) nd rfl (by first | exact .inl rfl | exact .inr rfl)) (keep_nm) (dns_nil)))) (keep_lst (keep_cons (keep_cons (keep_nil))))) (ds_cons (ds_set nd rfl (by first | exact .inl rfl | exact .inr rfl) (d_callTy call_list_of (v_listN hK) (by rfl) z_list (by rfl) (d_acons (d_ix hK (d_get hK hu (d_var 7) (d_var 11) (fun _ _ => rfl) (fun _ _ => rfl)) (d_int) (fun _ _ => rfl)) (d_anil)))) (ds_cons (ds_ins (d_var 12) (d_cF (by rw [hG, hcl]; exact G__law_take) (fun _ _ _ h => l__law_take h) (hr.mono (by decide)) (d_acons (d_var 1) (d_acons (d_op op_addA (v_add hK) (d_callB call_len (v_len hK) (by rfl) z_len (by rfl) (d_acons (d_var 12) (d_anil))) (d_int)) (d_anil)))) (d_get hK hu (d_var 6) (d_op op_mod vp_mod.v (d_op op_addA (v_add hK) (d_var 10) (d_int)) (d_callB call_len (v_len hK) (by rfl) z_len (by rfl) (d_acons (d_var 6) (d_anil)))) (fun _ _ => rfl) (fun _ _ => rfl))) (ds_fq 12 (ds_cons (ds_asg (u := fun _ => true) (d_tup (d_acons (d_ix hK (d_get hK hu (d_var 7) (d_var 11) (fun _ _ => rfl) (fun _ _ => rfl)) (d_int) (fun _ _ => rfl)) (d_acons (d_var 12) (d_anil)))) (dg_sub hu (d_var 7) (d_var 11))) (ds_nil)))))) (ds_fq 7 (ds_cons (ds_setLc (own := [("_law_tool", 13), ("_law_needs", 12)]) (keep_lst (keep_cons (keep_cons (keep_nil)))) rfl nd rfl rfl (sw_true rfl rfl rfl (by decide +kernel)) (di_seq hK (d_var 7)) (blkOk_by (N := N_law) (sc := defScope s_law) (by decide +kernel)) (fun _ _ _ _ _ => dn_tup hK rfl (dns_cons (dn_name (i := 13) (by decide) nd rfl (by first | exact .inl rfl | exact .inr rfl)) (keep_nm) (dns_cons (dn_name (i := 12) (by decide) nd rfl (by first | exact .inl rfl | exact .inr rfl)) (keep_nm) (dns_nil)))) (fun _ _ _ _ _ => dts_nil) (fun _ _ _ _ _ => d_tup (d_acons (d_var 13) (d_acons (d_callTy call_list_of (v_list hK) (by rfl) z_list (by rfl) (d_acons (d_var 12) (d_anil))) (d_anil))))) (ds_cons (ds_for (u := fun _ => true) PassesOwn.never rfl (di_seq hK (d_tup (d_acons (d_int) (d_acons (d_int) (d_acons (d_int) (d_anil)))))) (dg_name (i := 9) (by decide) nd rfl (by first | exact .inl rfl | exact .inr rfl)) (ds_fq 7 (ds_cons (ds_if ((d_orT (d_cmpT (op_neD hu2) (v_ne hK) (d_cP G__law_refused (fun _ _ h => l__law_refused h) (hr.mono (by decide)) (d_acons (d_var 9) (d_acons (d_var 7) (d_anil)))) (d_str) (nomark _)) (d_orT (d_cmpT (op_neD hu2) (v_ne hK) (d_var 7) (d_var 8) (nomark _)) (d_or1 (d_cmpT (op_neD hu2) (v_ne hK) (d_cP G__law_refused (fun _ _ h => l__law_refused h) (hr.mono (by decide)) (d_acons (d_var 9) (d_acons (d_var 4) (d_anil)))) (d_str) (nomark _))))).pt) (ds_cons (ds_ret (d_bl)) (ds_nil)) (ds_nil)) (ds_nil)))) (ds_nil)))))))))))) (ds_cons (ds_ret (d_bl)) (ds_nil)))
end K60
/-! k60: the program's defs: with a ring, without one. -/
namespace K60
open PySem PySem.Spec PyProof.Rows L2 JJ
open DL hiding St take_st take_ok
section
variable {S : Sto} {e : Envi} {p : P} {js : List Job} {n : Nat}
def canL (js : List Job) (F : List Nat) : List Nat := (List.range js.length).filter fun n => decide (Can js F n)
/-- jobs that need one another in a ring -/
def Ring (js : List Job) (R : List Nat) : Prop := R ≠ [] ∧ ∀ r ∈ R, r < js.length ∧ ∃ m ∈ nd js r, m ∈ R
theorem look_gen (h : JS p js) {I : List Nat → Prop} (h0 : I []) (hs : ∀ F, I F → I (F ++ canL js F)) {Q : Rz → Prop} (q : ∀ F : List Nat, I F → F.Nodup → Sub js F → (∀ n < js.length, ¬ Can js F n) → if F.length < js.length then Q (.ex S) else Q (.ok (.pu .none) S)) : W (m_look_round_y [.pu p] S) Q := by
  have h1 := h.2.1
  unfold m_look_round_y
  rw [w_runY]
  refine ⟨⟨rfl, by decide⟩, ?_⟩
  rw [show env0 5 [D.pu p] = [some (.val (.pu p)), none, none, none, none] from rfl]
  unfold b_look_round_y
  simp only [DL.evA, DL.evH, DL.evJ, DL.evM, DL.evQ, DL.evU, DL.evX, List.getElem?_cons_zero, List.getElem?_cons_succ, List.set_cons_zero, List.set_cons_succ, ↓reduceIte, Bool.false_eq_true, List.map_cons, List.map_nil, List.length_cons, List.length_nil, Bool.not_true, Bool.not_false, w_ySeq, w_yOf, w_yQn]
  refine ⟨(Nat.le_of_ble_eq_true rfl), ?_⟩
  refine while_inv (fun k e S' => ∃ (F : List Nat) (g : Bool) (e3 e4 : Option Sl), e = [some (.val (.pu p)), some (.val (.pu (.list (F.map nI)))), some (.val (.pu (.bool g))), e3, e4] ∧ S' = S ∧ I F ∧ F.Nodup ∧ Sub js F ∧ (g = false → ∀ n < js.length, ¬ Can js F n) ∧ k = 2 * (js.length - F.length) + g.toNat) ?_ _ _ _ ⟨[], true, _, _, rfl, rfl, h0, List.nodup_nil, fun n hn => (by cases hn), fun z => (by cases z), rfl⟩
  rintro k e S' ⟨F, g, e3, e4, rfl, rfl, hI, hn, hsb, hg, rfl⟩
  have hFl := len_le hn hsb
  (try simp only [DL.evA, DL.evH, DL.evJ, DL.evM, DL.evQ, DL.evU, DL.evX, List.getElem?_cons_zero, List.getElem?_cons_succ, List.set_cons_zero, List.set_cons_succ, ↓reduceIte, Bool.false_eq_true, List.map_cons, List.map_nil, List.length_cons, List.length_nil, Bool.not_true, Bool.not_false])
  cases g with
  | false =>
    rw [if_neg Bool.false_ne_true]
    simp only [DL.evA, DL.evH, DL.evJ, DL.evM, DL.evQ, DL.evU, DL.evX, List.getElem?_cons_zero, List.getElem?_cons_succ, List.set_cons_zero, List.set_cons_succ, ↓reduceIte, Bool.false_eq_true, List.map_cons, List.map_nil, List.length_cons, List.length_nil, Bool.not_true, Bool.not_false, w_ySeq, w_yOf, w_yQn, w_yIf]
    refine js_len h ?_
    simp only [DL.evA, DL.evH, DL.evJ, DL.evM, DL.evQ, DL.evU, DL.evX, List.getElem?_cons_zero, List.getElem?_cons_succ, List.set_cons_zero, List.set_cons_succ, ↓reduceIte, Bool.false_eq_true, List.map_cons, List.map_nil, List.length_cons, List.length_nil, Bool.not_true, Bool.not_false, w_ySeq, w_yOf, w_yQn, w_yIf, w_yRaise, w_yQx]
    have q' := q F hI hn hsb (hg rfl)
    rw [List.length_map]
    refine both (fun z => ?_) fun z => ?_
    · have z : (F.length : Int) < js.length := by simpa using z
      rw [if_pos (by omega)] at q'
      simp only [DL.evA, DL.evH, DL.evJ, DL.evM, DL.evQ, DL.evU, DL.evX, List.getElem?_cons_zero, List.getElem?_cons_succ, List.set_cons_zero, List.set_cons_succ, ↓reduceIte, Bool.false_eq_true, List.map_cons, List.map_nil, List.length_cons, List.length_nil, Bool.not_true, Bool.not_false, w_ySeq, w_yOf, w_yQn, w_yIf, w_yRaise, w_yQx, w_yEx]
      exact q'
    · have z : ¬ (F.length : Int) < js.length := by simpa using z
      rw [if_neg (by omega)] at q'
      simp only [DL.evA, DL.evH, DL.evJ, DL.evM, DL.evQ, DL.evU, DL.evX, List.getElem?_cons_zero, List.getElem?_cons_succ, List.set_cons_zero, List.set_cons_succ, ↓reduceIte, Bool.false_eq_true, List.map_cons, List.map_nil, List.length_cons, List.length_nil, Bool.not_true, Bool.not_false, w_ySeq, w_yOf, w_yQn, w_yIf, w_yRaise, w_yQx, w_yEn]
      exact q'
  | true =>
    rw [if_pos rfl]
    (try simp only [DL.evA, DL.evH, DL.evJ, DL.evM, DL.evQ, DL.evU, DL.evX, List.getElem?_cons_zero, List.getElem?_cons_succ, List.set_cons_zero, List.set_cons_succ, ↓reduceIte, Bool.false_eq_true, List.map_cons, List.map_nil, List.length_cons, List.length_nil, Bool.not_true, Bool.not_false])
    refine js_len h ?_
    refine w_rg.mpr ⟨by unfold rOk; simp; omega, ?_⟩
    rw [Int.toNat_natCast, rng0]
    refine comp_if nI nI (fun n => decide (Can js F n)) _ (fun n hn R N r1 r2 => ?_) (by rw [List.length_range]; unfold lim; omega) ?_
    · simp only [wipeE, DL.evA, DL.evH, DL.evJ, DL.evM, DL.evQ, DL.evU, DL.evX, List.getElem?_cons_zero, List.getElem?_cons_succ, List.set_cons_zero, List.set_cons_succ, ↓reduceIte, Bool.false_eq_true, List.map_cons, List.map_nil, List.length_cons, List.length_nil, Bool.not_true, Bool.not_false]
      refine can_ok h (List.mem_range.mp hn) (.inl rfl) ?_
      refine both (fun z => ?_) fun z => ?_
      · exact r1 z
      · exact r2 (by simpa using z)
    · have hM : ∀ m ∈ (List.range js.length).filter (fun n => decide (Can js F n)), m < js.length ∧ Can js F m := fun m hm => by
        rw [List.mem_filter, List.mem_range, decide_eq_true_eq] at hm
        exact hm
      have hnd : (F ++ (List.range js.length).filter (fun n => decide (Can js F n))).Nodup := by
        rw [List.nodup_append]
        exact ⟨hn, List.nodup_range.filter _, fun a ha b hb e => (hM b hb).2.1 (e ▸ ha)⟩
      have hsb2 : Sub js (F ++ (List.range js.length).filter (fun n => decide (Can js F n))) := fun m hm => (List.mem_append.mp hm).elim (hsb m) fun z => (hM m z).1
      have hl2 := len_le hnd hsb2
      rw [List.length_append] at hl2
      have fz : frzP (.lst (((List.range js.length).filter (fun n => decide (Can js F n))).map nI)) = .list (((List.range js.length).filter (fun n => decide (Can js F n))).map nI) := rfl
      rw [fz]
      (try simp only [DL.evA, DL.evH, DL.evJ, DL.evM, DL.evQ, DL.evU, DL.evX, List.getElem?_cons_zero, List.getElem?_cons_succ, List.set_cons_zero, List.set_cons_succ, ↓reduceIte, Bool.false_eq_true, List.map_cons, List.map_nil, List.length_cons, List.length_nil, Bool.not_true, Bool.not_false])
      (repeat refine And.intro (by first | exact True.intro | exact Nat.le_of_ble_eq_true rfl | with_reducible_and_instances rfl | exact rfl | decide) ?_)
      refine ⟨by rw [List.length_map, List.length_map]; unfold lim; omega, ?_⟩
      (try simp only [DL.evA, DL.evH, DL.evJ, DL.evM, DL.evQ, DL.evU, DL.evX, List.getElem?_cons_zero, List.getElem?_cons_succ, List.set_cons_zero, List.set_cons_succ, ↓reduceIte, Bool.false_eq_true, List.map_cons, List.map_nil, List.length_cons, List.length_nil, Bool.not_true, Bool.not_false])
      rw [List.length_map]
      refine ⟨_, ?_, F ++ (List.range js.length).filter (fun n => decide (Can js F n)), decide (0 < ((List.range js.length).filter (fun n => decide (Can js F n))).length), _, _, by rw [List.map_append]; congr 6; simp, trivial, hs F hI, hnd, hsb2, fun z n hn hc => ?_, rfl⟩
      · rw [List.length_append]
        by_cases z : 0 < ((List.range js.length).filter (fun n => decide (Can js F n))).length
        · rw [decide_eq_true z]
          show _ < 2 * _ + 1
          simp only [Bool.toNat_true]
          omega
        · rw [decide_eq_false z]
          simp only [Bool.toNat_false, Bool.toNat_true]
          omega
      · have z : ¬ 0 < ((List.range js.length).filter (fun n => decide (Can js F n))).length := by simpa using z
        have e0 := List.length_eq_zero_iff.mp (show ((List.range js.length).filter (fun n => decide (Can js F n))).length = 0 by omega)
        rw [e0, List.append_nil] at hc
        have : n ∈ (List.range js.length).filter (fun n => decide (Can js F n)) := List.mem_filter.mpr ⟨List.mem_range.mpr hn, decide_eq_true hc⟩
        rw [e0] at this
        cases this
theorem look_bad (h : JS p js) {R : List Nat} (hR : Ring js R) {Q : Rz → Prop} (q : Q (.ex S)) : W (m_look_round_y [.pu p] S) Q := by
  refine look_gen (I := fun F => ∀ r ∈ R, r ∉ F) h (fun r _ z => by cases z) (fun F hF r hr hm => ?_) fun F hI hn hs hc => ?_
  · rcases List.mem_append.mp hm with z | z
    · exact hF r hr z
    · have z2 := (List.mem_filter.mp z).2
      rw [decide_eq_true_eq] at z2
      obtain ⟨_, m, hm1, hm2⟩ := hR.2 r hr
      exact hF m hm2 (z2.2 m hm1)
  · obtain ⟨h1, h2⟩ := hR
    obtain ⟨r, hr⟩ := List.exists_mem_of_ne_nil R h1
    have hl : F.length < js.length := by
      have hnd : (r :: F).Nodup := List.nodup_cons.mpr ⟨hI r hr, hn⟩
      have := len_le (js := js) hnd fun m hm => (List.mem_cons.mp hm).elim (fun e => e ▸ (h2 r hr).1) (hs m)
      rw [List.length_cons] at this
      omega
    rw [if_pos hl]
    exact q
theorem look_good (h : JS p js) (ac : Acy js) {Q : Rz → Prop} (q : Q (.ok (.pu .none) S)) : W (m_look_round_y [.pu p] S) Q := by
  refine look_gen (I := fun _ => True) h trivial (fun _ _ => trivial) fun F _ hn hs hc => ?_
  have hl : ¬ F.length < js.length := fun c => by
    obtain ⟨m, m1, m2⟩ := some_left c
    obtain ⟨n, n1, n2, n3⟩ := ac F ⟨m, m1, m2⟩
    exact hc n n1 ⟨n2, n3⟩
  rw [if_neg hl]
  exact q
theorem least_bad (h : JS p js) {R : List Nat} (hR : Ring js R) {Q : Rz → Prop} (q : Q (.ex S)) : W (m_least_takes_y [.pu p] S) Q := by
  unfold m_least_takes_y
  rw [w_runY]
  refine ⟨⟨rfl, by decide⟩, ?_⟩
  rw [show env0 3 [D.pu p] = [some (.val (.pu p)), none, none] from rfl]
  unfold b_least_takes_y
  simp only [DL.evA, DL.evH, DL.evJ, DL.evM, DL.evQ, DL.evU, DL.evX, List.getElem?_cons_zero, List.getElem?_cons_succ, List.set_cons_zero, List.set_cons_succ, ↓reduceIte, Bool.false_eq_true, List.map_cons, List.map_nil, List.length_cons, List.length_nil, Bool.not_true, Bool.not_false, w_ySeq, w_yCall]
  refine ⟨rfl, look_bad h hR ?_⟩
  simp only [w_ycX, w_yQx, w_yEx]
  exact q
theorem bound_bad (h : JS p js) {R : List Nat} (hR : Ring js R) {Q : Rz → Prop} (q : Q (.ex S)) : W (m_bound_of_y [.pu p] S) Q := by
  unfold m_bound_of_y
  rw [w_runY]
  refine ⟨⟨rfl, by decide⟩, ?_⟩
  rw [show env0 8 [D.pu p] = [some (.val (.pu p)), none, none, none, none, none, none, none] from rfl]
  unfold b_bound_of_y
  simp only [DL.evA, DL.evH, DL.evJ, DL.evM, DL.evQ, DL.evU, DL.evX, List.getElem?_cons_zero, List.getElem?_cons_succ, List.set_cons_zero, List.set_cons_succ, ↓reduceIte, Bool.false_eq_true, List.map_cons, List.map_nil, List.length_cons, List.length_nil, Bool.not_true, Bool.not_false, w_ySeq, w_yCall]
  refine ⟨rfl, look_bad h hR ?_⟩
  simp only [w_ycX, w_yQx, w_yEx]
  exact q
end
noncomputable def tlL : Sx := sSeq (sSet 1 (xA (gMake "Taking" m_Taking___init__) (aCons (xVar 0) (aNil)))) (sSeq (sSet 2 (xMeth "Taking" "takes_from" (m_Taking_takes_from 12) (xVar 1) (aCons (xA gTup (aNil)) (aNil)))) (sSeq (sRet (xA gTupC (aCons (xVar 2) (aCons (xA (gCallF m_first_order_c) (aCons (xVar 1) (aCons (xVar 2) (aNil)))) (aNil))))) (sNil)))
noncomputable def tlB : Sx := sSeq (sSet 1 (xMeth "Taking" "takes_from" (m_Taking_takes_from 12) (xA (gMake "Taking" m_Taking___init__) (aCons (xVar 0) (aNil))) (aCons (xA gTup (aNil)) (aNil)))) (sSeq (sSet 2 (xA gLstN (aNil))) (sSeq (sSet 3 (xA gLst (aCons (xA gTup (aNil)) (aNil)))) (sSeq (sFor (iRange1 (aCons (x2 (s2 pSub) (xVar 1) (xP (.int 1))) (aNil))) (gNm 4) (sSeq (sSet 5 (xA gLstN (aNil))) (sSeq (sFor (iSeq (xVar 3)) (gNm 6) (sSeq (sExt (xVar 5) (xLcN (iSeq (xA (gCallP m_tools_of) (aCons (xVar 0) (aNil)))) (gNm 7) (tYesX) (xA (gCallP m_gone_on) (aCons (xVar 0) (aCons (xVar 7) (aCons (xVar 6) (aNil))))) [7])) (sNil))) (sFq 5 (sSeq (sSet 3 (xA (gCallP m_greatest_ones) (aCons (xVar 5) (aNil)))) (sSeq (sApp (xVar 2) (xVar 3)) (sNil))))))) (sFq 2 (sSeq (sRet (xVar 2)) (sNil))))))
theorem splC : b_least_takes_c = sSeq (sDrop (xA (gCallP m_look_round) (aCons (xVar 0) (aNil)))) tlL := rfl
theorem splY : b_least_takes_y = ySeq (yCall m_look_round_y (aCons (xVar 0) (aNil))) (yOf tlL) := rfl
theorem splB : b_bound_of = sSeq (sDrop (xA (gCallP m_look_round) (aCons (xVar 0) (aNil)))) tlB := rfl
theorem splZ : b_bound_of_y = ySeq (yCall m_look_round_y (aCons (xVar 0) (aNil))) (yOf tlB) := rfl
section
variable {S : Sto} {e : Envi} {p : P} {js : List Job} {n : Nat}
theorem drop_look {b : Sx} {Q : Out → Prop} (h : W (sSeq (sDrop (xA (gCallP m_look_round) (aCons (xVar 0) (aNil)))) b e S) Q) (he : e[0]? = some (some (.val (.pu p)))) : W (b e S) Q := by
  simp only [DL.evA, DL.evH, DL.evJ, DL.evM, DL.evQ, DL.evU, DL.evX, List.getElem?_cons_zero, List.getElem?_cons_succ, List.set_cons_zero, List.set_cons_succ, ↓reduceIte, Bool.false_eq_true, List.map_cons, List.map_nil, List.length_cons, List.length_nil, Bool.not_true, Bool.not_false, he] at h
  obtain ⟨r, _, h⟩ := h
  exact h
theorem end_any {o : Out} {Q : Rz → Prop} (q : ∀ d S', Q (.ok d S')) (h : endQ (fun _ => True) o) : yEnd Q (.o o) := by
  cases o with
  | nx e S => exact q _ _
  | rt d e S => exact ⟨h.1, q _ _⟩
  | bk _ _ => exact h.elim
  | ct _ _ => exact h.elim
theorem least_good (h : JS p js) (h11 : js.length ≤ 11) (ac : Acy js) (w : Wf js) {Q : Rz → Prop} (q : ∀ d S', Q (.ok d S')) : W (m_least_takes_y [.pu p] S) Q := by
  have key := leastC_ok (S := S) h h11 ac w (Q := fun _ => True) fun _ _ _ _ _ _ _ _ _ => trivial
  unfold m_least_takes_c at key
  rw [w_runF, splC] at key
  have k2 := drop_look (p := p) key.2 rfl
  unfold m_least_takes_y
  rw [w_runY, splY]
  refine ⟨⟨rfl, by decide⟩, ?_⟩
  rw [w_ySeq, w_yCall]
  simp only [show env0 3 [D.pu p] = [some (.val (.pu p)), none, none] from rfl, DL.evA, DL.evH, DL.evJ, DL.evM, DL.evQ, DL.evU, DL.evX, List.getElem?_cons_zero, List.getElem?_cons_succ, List.set_cons_zero, List.set_cons_succ, ↓reduceIte, Bool.false_eq_true, List.map_cons, List.map_nil, List.length_cons, List.length_nil, Bool.not_true, Bool.not_false] at k2 ⊢
  refine ⟨rfl, look_good h ac ?_⟩
  rw [w_ycO, w_yQn, w_yOf]
  exact k2.imp fun o ho => end_any q ho
theorem bound_good (h : JS p js) (h10 : js.length ≤ 10) (ac : Acy js) (w : Wf js) {Q : Rz → Prop} (q : ∀ d S', Q (.ok d S')) : W (m_bound_of_y [.pu p] S) Q := by
  have key := bound_ok (S := S) h h10 ac w (Q := fun _ => True) fun _ _ _ _ _ _ => trivial
  unfold m_bound_of at key
  rw [w_runF, splB] at key
  have k2 := drop_look (p := p) key.2 rfl
  unfold m_bound_of_y
  rw [w_runY, splZ]
  refine ⟨⟨rfl, by decide⟩, ?_⟩
  rw [w_ySeq, w_yCall]
  simp only [show env0 8 [D.pu p] = [some (.val (.pu p)), none, none, none, none, none, none, none] from rfl, DL.evA, DL.evH, DL.evJ, DL.evM, DL.evQ, DL.evU, DL.evX, List.getElem?_cons_zero, List.getElem?_cons_succ, List.set_cons_zero, List.set_cons_succ, ↓reduceIte, Bool.false_eq_true, List.map_cons, List.map_nil, List.length_cons, List.length_nil, Bool.not_true, Bool.not_false] at k2 ⊢
  refine ⟨rfl, look_good h ac ?_⟩
  rw [w_ycO, w_yQn, w_yOf]
  exact k2.imp fun o ho => end_any q ho
theorem refused_bad (h : JS p js) {R : List Nat} (hR : Ring js R) (k : Int) {Q : P → Prop} (q : Q (.str "round")) : W (m__law_refused [.int k, p]) Q := by
  unfold m__law_refused
  rw [w_runP]
  refine ⟨⟨rfl, by decide⟩, ?_⟩
  rw [show env0 4 (List.map D.pu [.int k, p]) = [some (.val (.pu (.int k))), some (.val (.pu p)), none, none] from rfl]
  unfold b__law_refused
  simp only [DL.evA, DL.evH, DL.evJ, DL.evM, DL.evQ, DL.evU, DL.evX, List.getElem?_cons_zero, List.getElem?_cons_succ, List.set_cons_zero, List.set_cons_succ, ↓reduceIte, Bool.false_eq_true, List.map_cons, List.map_nil, List.length_cons, List.length_nil, Bool.not_true, Bool.not_false, w_sTry, w_ySeq, w_yIf, w_yCall]
  refine ⟨rfl, ?_⟩
  refine both (fun c => ?_) fun c => ?_
  · refine ⟨rfl, least_bad h hR ?_⟩
    simp only [w_ycX, w_yQx, w_tryX]
    refine ⟨⟨by simp, by simp⟩, ?_⟩
    (try simp only [DL.evA, DL.evH, DL.evJ, DL.evM, DL.evQ, DL.evU, DL.evX, List.getElem?_cons_zero, List.getElem?_cons_succ, List.set_cons_zero, List.set_cons_succ, ↓reduceIte, Bool.false_eq_true, List.map_cons, List.map_nil, List.length_cons, List.length_nil, Bool.not_true, Bool.not_false])
    exact q
  · refine ⟨rfl, bound_bad h hR ?_⟩
    simp only [w_ycX, w_yQx, w_tryX]
    refine ⟨⟨by simp, by simp⟩, ?_⟩
    (try simp only [DL.evA, DL.evH, DL.evJ, DL.evM, DL.evQ, DL.evU, DL.evX, List.getElem?_cons_zero, List.getElem?_cons_succ, List.set_cons_zero, List.set_cons_succ, ↓reduceIte, Bool.false_eq_true, List.map_cons, List.map_nil, List.length_cons, List.length_nil, Bool.not_true, Bool.not_false])
    exact q
theorem refused_good (h : JS p js) (h10 : js.length ≤ 10) (ac : Acy js) (w : Wf js) (k : Int) {Q : P → Prop} (q : Q (.str "")) : W (m__law_refused [.int k, p]) Q := by
  unfold m__law_refused
  rw [w_runP]
  refine ⟨⟨rfl, by decide⟩, ?_⟩
  rw [show env0 4 (List.map D.pu [.int k, p]) = [some (.val (.pu (.int k))), some (.val (.pu p)), none, none] from rfl]
  unfold b__law_refused
  simp only [DL.evA, DL.evH, DL.evJ, DL.evM, DL.evQ, DL.evU, DL.evX, List.getElem?_cons_zero, List.getElem?_cons_succ, List.set_cons_zero, List.set_cons_succ, ↓reduceIte, Bool.false_eq_true, List.map_cons, List.map_nil, List.length_cons, List.length_nil, Bool.not_true, Bool.not_false, w_sTry, w_ySeq, w_yIf, w_yCall]
  refine ⟨rfl, ?_⟩
  refine both (fun c => ?_) fun c => ?_
  · refine ⟨rfl, least_good h (by omega) ac w fun d S' => ?_⟩
    simp only [DL.evA, DL.evH, DL.evJ, DL.evM, DL.evQ, DL.evU, DL.evX, List.getElem?_cons_zero, List.getElem?_cons_succ, List.set_cons_zero, List.set_cons_succ, ↓reduceIte, Bool.false_eq_true, List.map_cons, List.map_nil, List.length_cons, List.length_nil, Bool.not_true, Bool.not_false, w_ycO, w_yQn, w_yOf, w_tryO]
    exact q
  · refine ⟨rfl, bound_good h h10 ac w fun d S' => ?_⟩
    simp only [DL.evA, DL.evH, DL.evJ, DL.evM, DL.evQ, DL.evU, DL.evX, List.getElem?_cons_zero, List.getElem?_cons_succ, List.set_cons_zero, List.set_cons_succ, ↓reduceIte, Bool.false_eq_true, List.map_cons, List.map_nil, List.length_cons, List.length_nil, Bool.not_true, Bool.not_false, w_ycO, w_yQn, w_yOf, w_tryO]
    exact q
end
end K60
/-! k60: the law. -/
namespace K60
open PySem PySem.Spec PyProof.Rows L2 JJ
open DL hiding St take_st take_ok
section
variable {S : Sto} {e : Envi} {p : P} {js : List Job} {n m r : Nat} {T : Int} {R : List Nat}
theorem ring_comp {c : Nat} (h : StL S n T c (List.range m)) (hT : T < 900000) (hr : r ≤ m) (hm : m ≤ 20) {e : Envi} (h1 : e[1]? = some (some (.val (.rf n)))) (h5 : e[5]? = some (some (.val (.rf c)))) (hl : 10 < e.length) {Q : List P × Sto → Prop} (q : ∀ (O : List Nat) S', O.length = r → (∀ x ∈ O, x < m) → JJ.St S' n (T + r) → Q (O.map nI, S')) :
    W (compD (gNm 10) (tYesX) (xPopI (xVar 5) (xA (gCallF m__law_take) (aCons (xVar 1) (aCons (xA gLen (aCons (xVar 5) (aNil))) (aNil))))) (e.set 10 none) (rngD 0 r) S []) Q := by
  refine comp_acc (I := fun as S1 => ∃ xs, StL S1 n (T + as.length) c xs ∧ (as ++ xs).Perm (List.range m)) (rngD 0 r) [] _ ⟨List.range m, by simpa using h, List.Perm.refl _⟩ ?_ ?_ Q ?_
  · intro d hd as S1 hl1 ⟨xs, hx, hp⟩ R2 r2
    rw [List.length_nil, Nat.zero_add, rng_len] at hl1
    obtain ⟨j, _, rfl⟩ : ∃ j : Nat, True ∧ d = .pu (.int j) := by
      rw [rng0] at hd
      obtain ⟨p, hp, rfl⟩ := List.mem_map.mp hd
      obtain ⟨j, _, rfl⟩ := List.mem_map.mp hp
      exact ⟨j, trivial, rfl⟩
    have hpl := hp.length_eq
    rw [List.length_append, List.length_range] at hpl
    have v1 : ∀ {z : Option Sl}, ((e.set 10 none).set 10 z)[1]? = some (some (.val (.rf n))) := fun {z} => by rw [List.getElem?_set_ne (by decide), List.getElem?_set_ne (by decide)]; exact h1
    have v5 : ∀ {z : Option Sl}, ((e.set 10 none).set 10 z)[5]? = some (some (.val (.rf c))) := fun {z} => by rw [List.getElem?_set_ne (by decide), List.getElem?_set_ne (by decide)]; exact h5
    rw [w_nmP, w_yes]
    refine ⟨rfl, ?_⟩
    unfold xPopI
    simp only [DL.evA, DL.evH, DL.evJ, DL.evM, DL.evQ, DL.evU, DL.evX, List.getElem?_cons_zero, List.getElem?_cons_succ, List.set_cons_zero, List.set_cons_succ, ↓reduceIte, Bool.false_eq_true, List.map_cons, List.map_nil, List.length_cons, List.length_nil, Bool.not_true, Bool.not_false, v1, v5]
    rw [ls_rf hx.at]
    have lenrf : ∀ {Q : D × Sto → Prop}, Q (.pu (.int xs.length), S1) → W (gLen [.rf c] S1) Q := fun {Q} q => by
      refine ⟨_, ?_, q⟩
      show (seqD (.rf c) S1).bind _ = _
      rw [seq_rf hx.at, Option.bind_some, List.length_map, List.length_map]
    refine lenrf ⟨rfl, ?_⟩
    refine take_stl hx (by omega) (by omega) (by omega) fun v S2 a1 a2 h2 => ?_
    obtain ⟨k, rfl⟩ : ∃ k : Nat, v = k := ⟨v.toNat, by omega⟩
    dsimp only
    rw [h2.at]
    dsimp only
    rw [if_pos ⟨by omega, by omega⟩]
    have hk : k < xs.length := by omega
    have ek : (((xs.map nI).map D.pu)[(k : Int).toNat]?) = some (.pu (nI xs[k])) := by
      rw [Int.toNat_natCast, List.getElem?_map, List.getElem?_map, List.getElem?_eq_getElem hk]
      rfl
    rw [ek, Option.bind_some, w_some]
    refine r2 (xs[k]) _ ⟨xs.eraseIdx k, ?_, ?_⟩
    · have := stl_set h2 (xs.eraseIdx k)
      rw [Int.toNat_natCast]
      rw [List.length_append, List.length_singleton]
      have e3 : ((xs.eraseIdx k).map nI).map D.pu = ((xs.map nI).map D.pu).eraseIdx k := by rw [erase_map, erase_map]
      rw [e3] at this
      have e4 : T + ((as.length + 1 : Nat) : Int) = T + as.length + 1 := by omega
      rw [e4]
      exact this
    · rw [List.append_assoc]
      exact ((JJ.erase_perm xs k _ (List.getElem?_eq_getElem hk)).append_left as).trans hp
  · rw [rng_len, List.length_nil]; unfold lim; omega
  · intro as S1 hl1 ⟨xs, hx, hp⟩
    rw [rng_len, List.length_nil, Nat.zero_add] at hl1
    have := hx.st
    rw [hl1] at this
    exact q as S1 hl1 (fun x hx => List.mem_range.mp (hp.mem_iff.mp (List.mem_append_left _ hx))) this
/-- jobs with the first i needs of a ring put in -/
structure Rg (m : Nat) (R : List Nat) (i : Nat) (js : List Job) : Prop where
  len : js.length = m
  few : ∀ x, (nd js x).length ≤ 8 + i
  has : ∀ k x, k < i → R[k]? = some x → ∃ y ∈ nd js x, y ∈ R
theorem Rg.put {i x y k : Nat} {t : Int} (h : Rg m R i js) (hx : R[i]? = some x) (hm : x < m) (hy : y ∈ R) : Rg m R (i + 1) (js.set x (t, (nd js x).take k ++ [y] ++ (nd js x).drop k)) := by
  have hxl : x < js.length := by rw [h.len]; exact hm
  refine ⟨by rw [List.length_set, h.len], fun z => ?_, fun k' z hk hz => ?_⟩
  · rw [nd_set hxl]
    split
    · have := h.few x
      simp only [List.length_append, List.length_take, List.length_drop, List.length_singleton]
      omega
    · have := h.few z
      omega
  · rw [nd_set hxl]
    by_cases e : z = x
    · subst e
      rw [if_pos rfl]
      exact ⟨y, by simp, hy⟩
    · rw [if_neg e]
      rcases Nat.lt_or_ge k' i with c | c
      · exact h.has k' z c hz
      · have : k' = i := by omega
        subst this
        rw [hx] at hz
        cases hz
        exact absurd rfl e
theorem Rg.ring (h : Rg m R R.length js) (h0 : R ≠ []) (hm : ∀ x ∈ R, x < m) : Ring js R := ⟨h0, fun x hx => by
  obtain ⟨k, hk, e⟩ := List.getElem_of_mem hx
  exact ⟨by rw [h.len]; exact hm x hx, h.has k x hk (by rw [List.getElem?_eq_getElem hk, e])⟩⟩
theorem eq_own {i : Nat} {Q : D × Sto → Prop} (q : Q (.pu (.bool false), S)) : W (gEq true (.pu (.list (js.map jE))) (.bo i (.lst (js.map jE))) S) Q := by
  have e : gEq true (.pu (.list (js.map jE))) (.bo i (.lst (js.map jE))) S = if (shp 9 (.list (js.map jE)) && shp 9 (.list (js.map jE))) = true then some (.pu (.bool (!PyData.eqv (.list (js.map jE)) (.list (js.map jE)))), S) else none := rfl
  rw [e, shp_jE, eqv_refl 9 _ (shp_jE js), if_pos (by rfl), w_some]
  exact q
theorem job_get {x : Nat} (hx : x < js.length) : (js.map jE)[x]? = some (jE (tl js x, nd js x)) := by
  rw [List.getElem?_map, List.getElem?_eq_getElem hx]
  have : js.getD x (0, []) = js[x] := by rw [List.getD_eq_getElem?_getD, List.getElem?_eq_getElem hx]; rfl
  unfold tl nd
  rw [this]
  rfl
end
theorem law_go {d : D} (hb : W (m__law_begin [d] []) fun r => ∃ n c cells S', r = (.rf n, S') ∧ DL.StA S' n c cells 0) (hn : noBo [d] = true) : ∃ r, m_law [d] [] = some r ∧ r.1 = .pu (.bool true) := by
  suffices h : W (m_law [d] []) fun r => r.1 = .pu (.bool true) by
    obtain ⟨r, h1, h2⟩ := h
    exact ⟨r, h1, h2⟩
  unfold m_law
  rw [w_runF]
  refine ⟨⟨rfl, by decide⟩, ?_⟩
  rw [show env0 14 [d] = some (.val d) :: List.replicate 13 none from rfl]
  unfold b_law
  simp only [DL.evA, DL.evH, DL.evJ, DL.evM, DL.evQ, DL.evU, DL.evX, List.getElem?_cons_zero, List.getElem?_cons_succ, List.set_cons_zero, List.set_cons_succ, ↓reduceIte, Bool.false_eq_true, List.map_cons, List.map_nil, List.length_cons, List.length_nil, Bool.not_true, Bool.not_false, List.replicate]
  refine ⟨by cases d <;> first | exact hn | rfl, hb.imp fun r hr => ?_⟩
  obtain ⟨n, c, cells, S', rfl, hst⟩ := hr
  have h0 : JJ.St S' n 0 := ⟨c, cells, 0, sta_of hst, by omega⟩
  (try simp only [DL.evA, DL.evH, DL.evJ, DL.evM, DL.evQ, DL.evU, DL.evX, List.getElem?_cons_zero, List.getElem?_cons_succ, List.set_cons_zero, List.set_cons_succ, ↓reduceIte, Bool.false_eq_true, List.map_cons, List.map_nil, List.length_cons, List.length_nil, Bool.not_true, Bool.not_false])
  (repeat refine And.intro (by first | exact True.intro | exact Nat.le_of_ble_eq_true rfl | with_reducible_and_instances rfl | exact rfl | decide) ?_)
  rw [show Int.toNat 3 = 3 from rfl]
  refine for_rng (fun i e S => ∃ e2 e3 e4 e5 e6 e7 e8 e9 e10 e11 e12 e13 : Option Sl, e = [some (.val d), some (.val (.rf n)), e2, e3, e4, e5, e6, e7, e8, e9, e10, e11, e12, e13] ∧ JJ.St S n (1000 * i)) ⟨_, _, _, _, _, _, _, _, _, _, _, _, rfl, by simpa using h0⟩ ?_ ?_
  · rintro i e S hi0 hi1 ⟨e2, e3, e4, e5, e6, e7, e8, e9, e10, e11, e12, e13, rfl, h⟩
    (try simp only [DL.evA, DL.evH, DL.evJ, DL.evM, DL.evQ, DL.evU, DL.evX, List.getElem?_cons_zero, List.getElem?_cons_succ, List.set_cons_zero, List.set_cons_succ, ↓reduceIte, Bool.false_eq_true, List.map_cons, List.map_nil, List.length_cons, List.length_nil, Bool.not_true, Bool.not_false])
    (repeat refine And.intro (by first | exact True.intro | exact Nat.le_of_ble_eq_true rfl | with_reducible_and_instances rfl | exact rfl | decide) ?_)
    refine JJ.take_st h (by decide) (by decide) (by omega) fun v S1 l1 u1 h1 => ?_
    have most : ∀ {Q : D → Prop}, (∀ w : Int, 1 ≤ w → w ≤ 10 → Q (.pu (.int w))) → W (atI [D.pu (.int 5), .pu (.int 10)] v) Q := fun {Q} q => at2 l1 u1 (q 5 (by decide) (by decide)) (q 10 (by decide) (by decide))
    (try simp only [DL.evA, DL.evH, DL.evJ, DL.evM, DL.evQ, DL.evU, DL.evX, List.getElem?_cons_zero, List.getElem?_cons_succ, List.set_cons_zero, List.set_cons_succ, ↓reduceIte, Bool.false_eq_true, List.map_cons, List.map_nil, List.length_cons, List.length_nil, Bool.not_true, Bool.not_false])
    refine most fun w hw1 hw2 => ?_
    (try simp only [DL.evA, DL.evH, DL.evJ, DL.evM, DL.evQ, DL.evU, DL.evX, List.getElem?_cons_zero, List.getElem?_cons_succ, List.set_cons_zero, List.set_cons_succ, ↓reduceIte, Bool.false_eq_true, List.map_cons, List.map_nil, List.length_cons, List.length_nil, Bool.not_true, Bool.not_false])
    (repeat refine And.intro (by first | exact True.intro | exact Nat.le_of_ble_eq_true rfl | with_reducible_and_instances rfl | exact rfl | decide) ?_)
    refine JJ.take_st h1 (by omega) (by omega) (by omega) fun v2 S2 l2 u2 h2 => ?_
    obtain ⟨m, em, hm1, hm10⟩ : ∃ m : Nat, 1 + v2 = m ∧ 1 ≤ m ∧ m ≤ 10 := ⟨(1 + v2).toNat, by omega, by omega, by omega⟩
    (try simp only [DL.evA, DL.evH, DL.evJ, DL.evM, DL.evQ, DL.evU, DL.evX, List.getElem?_cons_zero, List.getElem?_cons_succ, List.set_cons_zero, List.set_cons_succ, ↓reduceIte, Bool.false_eq_true, List.map_cons, List.map_nil, List.length_cons, List.length_nil, Bool.not_true, Bool.not_false])
    rw [em]
    (try simp only [DL.evA, DL.evH, DL.evJ, DL.evM, DL.evQ, DL.evU, DL.evX, List.getElem?_cons_zero, List.getElem?_cons_succ, List.set_cons_zero, List.set_cons_succ, ↓reduceIte, Bool.false_eq_true, List.map_cons, List.map_nil, List.length_cons, List.length_nil, Bool.not_true, Bool.not_false])
    (repeat refine And.intro (by first | exact True.intro | exact Nat.le_of_ble_eq_true rfl | with_reducible_and_instances rfl | exact rfl | decide) ?_)
    refine JJ.take_st h2 (by decide) (by decide) (by omega) fun v3 S3 l3 u3 h3 => ?_
    (try simp only [DL.evA, DL.evH, DL.evJ, DL.evM, DL.evQ, DL.evU, DL.evX, List.getElem?_cons_zero, List.getElem?_cons_succ, List.set_cons_zero, List.set_cons_succ, ↓reduceIte, Bool.false_eq_true, List.map_cons, List.map_nil, List.length_cons, List.length_nil, Bool.not_true, Bool.not_false])
    (repeat refine And.intro (by first | exact True.intro | exact Nat.le_of_ble_eq_true rfl | with_reducible_and_instances rfl | exact rfl | decide) ?_)
    refine jobs8_ok h3 (by omega) (by omega) (by omega) (by omega) fun js S4 hl ac w8 h8 h4 => ?_
    simp only [DL.evA, DL.evH, DL.evJ, DL.evM, DL.evQ, DL.evU, DL.evX, List.getElem?_cons_zero, List.getElem?_cons_succ, List.set_cons_zero, List.set_cons_succ, ↓reduceIte, Bool.false_eq_true, List.map_cons, List.map_nil, List.length_cons, List.length_nil, Bool.not_true, Bool.not_false, w_lr1C, w_lrQ]
    refine ⟨by unfold rOk; simp; omega, rfl, ?_⟩
    rw [Int.toNat_natCast, rng_nat]
    refine take_stl (stl_new h4 (List.range m)) (by omega) (by omega) (by omega) fun v4 S5 l5 u5 h5 => ?_
    obtain ⟨r, er, hr1, hrm⟩ : ∃ r : Nat, 1 + v4 = r ∧ 1 ≤ r ∧ r ≤ m := ⟨(1 + v4).toNat, by omega, by omega, by omega⟩
    (try simp only [DL.evA, DL.evH, DL.evJ, DL.evM, DL.evQ, DL.evU, DL.evX, List.getElem?_cons_zero, List.getElem?_cons_succ, List.set_cons_zero, List.set_cons_succ, ↓reduceIte, Bool.false_eq_true, List.map_cons, List.map_nil, List.length_cons, List.length_nil, Bool.not_true, Bool.not_false])
    rw [er]
    refine ⟨by unfold rOk; simp; omega, ?_⟩
    rw [Int.toNat_natCast]
    refine ring_comp (e := [some (.val d), some (.val (.rf n)), some (.val (.pu (.int i))), some (.val (.pu (.int m))), some (.val (.pu (.list (js.map jE)))), some (.val (.rf S4.length)), e6, e7, e8, e9, e10, e11, e12, e13]) h5 (by omega) hrm (by omega) rfl rfl (by simp) fun R S6 hRl hRm h6 => ?_
    refine ⟨by decide, ?_⟩
    rw [show frzP (.lst (R.map nI)) = .list (R.map nI) from rfl]
    (try simp only [DL.evA, DL.evH, DL.evJ, DL.evM, DL.evQ, DL.evU, DL.evX, List.getElem?_cons_zero, List.getElem?_cons_succ, List.set_cons_zero, List.set_cons_succ, ↓reduceIte, Bool.false_eq_true, List.map_cons, List.map_nil, List.length_cons, List.length_nil, Bool.not_true, Bool.not_false])
    refine enum_of ?_
    (try simp only [DL.evA, DL.evH, DL.evJ, DL.evM, DL.evQ, DL.evU, DL.evX, List.getElem?_cons_zero, List.getElem?_cons_succ, List.set_cons_zero, List.set_cons_succ, ↓reduceIte, Bool.false_eq_true, List.map_cons, List.map_nil, List.length_cons, List.length_nil, Bool.not_true, Bool.not_false])
    refine for_nums (fun k e S => ∃ (js' : List Job) (e10 e11 e12 : Option Sl), e = [some (.val d), some (.val (.rf n)), some (.val (.pu (.int i))), some (.val (.pu (.int m))), some (.val (.pu (.list (js.map jE)))), some (.val (.rf S4.length)), some (.val (.pu (.list (R.map nI)))), some (.ow (.lst (js'.map jE))), e8, e9, e10, e11, e12, e13] ∧ Rg m R k js' ∧ JJ.St S n (1000 * i + 500 + k)) ⟨js, _, _, _, rfl, ⟨hl, fun x => by have := h8 x; omega, fun k x hk => by omega⟩, JJ.St.le h6 (by omega)⟩ ?_ ?_
    · rintro k x e S hk ⟨js', e10, e11, e12, rfl, hg, hs⟩
      (try simp only [DL.evA, DL.evH, DL.evJ, DL.evM, DL.evQ, DL.evU, DL.evX, List.getElem?_cons_zero, List.getElem?_cons_succ, List.set_cons_zero, List.set_cons_succ, ↓reduceIte, Bool.false_eq_true, List.map_cons, List.map_nil, List.length_cons, List.length_nil, Bool.not_true, Bool.not_false])
      have hkR := (List.getElem?_eq_some_iff.mp hk).1
      have hxm : x < m := hRm x (List.mem_of_getElem? hk)
      have hxl : x < js'.length := by rw [hg.len]; exact hxm
      have ndl := hg.few x
      refine ⟨trivial, at_nat (job_get hxl) ?_⟩
      rw [show jE (tl js' x, nd js' x) = .tuple [.int (tl js' x), .list ((nd js' x).map nI)] from rfl]
      (try simp only [DL.evA, DL.evH, DL.evJ, DL.evM, DL.evQ, DL.evU, DL.evX, List.getElem?_cons_zero, List.getElem?_cons_succ, List.set_cons_zero, List.set_cons_succ, ↓reduceIte, Bool.false_eq_true, List.map_cons, List.map_nil, List.length_cons, List.length_nil, Bool.not_true, Bool.not_false])
      (repeat refine And.intro (by first | exact True.intro | exact Nat.le_of_ble_eq_true rfl | with_reducible_and_instances rfl | exact rfl | decide) ?_)
      (try simp only [DL.evA, DL.evH, DL.evJ, DL.evM, DL.evQ, DL.evU, DL.evX, List.getElem?_cons_zero, List.getElem?_cons_succ, List.set_cons_zero, List.set_cons_succ, ↓reduceIte, Bool.false_eq_true, List.map_cons, List.map_nil, List.length_cons, List.length_nil, Bool.not_true, Bool.not_false])
      rw [List.length_map]
      refine JJ.take_st hs (by omega) (by omega) (by omega) fun v5 S7 l7 u7 h7 => ?_
      obtain ⟨q, rfl⟩ : ∃ q : Nat, v5 = q := ⟨v5.toNat, by omega⟩
      rw [List.length_map]
      refine ⟨by rw [decide_eq_true_eq]; omega, ?_⟩
      obtain ⟨y, hy⟩ : ∃ y, R[(k + 1) % R.length]? = some y := ⟨_, List.getElem?_eq_getElem (Nat.mod_lt _ (by omega))⟩
      rw [show ((k : Int) + 1) % (R.length : Int) = (((k + 1) % R.length : Nat) : Int) by rw [Int.natCast_emod, Int.natCast_add]; rfl]
      refine at_nat (x := nI y) (by rw [List.getElem?_map, hy]; rfl) ?_
      (try simp only [DL.evA, DL.evH, DL.evJ, DL.evM, DL.evQ, DL.evU, DL.evX, List.getElem?_cons_zero, List.getElem?_cons_succ, List.set_cons_zero, List.set_cons_succ, ↓reduceIte, Bool.false_eq_true, List.map_cons, List.map_nil, List.length_cons, List.length_nil, Bool.not_true, Bool.not_false])
      refine ⟨rfl, ⟨by omega, by omega⟩, by rw [List.length_map]; unfold lim; omega, at_nat (job_get hxl) ?_⟩
      rw [show jE (tl js' x, nd js' x) = .tuple [.int (tl js' x), .list ((nd js' x).map nI)] from rfl]
      have en : List.take (q : Int).toNat (List.map nI (nd js' x)) ++ [nI y] ++ List.drop (q : Int).toNat (List.map nI (nd js' x)) = ((nd js' x).take q ++ [y] ++ (nd js' x).drop q).map nI := by
        rw [Int.toNat_natCast, List.map_append, List.map_append, List.map_take, List.map_drop]
        rfl
      rw [en, show frzP (.lst (((nd js' x).take q ++ [y] ++ (nd js' x).drop q).map nI)) = .list (((nd js' x).take q ++ [y] ++ (nd js' x).drop q).map nI) from rfl]
      (try simp only [DL.evA, DL.evH, DL.evJ, DL.evM, DL.evQ, DL.evU, DL.evX, List.getElem?_cons_zero, List.getElem?_cons_succ, List.set_cons_zero, List.set_cons_succ, ↓reduceIte, Bool.false_eq_true, List.map_cons, List.map_nil, List.length_cons, List.length_nil, Bool.not_true, Bool.not_false])
      (repeat refine And.intro (by first | exact True.intro | exact Nat.le_of_ble_eq_true rfl | with_reducible_and_instances rfl | exact rfl | decide) ?_)
      have e1 : ixN ((js'.map jE).map D.pu).length (x : Int) = some x := by
        unfold ixN
        rw [List.length_map, List.length_map, if_pos (by omega), if_pos (by omega)]
        simp
      have e2 : ((js'.map jE).map D.pu).set x (.pu (.tuple [.int (tl js' x), .list (((nd js' x).take q ++ [y] ++ (nd js' x).drop q).map nI)])) = ((js'.set x (tl js' x, (nd js' x).take q ++ [y] ++ (nd js' x).drop q)).map jE).map D.pu := by
        rw [List.map_set, List.map_set]
        rfl
      have e3 : Option.map (fun j => ((js'.map jE).map D.pu).set j (.pu (.tuple [.int (tl js' x), .list (((nd js' x).take q ++ [y] ++ (nd js' x).drop q).map nI)]))) (ixN ((js'.map jE).map D.pu).length (x : Int)) = some (((js'.set x (tl js' x, (nd js' x).take q ++ [y] ++ (nd js' x).drop q)).map jE).map D.pu) := by
        rw [e1, Option.map_some, e2]
      unfold plE
      dsimp only
      rw [e3, Option.bind_some, pus_map, Option.bind_some, if_pos (by rw [List.length_map, List.length_set, hg.len]; unfold lim; omega)]
      refine w_some.mpr ⟨_, _, _, _, rfl, hg.put hk hxm (List.mem_of_getElem? hy), JJ.St.le h7 (by omega)⟩
    · rintro e S ⟨js', e10, e11, e12, rfl, hg, hs⟩
      have hR0 : R ≠ [] := fun z => by rw [z] at hRl; exact absurd hRl (by simp; omega)
      have ring := hg.ring hR0 hRm
      have hjs' : JS (.list (js'.map jE)) js' := ⟨⟨_, .inl rfl, jE_all js'⟩, by rw [hg.len]; omega, fun x => by have := hg.few x; omega⟩
      have hjs : JS (.list (js.map jE)) js := ⟨⟨_, .inl rfl, jE_all js⟩, by omega, fun x => by have := h8 x; omega⟩
      (try simp only [DL.evA, DL.evH, DL.evJ, DL.evM, DL.evQ, DL.evU, DL.evX, List.getElem?_cons_zero, List.getElem?_cons_succ, List.set_cons_zero, List.set_cons_succ, ↓reduceIte, Bool.false_eq_true, List.map_cons, List.map_nil, List.length_cons, List.length_nil, Bool.not_true, Bool.not_false])
      rw [show frzP (.lst (js'.map jE)) = .list (js'.map jE) from rfl]
      (try simp only [DL.evA, DL.evH, DL.evJ, DL.evM, DL.evQ, DL.evU, DL.evX, List.getElem?_cons_zero, List.getElem?_cons_succ, List.set_cons_zero, List.set_cons_succ, ↓reduceIte, Bool.false_eq_true, List.map_cons, List.map_nil, List.length_cons, List.length_nil, Bool.not_true, Bool.not_false])
      refine comp_on jE jE js' (fun j hj R2 r2 => ?_) (by rw [hg.len]; unfold lim; omega) ?_
      · rw [show jE j = .tuple [.int j.1, .list (j.2.map nI)] from rfl]
        simp only [wipeE, DL.evA, DL.evH, DL.evJ, DL.evM, DL.evQ, DL.evU, DL.evX, List.getElem?_cons_zero, List.getElem?_cons_succ, List.set_cons_zero, List.set_cons_succ, ↓reduceIte, Bool.false_eq_true, List.map_cons, List.map_nil, List.length_cons, List.length_nil, Bool.not_true, Bool.not_false]
        (repeat refine And.intro (by first | exact True.intro | exact Nat.le_of_ble_eq_true rfl | with_reducible_and_instances rfl | exact rfl | decide) ?_)
        exact r2
      · (try simp only [DL.evA, DL.evH, DL.evJ, DL.evM, DL.evQ, DL.evU, DL.evX, List.getElem?_cons_zero, List.getElem?_cons_succ, List.set_cons_zero, List.set_cons_succ, ↓reduceIte, Bool.false_eq_true, List.map_cons, List.map_nil, List.length_cons, List.length_nil, Bool.not_true, Bool.not_false])
        refine ⟨by decide, ?_⟩
        refine for_map (f := PyData.int) (xs := [0, 1, 0]) (fun k e S' => ∃ e9, e = [some (.val d), some (.val (.rf n)), some (.val (.pu (.int i))), some (.val (.pu (.int m))), some (.val (.pu (.list (js.map jE)))), some (.val (.rf S4.length)), some (.val (.pu (.list (R.map nI)))), some (.val (.pu (.list (js'.map jE)))), some (.ow (.lst (js'.map jE))), e9, e10, e11, e12, e13] ∧ S' = S) ⟨_, rfl, rfl⟩ ?_ ?_
        · rintro k w e S' hk ⟨e9, rfl, rfl⟩
          (try simp only [DL.evA, DL.evH, DL.evJ, DL.evM, DL.evQ, DL.evU, DL.evX, List.getElem?_cons_zero, List.getElem?_cons_succ, List.set_cons_zero, List.set_cons_succ, ↓reduceIte, Bool.false_eq_true, List.map_cons, List.map_nil, List.length_cons, List.length_nil, Bool.not_true, Bool.not_false])
          refine refused_bad hjs' ring _ ?_
          (try simp only [DL.evA, DL.evH, DL.evJ, DL.evM, DL.evQ, DL.evU, DL.evX, List.getElem?_cons_zero, List.getElem?_cons_succ, List.set_cons_zero, List.set_cons_succ, ↓reduceIte, Bool.false_eq_true, List.map_cons, List.map_nil, List.length_cons, List.length_nil, Bool.not_true, Bool.not_false])
          have e1 : PyData.eqv (.str ("round" : Str)) (.str ("round" : Str)) = true := eqv_refl 9 _ (by decide +kernel)
          have e2 : PyData.eqv (.str ("" : Str)) (.str ("" : Str)) = true := eqv_refl 9 _ (by decide +kernel)
          refine ⟨by decide +kernel, ?_⟩
          rw [e1, if_neg (by decide)]
          refine eq_own ?_
          (try simp only [DL.evA, DL.evH, DL.evJ, DL.evM, DL.evQ, DL.evU, DL.evX, List.getElem?_cons_zero, List.getElem?_cons_succ, List.set_cons_zero, List.set_cons_succ, ↓reduceIte, Bool.false_eq_true, List.map_cons, List.map_nil, List.length_cons, List.length_nil, Bool.not_true, Bool.not_false])
          refine refused_good hjs (by omega) ac w8 _ ?_
          refine ⟨by decide +kernel, ?_⟩
          rw [e2, if_neg (by decide)]
          exact ⟨_, rfl, trivial⟩
        · rintro e S' ⟨e9, rfl, rfl⟩
          (try simp only [DL.evA, DL.evH, DL.evJ, DL.evM, DL.evQ, DL.evU, DL.evX, List.getElem?_cons_zero, List.getElem?_cons_succ, List.set_cons_zero, List.set_cons_succ, ↓reduceIte, Bool.false_eq_true, List.map_cons, List.map_nil, List.length_cons, List.length_nil, Bool.not_true, Bool.not_false])
          exact ⟨_, _, _, _, _, _, _, _, _, _, _, _, rfl, JJ.St.le hs (by omega)⟩
  · rintro e S ⟨e2, e3, e4, e5, e6, e7, e8, e9, e10, e11, e12, e13, rfl, h⟩
    (try simp only [DL.evA, DL.evH, DL.evJ, DL.evM, DL.evQ, DL.evU, DL.evX, List.getElem?_cons_zero, List.getElem?_cons_succ, List.set_cons_zero, List.set_cons_succ, ↓reduceIte, Bool.false_eq_true, List.map_cons, List.map_nil, List.length_cons, List.length_nil, Bool.not_true, Bool.not_false])
    exact ⟨rfl, trivial⟩
theorem law_ok : scriptOk m_law := fun ns hl => by
  obtain ⟨r, h1, h2⟩ := law_go (DL.begin_pu hl) rfl
  obtain ⟨r', h3, h4⟩ := law_go (DL.begin_wr hl) rfl
  exact ⟨⟨r.2, by rw [h1, ← h2]⟩, r'.2, by rw [h3, ← h4]⟩
end K60
namespace K60
open PySem PySem.Spec PyProof.Rows L2 DL
theorem all_mk {l : PySem.W.OpenLaw} {w : World} {K : PySem.W.Frag} {h : Heap} {mg : Str → Option Value} {fa : Addr} {C_Taking : Addr} {a__law_begin : Addr} {od__law_begin an__law_begin : Option Addr} {sl__law_begin : Array (Option Value)} {oc__law_begin kV__law_begin dc__law_begin pm__law_begin cd__law_begin ct__law_begin : Value} {a__law_take : Addr} {od__law_take an__law_take : Option Addr} {sl__law_take : Array (Option Value)} {oc__law_take kV__law_take dc__law_take pm__law_take cd__law_take ct__law_take : Value} {a__law_jobs : Addr} {od__law_jobs an__law_jobs : Option Addr} {sl__law_jobs : Array (Option Value)} {oc__law_jobs kV__law_jobs dc__law_jobs pm__law_jobs cd__law_jobs ct__law_jobs : Value} {a__law_word : Addr} {od__law_word an__law_word : Option Addr} {sl__law_word : Array (Option Value)} {oc__law_word kV__law_word dc__law_word pm__law_word cd__law_word ct__law_word : Value} {a_tools_of : Addr} {od_tools_of an_tools_of : Option Addr} {sl_tools_of : Array (Option Value)} {oc_tools_of kV_tools_of dc_tools_of pm_tools_of cd_tools_of ct_tools_of : Value} {a_Taking___init__ : Addr} {od_Taking___init__ an_Taking___init__ : Option Addr} {sl_Taking___init__ : Array (Option Value)} {oc_Taking___init__ kV_Taking___init__ dc_Taking___init__ pm_Taking___init__ cd_Taking___init__ ct_Taking___init__ : Value} {a_can_be_done : Addr} {od_can_be_done an_can_be_done : Option Addr} {sl_can_be_done : Array (Option Value)} {oc_can_be_done kV_can_be_done dc_can_be_done pm_can_be_done cd_can_be_done ct_can_be_done : Value} {a_gone_on : Addr} {od_gone_on an_gone_on : Option Addr} {sl_gone_on : Array (Option Value)} {oc_gone_on kV_gone_on dc_gone_on pm_gone_on cd_gone_on ct_gone_on : Value} {a_Taking_takes_from : Addr} {od_Taking_takes_from an_Taking_takes_from : Option Addr} {sl_Taking_takes_from : Array (Option Value)} {oc_Taking_takes_from kV_Taking_takes_from dc_Taking_takes_from pm_Taking_takes_from cd_Taking_takes_from ct_Taking_takes_from : Value} {a_is_part : Addr} {od_is_part an_is_part : Option Addr} {sl_is_part : Array (Option Value)} {oc_is_part kV_is_part dc_is_part pm_is_part cd_is_part ct_is_part : Value} {a_greatest_ones : Addr} {od_greatest_ones an_greatest_ones : Option Addr} {sl_greatest_ones : Array (Option Value)} {oc_greatest_ones kV_greatest_ones dc_greatest_ones pm_greatest_ones cd_greatest_ones ct_greatest_ones : Value} {a_look_round : Addr} {od_look_round an_look_round : Option Addr} {sl_look_round : Array (Option Value)} {oc_look_round kV_look_round dc_look_round pm_look_round cd_look_round ct_look_round : Value} {a_bound_of : Addr} {od_bound_of an_bound_of : Option Addr} {sl_bound_of : Array (Option Value)} {oc_bound_of kV_bound_of dc_bound_of pm_bound_of cd_bound_of ct_bound_of : Value} {a_Taking_takes_behind : Addr} {od_Taking_takes_behind an_Taking_takes_behind : Option Addr} {sl_Taking_takes_behind : Array (Option Value)} {oc_Taking_takes_behind kV_Taking_takes_behind dc_Taking_takes_behind pm_Taking_takes_behind cd_Taking_takes_behind ct_Taking_takes_behind : Value} {a_Taking_next_job : Addr} {od_Taking_next_job an_Taking_next_job : Option Addr} {sl_Taking_next_job : Array (Option Value)} {oc_Taking_next_job kV_Taking_next_job dc_Taking_next_job pm_Taking_next_job cd_Taking_next_job ct_Taking_next_job : Value} {a_first_order : Addr} {od_first_order an_first_order : Option Addr} {sl_first_order : Array (Option Value)} {oc_first_order kV_first_order dc_first_order pm_first_order cd_first_order ct_first_order : Value} {a_least_takes : Addr} {od_least_takes an_least_takes : Option Addr} {sl_least_takes : Array (Option Value)} {oc_least_takes kV_least_takes dc_least_takes pm_least_takes cd_least_takes ct_least_takes : Value} {a__law_refused : Addr} {od__law_refused an__law_refused : Option Addr} {sl__law_refused : Array (Option Value)} {oc__law_refused kV__law_refused dc__law_refused pm__law_refused cd__law_refused ct__law_refused : Value} {a_law : Addr} {od_law an_law : Option Addr} {sl_law : Array (Option Value)} {oc_law kV_law dc_law pm_law cd_law ct_law : Value} {X_Round : Addr} {X_MillError : Addr} {X_NoTool : Addr} {X_NoWay : Addr} {X_Meets : Addr} {X_Bites : Addr} {X_Cuts : Addr} {X_BadRow : Addr} (X : K.In h) (G : h.Ns mainGlobals mg) (hfa : mg "law" = some (.ref fa))
    (aC_Taking : PySem.W.nsIn K mainGlobals "Taking" = some (some (.ref C_Taking)))
    (pg_Taking : PySem.W.plainGet K C_Taking Str.empty = true)
    (hd_Taking : PySem.W.hasDictIn K C_Taking = true)
    (po_Taking : PySem.W.plainOver K C_Taking = true)
    (sa_Taking : PySem.W.findIn K (.ref C_Taking) "__setattr__" = some (some (.builtin "object.__setattr__")))
    (mk_Taking : PySem.W.makesIn K C_Taking = true)
    (kc_Taking : PySem.W.keepIn K (.ref C_Taking) = true)
    (nf_Taking_jobs : PySem.W.findIn K (.ref C_Taking) "jobs" = some none)
    (nf_Taking_known : PySem.W.findIn K (.ref C_Taking) "known" = some none)
    (nf_Taking_tools : PySem.W.findIn K (.ref C_Taking) "tools" = some none)
    (a1__law_begin : PySem.W.nsIn K mainGlobals "_law_begin" = some (some (.ref a__law_begin)))
    (l1__law_begin : K.lookup a__law_begin = some ⟨oc__law_begin, od__law_begin, .func (PySem.W.fnOf "_law_begin" "_law_begin" (defArgs s__law_begin) (defBody s__law_begin) (defScope s__law_begin) .none kV__law_begin dc__law_begin pm__law_begin an__law_begin cd__law_begin ct__law_begin), sl__law_begin⟩)
    (c1__law_begin : PySem.W.codeIn K cd__law_begin "_law_begin" = true)
    (k1__law_begin : PySem.W.keepIn K (.ref a__law_begin) = true)
    (a1__law_take : PySem.W.nsIn K mainGlobals "_law_take" = some (some (.ref a__law_take)))
    (l1__law_take : K.lookup a__law_take = some ⟨oc__law_take, od__law_take, .func (PySem.W.fnOf "_law_take" "_law_take" (defArgs s__law_take) (defBody s__law_take) (defScope s__law_take) .none kV__law_take dc__law_take pm__law_take an__law_take cd__law_take ct__law_take), sl__law_take⟩)
    (c1__law_take : PySem.W.codeIn K cd__law_take "_law_take" = true)
    (k1__law_take : PySem.W.keepIn K (.ref a__law_take) = true)
    (a1__law_jobs : PySem.W.nsIn K mainGlobals "_law_jobs" = some (some (.ref a__law_jobs)))
    (l1__law_jobs : K.lookup a__law_jobs = some ⟨oc__law_jobs, od__law_jobs, .func (PySem.W.fnOf "_law_jobs" "_law_jobs" (defArgs s__law_jobs) (defBody s__law_jobs) (defScope s__law_jobs) .none kV__law_jobs dc__law_jobs pm__law_jobs an__law_jobs cd__law_jobs ct__law_jobs), sl__law_jobs⟩)
    (c1__law_jobs : PySem.W.codeIn K cd__law_jobs "_law_jobs" = true)
    (k1__law_jobs : PySem.W.keepIn K (.ref a__law_jobs) = true)
    (a1__law_word : PySem.W.nsIn K mainGlobals "_law_word" = some (some (.ref a__law_word)))
    (l1__law_word : K.lookup a__law_word = some ⟨oc__law_word, od__law_word, .func (PySem.W.fnOf "_law_word" "_law_word" (defArgs s__law_word) (defBody s__law_word) (defScope s__law_word) .none kV__law_word dc__law_word pm__law_word an__law_word cd__law_word ct__law_word), sl__law_word⟩)
    (c1__law_word : PySem.W.codeIn K cd__law_word "_law_word" = true)
    (k1__law_word : PySem.W.keepIn K (.ref a__law_word) = true)
    (a1_tools_of : PySem.W.nsIn K mainGlobals "tools_of" = some (some (.ref a_tools_of)))
    (l1_tools_of : K.lookup a_tools_of = some ⟨oc_tools_of, od_tools_of, .func (PySem.W.fnOf "tools_of" "tools_of" (defArgs s_tools_of) (defBody s_tools_of) (defScope s_tools_of) .none kV_tools_of dc_tools_of pm_tools_of an_tools_of cd_tools_of ct_tools_of), sl_tools_of⟩)
    (c1_tools_of : PySem.W.codeIn K cd_tools_of "tools_of" = true)
    (k1_tools_of : PySem.W.keepIn K (.ref a_tools_of) = true)
    (a1_Taking___init__ : PySem.W.findIn K (.ref C_Taking) "__init__" = some (some (.ref a_Taking___init__)))
    (i1_Taking___init__ : PySem.W.isFn K (.ref a_Taking___init__) = true)
    (l1_Taking___init__ : K.lookup a_Taking___init__ = some ⟨oc_Taking___init__, od_Taking___init__, .func (PySem.W.fnOf "__init__" "Taking.__init__" (defArgs s_Taking___init__) (defBody s_Taking___init__) (defScope s_Taking___init__) .none kV_Taking___init__ dc_Taking___init__ pm_Taking___init__ an_Taking___init__ cd_Taking___init__ ct_Taking___init__), sl_Taking___init__⟩)
    (c1_Taking___init__ : PySem.W.codeIn K cd_Taking___init__ "Taking.__init__" = true)
    (k1_Taking___init__ : PySem.W.keepIn K (.ref a_Taking___init__) = true)
    (a1_can_be_done : PySem.W.nsIn K mainGlobals "can_be_done" = some (some (.ref a_can_be_done)))
    (l1_can_be_done : K.lookup a_can_be_done = some ⟨oc_can_be_done, od_can_be_done, .func (PySem.W.fnOf "can_be_done" "can_be_done" (defArgs s_can_be_done) (defBody s_can_be_done) (defScope s_can_be_done) .none kV_can_be_done dc_can_be_done pm_can_be_done an_can_be_done cd_can_be_done ct_can_be_done), sl_can_be_done⟩)
    (c1_can_be_done : PySem.W.codeIn K cd_can_be_done "can_be_done" = true)
    (k1_can_be_done : PySem.W.keepIn K (.ref a_can_be_done) = true)
    (a1_gone_on : PySem.W.nsIn K mainGlobals "gone_on" = some (some (.ref a_gone_on)))
    (l1_gone_on : K.lookup a_gone_on = some ⟨oc_gone_on, od_gone_on, .func (PySem.W.fnOf "gone_on" "gone_on" (defArgs s_gone_on) (defBody s_gone_on) (defScope s_gone_on) .none kV_gone_on dc_gone_on pm_gone_on an_gone_on cd_gone_on ct_gone_on), sl_gone_on⟩)
    (c1_gone_on : PySem.W.codeIn K cd_gone_on "gone_on" = true)
    (k1_gone_on : PySem.W.keepIn K (.ref a_gone_on) = true)
    (a1_Taking_takes_from : PySem.W.findIn K (.ref C_Taking) "takes_from" = some (some (.ref a_Taking_takes_from)))
    (i1_Taking_takes_from : PySem.W.isFn K (.ref a_Taking_takes_from) = true)
    (l1_Taking_takes_from : K.lookup a_Taking_takes_from = some ⟨oc_Taking_takes_from, od_Taking_takes_from, .func (PySem.W.fnOf "takes_from" "Taking.takes_from" (defArgs s_Taking_takes_from) (defBody s_Taking_takes_from) (defScope s_Taking_takes_from) .none kV_Taking_takes_from dc_Taking_takes_from pm_Taking_takes_from an_Taking_takes_from cd_Taking_takes_from ct_Taking_takes_from), sl_Taking_takes_from⟩)
    (c1_Taking_takes_from : PySem.W.codeIn K cd_Taking_takes_from "Taking.takes_from" = true)
    (k1_Taking_takes_from : PySem.W.keepIn K (.ref a_Taking_takes_from) = true)
    (a1_is_part : PySem.W.nsIn K mainGlobals "is_part" = some (some (.ref a_is_part)))
    (l1_is_part : K.lookup a_is_part = some ⟨oc_is_part, od_is_part, .func (PySem.W.fnOf "is_part" "is_part" (defArgs s_is_part) (defBody s_is_part) (defScope s_is_part) .none kV_is_part dc_is_part pm_is_part an_is_part cd_is_part ct_is_part), sl_is_part⟩)
    (c1_is_part : PySem.W.codeIn K cd_is_part "is_part" = true)
    (k1_is_part : PySem.W.keepIn K (.ref a_is_part) = true)
    (a1_greatest_ones : PySem.W.nsIn K mainGlobals "greatest_ones" = some (some (.ref a_greatest_ones)))
    (l1_greatest_ones : K.lookup a_greatest_ones = some ⟨oc_greatest_ones, od_greatest_ones, .func (PySem.W.fnOf "greatest_ones" "greatest_ones" (defArgs s_greatest_ones) (defBody s_greatest_ones) (defScope s_greatest_ones) .none kV_greatest_ones dc_greatest_ones pm_greatest_ones an_greatest_ones cd_greatest_ones ct_greatest_ones), sl_greatest_ones⟩)
    (c1_greatest_ones : PySem.W.codeIn K cd_greatest_ones "greatest_ones" = true)
    (k1_greatest_ones : PySem.W.keepIn K (.ref a_greatest_ones) = true)
    (a1_look_round : PySem.W.nsIn K mainGlobals "look_round" = some (some (.ref a_look_round)))
    (l1_look_round : K.lookup a_look_round = some ⟨oc_look_round, od_look_round, .func (PySem.W.fnOf "look_round" "look_round" (defArgs s_look_round) (defBody s_look_round) (defScope s_look_round) .none kV_look_round dc_look_round pm_look_round an_look_round cd_look_round ct_look_round), sl_look_round⟩)
    (c1_look_round : PySem.W.codeIn K cd_look_round "look_round" = true)
    (k1_look_round : PySem.W.keepIn K (.ref a_look_round) = true)
    (a1_bound_of : PySem.W.nsIn K mainGlobals "bound_of" = some (some (.ref a_bound_of)))
    (l1_bound_of : K.lookup a_bound_of = some ⟨oc_bound_of, od_bound_of, .func (PySem.W.fnOf "bound_of" "bound_of" (defArgs s_bound_of) (defBody s_bound_of) (defScope s_bound_of) .none kV_bound_of dc_bound_of pm_bound_of an_bound_of cd_bound_of ct_bound_of), sl_bound_of⟩)
    (c1_bound_of : PySem.W.codeIn K cd_bound_of "bound_of" = true)
    (k1_bound_of : PySem.W.keepIn K (.ref a_bound_of) = true)
    (a1_Taking_takes_behind : PySem.W.findIn K (.ref C_Taking) "takes_behind" = some (some (.ref a_Taking_takes_behind)))
    (i1_Taking_takes_behind : PySem.W.isFn K (.ref a_Taking_takes_behind) = true)
    (l1_Taking_takes_behind : K.lookup a_Taking_takes_behind = some ⟨oc_Taking_takes_behind, od_Taking_takes_behind, .func (PySem.W.fnOf "takes_behind" "Taking.takes_behind" (defArgs s_Taking_takes_behind) (defBody s_Taking_takes_behind) (defScope s_Taking_takes_behind) .none kV_Taking_takes_behind dc_Taking_takes_behind pm_Taking_takes_behind an_Taking_takes_behind cd_Taking_takes_behind ct_Taking_takes_behind), sl_Taking_takes_behind⟩)
    (c1_Taking_takes_behind : PySem.W.codeIn K cd_Taking_takes_behind "Taking.takes_behind" = true)
    (k1_Taking_takes_behind : PySem.W.keepIn K (.ref a_Taking_takes_behind) = true)
    (a1_Taking_next_job : PySem.W.findIn K (.ref C_Taking) "next_job" = some (some (.ref a_Taking_next_job)))
    (i1_Taking_next_job : PySem.W.isFn K (.ref a_Taking_next_job) = true)
    (l1_Taking_next_job : K.lookup a_Taking_next_job = some ⟨oc_Taking_next_job, od_Taking_next_job, .func (PySem.W.fnOf "next_job" "Taking.next_job" (defArgs s_Taking_next_job) (defBody s_Taking_next_job) (defScope s_Taking_next_job) .none kV_Taking_next_job dc_Taking_next_job pm_Taking_next_job an_Taking_next_job cd_Taking_next_job ct_Taking_next_job), sl_Taking_next_job⟩)
    (c1_Taking_next_job : PySem.W.codeIn K cd_Taking_next_job "Taking.next_job" = true)
    (k1_Taking_next_job : PySem.W.keepIn K (.ref a_Taking_next_job) = true)
    (a1_first_order : PySem.W.nsIn K mainGlobals "first_order" = some (some (.ref a_first_order)))
    (l1_first_order : K.lookup a_first_order = some ⟨oc_first_order, od_first_order, .func (PySem.W.fnOf "first_order" "first_order" (defArgs s_first_order) (defBody s_first_order) (defScope s_first_order) .none kV_first_order dc_first_order pm_first_order an_first_order cd_first_order ct_first_order), sl_first_order⟩)
    (c1_first_order : PySem.W.codeIn K cd_first_order "first_order" = true)
    (k1_first_order : PySem.W.keepIn K (.ref a_first_order) = true)
    (a1_least_takes : PySem.W.nsIn K mainGlobals "least_takes" = some (some (.ref a_least_takes)))
    (l1_least_takes : K.lookup a_least_takes = some ⟨oc_least_takes, od_least_takes, .func (PySem.W.fnOf "least_takes" "least_takes" (defArgs s_least_takes) (defBody s_least_takes) (defScope s_least_takes) .none kV_least_takes dc_least_takes pm_least_takes an_least_takes cd_least_takes ct_least_takes), sl_least_takes⟩)
    (c1_least_takes : PySem.W.codeIn K cd_least_takes "least_takes" = true)
    (k1_least_takes : PySem.W.keepIn K (.ref a_least_takes) = true)
    (a1__law_refused : PySem.W.nsIn K mainGlobals "_law_refused" = some (some (.ref a__law_refused)))
    (l1__law_refused : K.lookup a__law_refused = some ⟨oc__law_refused, od__law_refused, .func (PySem.W.fnOf "_law_refused" "_law_refused" (defArgs s__law_refused) (defBody s__law_refused) (defScope s__law_refused) .none kV__law_refused dc__law_refused pm__law_refused an__law_refused cd__law_refused ct__law_refused), sl__law_refused⟩)
    (c1__law_refused : PySem.W.codeIn K cd__law_refused "_law_refused" = true)
    (k1__law_refused : PySem.W.keepIn K (.ref a__law_refused) = true)
    (a1_law : PySem.W.nsIn K mainGlobals "law" = some (some (.ref a_law)))
    (l1_law : K.lookup a_law = some ⟨oc_law, od_law, .func (PySem.W.fnOf "law" "law" (defArgs s_law) (defBody s_law) (defScope s_law) .none kV_law dc_law pm_law an_law cd_law ct_law), sl_law⟩)
    (c1_law : PySem.W.codeIn K cd_law "law" = true)
    (k1_law : PySem.W.keepIn K (.ref a_law) = true)
    (ax_Round : PySem.W.nsIn K mainGlobals "Round" = some (some (.ref X_Round)))
    (ax_MillError : PySem.W.nsIn K mainGlobals "MillError" = some (some (.ref X_MillError)))
    (ax_NoTool : PySem.W.nsIn K mainGlobals "NoTool" = some (some (.ref X_NoTool)))
    (ax_NoWay : PySem.W.nsIn K mainGlobals "NoWay" = some (some (.ref X_NoWay)))
    (ax_Meets : PySem.W.nsIn K mainGlobals "Meets" = some (some (.ref X_Meets)))
    (ax_Bites : PySem.W.nsIn K mainGlobals "Bites" = some (some (.ref X_Bites)))
    (ax_Cuts : PySem.W.nsIn K mainGlobals "Cuts" = some (some (.ref X_Cuts)))
    (ax_BadRow : PySem.W.nsIn K mainGlobals "BadRow" = some (some (.ref X_BadRow)))
    (kx : PySem.W.keepIn K (.ref X_Round) = true)
    (nx : PySem.W.excIn K X_Round [.type "ValueError", .type "Exception", .type "BaseException", .type "object"] "ValueError.__new__" = true)
    (bx : PySem.W.subIn K (.ref X_Round) (.type "BaseException") = some true)
    (tx : PySem.W.typeIn K (.ref X_Round) = some (.type "type"))
    (bm : PySem.W.subIn K (.ref X_MillError) (.type "BaseException") = some true)
    (dm : PySem.W.hasDictIn K X_MillError = true)
    (tm : PySem.W.typeIn K (.ref X_MillError) = some (.type "type"))
    (sm : PySem.W.subIn K (.ref X_Round) (.ref X_MillError) = some true)
    (e_hg : PySem.W.findIn K (.ref X_Round) "__getattribute__" = some (some (.builtin "BaseException.__getattribute__")))
    (e_hk : PySem.W.findIn K (.ref X_Round) "__getattr__" = some none)
    (e_hs : PySem.W.subIn K (.ref X_Round) (.type "BaseException") = some true)
    (e_hd : PySem.W.hasDictIn K X_Round = true)
    (e_ha : PySem.W.findIn K (.ref X_Round) "__class__" = some (some (.builtin "object.__class__")))
    (e_hn : PySem.W.specialIn K (.builtin "object.__class__") "__get__" = some (some (.builtin "getset_descriptor.__get__")))
    (e_ht : PySem.W.takesIn K (.builtin "object.__class__") = some true)
    (e_hm : PySem.W.mroIn K X_Round (.type "object") = some true)
    (k_NoTool : PySem.W.kitOne K (.ref X_Round) (.ref X_NoTool) = some false)
    (k_NoWay : PySem.W.kitOne K (.ref X_Round) (.ref X_NoWay) = some false)
    (k_Meets : PySem.W.kitOne K (.ref X_Round) (.ref X_Meets) = some false)
    (k_Bites : PySem.W.kitOne K (.ref X_Round) (.ref X_Bites) = some false)
    (k_Cuts : PySem.W.kitOne K (.ref X_Round) (.ref X_Cuts) = some false)
    (k_BadRow : PySem.W.kitOne K (.ref X_Round) (.ref X_BadRow) = some false)
    (k_Round : PySem.W.kitOne K (.ref X_Round) (.ref X_Round) = some true)
    (k_VE : PySem.W.kitOne K (.ref X_Round) (.type "ValueError") = some true)
    (y_ValueError : PySem.W.nsIn K mainGlobals "ValueError" = some none)
    (y_all : PySem.W.nsIn K mainGlobals "all" = some none)
    (y_any : PySem.W.nsIn K mainGlobals "any" = some none)
    (y_divmod : PySem.W.nsIn K mainGlobals "divmod" = some none)
    (y_enumerate : PySem.W.nsIn K mainGlobals "enumerate" = some none)
    (y_int : PySem.W.nsIn K mainGlobals "int" = some none)
    (y_isinstance : PySem.W.nsIn K mainGlobals "isinstance" = some none)
    (y_len : PySem.W.nsIn K mainGlobals "len" = some none)
    (y_list : PySem.W.nsIn K mainGlobals "list" = some none)
    (y_min : PySem.W.nsIn K mainGlobals "min" = some none)
    (y_range : PySem.W.nsIn K mainGlobals "range" = some none)
    (y_set : PySem.W.nsIn K mainGlobals "set" = some none)
    (y_sorted : PySem.W.nsIn K mainGlobals "sorted" = some none)
    (y_tuple : PySem.W.nsIn K mainGlobals "tuple" = some none) :
    ∃ fd : FuncData, (∀ (s : Shared) (v : Value), BindsTo s fd ⟨[v], []⟩ [("_law_script", v)]) ∧ ∀ base : Heap, K.In base → base.Ns mainGlobals mg → FnOk l.prog w K mg base CX0 20 fa fd ["_law_script"] (SpL K m_law) := by
  have e := hfa.symm.trans (PySem.W.mg_of X G a1_law)
  cases e
  have z_ValueError := PySem.W.mg_none_of X G y_ValueError
  have z_all := PySem.W.mg_none_of X G y_all
  have z_any := PySem.W.mg_none_of X G y_any
  have z_divmod := PySem.W.mg_none_of X G y_divmod
  have z_enumerate := PySem.W.mg_none_of X G y_enumerate
  have z_int := PySem.W.mg_none_of X G y_int
  have z_isinstance := PySem.W.mg_none_of X G y_isinstance
  have z_len := PySem.W.mg_none_of X G y_len
  have z_list := PySem.W.mg_none_of X G y_list
  have z_min := PySem.W.mg_none_of X G y_min
  have z_range := PySem.W.mg_none_of X G y_range
  have z_set := PySem.W.mg_none_of X G y_set
  have z_sorted := PySem.W.mg_none_of X G y_sorted
  have z_tuple := PySem.W.mg_none_of X G y_tuple
  have T_Taking : Cls K C_Taking := ⟨pg_Taking, hd_Taking, po_Taking, sa_Taking⟩
  have H_Taking : ((fun x => if x = "Taking" then some C_Taking else none) : Str → Option Addr) "Taking" = some C_Taking := by simp
  have E_Round : ExcT K mg "Round" X_Round := ⟨PySem.W.mg_of X G ax_Round, kx, nx, bx, tx⟩
  have M_MillError := PySem.W.mg_of X G ax_MillError
  have XM_Round_MillError := PySem.W.exm_ref bm dm tm sm
  have C_E : ExcC K X_Round := ⟨e_hg, e_hk, e_hs, e_hd, e_ha, e_hn, e_ht, e_hm⟩
  have n_NoTool := PySem.W.mg_of X G ax_NoTool
  have n_NoWay := PySem.W.mg_of X G ax_NoWay
  have n_Meets := PySem.W.mg_of X G ax_Meets
  have n_Bites := PySem.W.mg_of X G ax_Bites
  have n_Cuts := PySem.W.mg_of X G ax_Cuts
  have n_BadRow := PySem.W.mg_of X G ax_BadRow
  have n_Round := PySem.W.mg_of X G ax_Round
  have T_Taking_jobs : ClsD K (fun x => if x = "Taking" then some C_Taking else none) "Taking" "jobs" := fun C h => by
    rw [H_Taking] at h
    cases h
    exact ⟨T_Taking, nf_Taking_jobs⟩
  have T_Taking_known : ClsD K (fun x => if x = "Taking" then some C_Taking else none) "Taking" "known" := fun C h => by
    rw [H_Taking] at h
    cases h
    exact ⟨T_Taking, nf_Taking_known⟩
  have T_Taking_tools : ClsD K (fun x => if x = "Taking" then some C_Taking else none) "Taking" "tools" := fun C h => by
    rw [H_Taking] at h
    cases h
    exact ⟨T_Taking, nf_Taking_tools⟩
  refine ⟨PySem.W.fnOf "law" "law" (defArgs s_law) (defBody s_law) (defScope s_law) .none kV_law dc_law pm_law an_law cd_law ct_law, fun s v => .of_eq rfl, fun base _ _ => ?_⟩
  have F__law_begin := fun_mk (st := s__law_begin) l1__law_begin c1__law_begin k1__law_begin
  have G__law_begin := Callee.mk' F__law_begin (ok__law_begin (Pg := l.prog) (w := w) (mg := mg) (base := base) (cl := (fun x => if x = "Taking" then some C_Taking else none)) F__law_begin z_list) (PySem.W.mg_of X G a1__law_begin) (fun _ _ _ _ _ _ us hl => match us, hl with | [_], _ => rfl)
  have F__law_take := fun_mk (st := s__law_take) l1__law_take c1__law_take k1__law_take
  have G__law_take := Callee.mk' F__law_take (ok__law_take (Pg := l.prog) (w := w) (mg := mg) (base := base) (cl := (fun x => if x = "Taking" then some C_Taking else none)) F__law_take z_divmod z_len) (PySem.W.mg_of X G a1__law_take) (fun _ _ _ _ _ _ us hl => match us, hl with | [_, _], _ => rfl)
  have F__law_jobs := fun_mk (st := s__law_jobs) l1__law_jobs c1__law_jobs k1__law_jobs
  have G__law_jobs := Callee.mk' F__law_jobs (ok__law_jobs (Pg := l.prog) (w := w) (mg := mg) (base := base) (cl := (fun x => if x = "Taking" then some C_Taking else none)) F__law_jobs z_enumerate z_len z_list z_range G__law_take) (PySem.W.mg_of X G a1__law_jobs) (fun _ _ _ _ _ _ us hl => match us, hl with | [_, _, _], _ => rfl)
  have F__law_word := fun_mk (st := s__law_word) l1__law_word c1__law_word k1__law_word
  have G__law_word : CalleeE l.prog w K mg base 1 "_law_word" "_law_error" X_Round "round" := ⟨a__law_word, _, ok__law_word (Pg := l.prog) (w := w) (mg := mg) (base := base) (cl := (fun x => if x = "Taking" then some C_Taking else none)) F__law_word z_ValueError z_isinstance C_E n_Round n_NoTool k_NoTool n_NoWay k_NoWay n_Meets k_Meets n_Bites k_Bites n_Cuts k_Cuts n_BadRow k_BadRow k_Round k_VE, PySem.W.mg_of X G a1__law_word, F__law_word.kp, F__law_word.binds (fun _ _ _ _ _ _ us hl => match us, hl with | [_], _ => rfl)⟩
  have F_tools_of := fun_mk (st := s_tools_of) l1_tools_of c1_tools_of k1_tools_of
  have G_tools_of := Callee.mk' F_tools_of (ok_tools_of (Pg := l.prog) (w := w) (mg := mg) (base := base) (cl := (fun x => if x = "Taking" then some C_Taking else none)) F_tools_of z_set z_sorted) (PySem.W.mg_of X G a1_tools_of) (fun _ _ _ _ _ _ us hl => match us, hl with | [_], _ => rfl)
  have F_Taking___init__ := fun_mk (st := s_Taking___init__) l1_Taking___init__ c1_Taking___init__ k1_Taking___init__
  have G_Taking___init__ : CalleeC l.prog w K mg base (fun x => if x = "Taking" then some C_Taking else none) 2 "Taking" ["self", "jobs"] (SpF K (fun x => if x = "Taking" then some C_Taking else none) 2 (m_Taking___init__)) := ⟨C_Taking, a_Taking___init__, _, H_Taking, PySem.W.mg_of X G aC_Taking, ⟨mk_Taking, a1_Taking___init__, i1_Taking___init__, kc_Taking⟩, (ok_Taking___init__ (Pg := l.prog) (w := w) (mg := mg) (base := base) (cl := (fun x => if x = "Taking" then some C_Taking else none)) F_Taking___init__ G_tools_of T_Taking_jobs T_Taking_known T_Taking_tools), F_Taking___init__.binds (fun _ _ _ _ _ _ us hl => match us, hl with | [_, _], _ => rfl)⟩
  have F_can_be_done := fun_mk (st := s_can_be_done) l1_can_be_done c1_can_be_done k1_can_be_done
  have G_can_be_done := Callee.mk' F_can_be_done (ok_can_be_done (Pg := l.prog) (w := w) (mg := mg) (base := base) (cl := (fun x => if x = "Taking" then some C_Taking else none)) F_can_be_done z_all) (PySem.W.mg_of X G a1_can_be_done) (fun _ _ _ _ _ _ us hl => match us, hl with | [_, _, _], _ => rfl)
  have F_gone_on := fun_mk (st := s_gone_on) l1_gone_on c1_gone_on k1_gone_on
  have G_gone_on := Callee.mk' F_gone_on (ok_gone_on (Pg := l.prog) (w := w) (mg := mg) (base := base) (cl := (fun x => if x = "Taking" then some C_Taking else none)) F_gone_on z_enumerate z_list z_sorted z_tuple G_can_be_done) (PySem.W.mg_of X G a1_gone_on) (fun _ _ _ _ _ _ us hl => match us, hl with | [_, _, _], _ => rfl)
  have F_Taking_takes_from := fun_mk (st := s_Taking_takes_from) l1_Taking_takes_from c1_Taking_takes_from k1_Taking_takes_from
  have G_Taking_takes_from : CalleeM l.prog w K mg base (fun x => if x = "Taking" then some C_Taking else none) 14 "Taking" "takes_from" ["self", "done"] (SpF K (fun x => if x = "Taking" then some C_Taking else none) 2 (m_Taking_takes_from 12)) := ⟨C_Taking, a_Taking_takes_from, _, H_Taking, T_Taking, ⟨a1_Taking_takes_from, i1_Taking_takes_from, k1_Taking_takes_from⟩, (ok_Taking_takes_from (Pg := l.prog) (w := w) (mg := mg) (base := base) (cl := (fun x => if x = "Taking" then some C_Taking else none)) F_Taking_takes_from ⟨C_Taking, H_Taking, T_Taking, ⟨a1_Taking_takes_from, i1_Taking_takes_from, k1_Taking_takes_from⟩⟩ z_len z_min G_gone_on T_Taking_jobs T_Taking_known T_Taking_tools 12), F_Taking_takes_from.binds (fun _ _ _ _ _ _ us hl => match us, hl with | [_, _], _ => rfl)⟩
  have F_is_part := fun_mk (st := s_is_part) l1_is_part c1_is_part k1_is_part
  have G_is_part := Callee.mk' F_is_part (ok_is_part (Pg := l.prog) (w := w) (mg := mg) (base := base) (cl := (fun x => if x = "Taking" then some C_Taking else none)) F_is_part z_all) (PySem.W.mg_of X G a1_is_part) (fun _ _ _ _ _ _ us hl => match us, hl with | [_, _], _ => rfl)
  have F_greatest_ones := fun_mk (st := s_greatest_ones) l1_greatest_ones c1_greatest_ones k1_greatest_ones
  have G_greatest_ones := Callee.mk' F_greatest_ones (ok_greatest_ones (Pg := l.prog) (w := w) (mg := mg) (base := base) (cl := (fun x => if x = "Taking" then some C_Taking else none)) F_greatest_ones z_any z_set z_sorted G_is_part) (PySem.W.mg_of X G a1_greatest_ones) (fun _ _ _ _ _ _ us hl => match us, hl with | [_], _ => rfl)
  have F_look_round := fun_mk (st := s_look_round) l1_look_round c1_look_round k1_look_round
  have G_look_round : CalleeY l.prog w K mg base 2 "look_round" ["jobs"] (SpY K (fun x => if x = "Taking" then some C_Taking else none) 1 m_look_round_y (.ref X_Round)) := ⟨a_look_round, _, ok_look_round (Pg := l.prog) (w := w) (mg := mg) (base := base) (cl := (fun x => if x = "Taking" then some C_Taking else none)) F_look_round z_len z_range E_Round G_can_be_done, PySem.W.mg_of X G a1_look_round, F_look_round.kp, F_look_round.binds (fun _ _ _ _ _ _ us hl => match us, hl with | [_], _ => rfl)⟩
  have F_bound_of := fun_mk (st := s_bound_of) l1_bound_of c1_bound_of k1_bound_of
  have G_bound_of : CalleeY l.prog w K mg base 15 "bound_of" ["jobs"] (SpY K (fun x => if x = "Taking" then some C_Taking else none) 1 m_bound_of_y (.ref X_Round)) := ⟨a_bound_of, _, ok_bound_of (Pg := l.prog) (w := w) (mg := mg) (base := base) (cl := (fun x => if x = "Taking" then some C_Taking else none)) F_bound_of z_range G_Taking___init__ G_Taking_takes_from G_gone_on G_greatest_ones G_look_round G_tools_of, PySem.W.mg_of X G a1_bound_of, F_bound_of.kp, F_bound_of.binds (fun _ _ _ _ _ _ us hl => match us, hl with | [_], _ => rfl)⟩
  have F_Taking_takes_behind := fun_mk (st := s_Taking_takes_behind) l1_Taking_takes_behind c1_Taking_takes_behind k1_Taking_takes_behind
  have G_Taking_takes_behind : CalleeM l.prog w K mg base (fun x => if x = "Taking" then some C_Taking else none) 15 "Taking" "takes_behind" ["self", "done", "number"] (SpF K (fun x => if x = "Taking" then some C_Taking else none) 3 (m_Taking_takes_behind)) := ⟨C_Taking, a_Taking_takes_behind, _, H_Taking, T_Taking, ⟨a1_Taking_takes_behind, i1_Taking_takes_behind, k1_Taking_takes_behind⟩, (ok_Taking_takes_behind (Pg := l.prog) (w := w) (mg := mg) (base := base) (cl := (fun x => if x = "Taking" then some C_Taking else none)) F_Taking_takes_behind G_Taking_takes_from G_gone_on T_Taking_jobs), F_Taking_takes_behind.binds (fun _ _ _ _ _ _ us hl => match us, hl with | [_, _, _], _ => rfl)⟩
  have F_Taking_next_job := fun_mk (st := s_Taking_next_job) l1_Taking_next_job c1_Taking_next_job k1_Taking_next_job
  have G_Taking_next_job : CalleeM l.prog w K mg base (fun x => if x = "Taking" then some C_Taking else none) 16 "Taking" "next_job" ["self", "done", "tool", "left"] (SpF K (fun x => if x = "Taking" then some C_Taking else none) 4 (m_Taking_next_job)) := ⟨C_Taking, a_Taking_next_job, _, H_Taking, T_Taking, ⟨a1_Taking_next_job, i1_Taking_next_job, k1_Taking_next_job⟩, (ok_Taking_next_job (Pg := l.prog) (w := w) (mg := mg) (base := base) (cl := (fun x => if x = "Taking" then some C_Taking else none)) F_Taking_next_job z_enumerate z_int G_Taking_takes_behind G_can_be_done T_Taking_jobs), F_Taking_next_job.binds (fun _ _ _ _ _ _ us hl => match us, hl with | [_, _, _, _], _ => rfl)⟩
  have F_first_order := fun_mk (st := s_first_order) l1_first_order c1_first_order k1_first_order
  have G_first_order := Callee.mk' F_first_order (ok_first_order (Pg := l.prog) (w := w) (mg := mg) (base := base) (cl := (fun x => if x = "Taking" then some C_Taking else none)) F_first_order z_len G_Taking_next_job T_Taking_jobs) (PySem.W.mg_of X G a1_first_order) (fun _ _ _ _ _ _ us hl => match us, hl with | [_, _], _ => rfl)
  have F_least_takes := fun_mk (st := s_least_takes) l1_least_takes c1_least_takes k1_least_takes
  have G_least_takes : CalleeY l.prog w K mg base 18 "least_takes" ["jobs"] (SpY K (fun x => if x = "Taking" then some C_Taking else none) 1 m_least_takes_y (.ref X_Round)) := ⟨a_least_takes, _, ok_least_takes (Pg := l.prog) (w := w) (mg := mg) (base := base) (cl := (fun x => if x = "Taking" then some C_Taking else none)) F_least_takes G_Taking___init__ G_Taking_takes_from G_first_order G_look_round, PySem.W.mg_of X G a1_least_takes, F_least_takes.kp, F_least_takes.binds (fun _ _ _ _ _ _ us hl => match us, hl with | [_], _ => rfl)⟩
  have F__law_refused := fun_mk (st := s__law_refused) l1__law_refused c1__law_refused k1__law_refused
  have G__law_refused := Callee.mk' F__law_refused (ok__law_refused (Pg := l.prog) (w := w) (mg := mg) (base := base) (cl := (fun x => if x = "Taking" then some C_Taking else none)) F__law_refused E_Round M_MillError XM_Round_MillError G__law_word G_bound_of G_least_takes) (PySem.W.mg_of X G a1__law_refused) (fun _ _ _ _ _ _ us hl => match us, hl with | [_, _], _ => rfl)
  have F_law := fun_mk (st := s_law) l1_law c1_law k1_law
  exact fn_law (ok_law (Pg := l.prog) (w := w) (mg := mg) (base := base) (cl := (fun x => if x = "Taking" then some C_Taking else none)) F_law z_enumerate z_len z_list z_range G__law_begin G__law_jobs G__law_refused G__law_take)
end K60
open PySem PySem.W PyProof.Rows
theorem PySem.Challenge.cw_millpath_k60_needs_in_a_ring_holds : PySem.Challenge.rw_millpath_k60_needs_in_a_ring.Holds := by
  w_on; o_law; k_head; (case hw => w_witness2)
  k_fill
  refine L2.walk_of (l := PySem.Challenge.rw_millpath_k60_needs_in_a_ring) (n := 63) (k := 20) (x := "_law_script") (CX := fun _ => L2.CX0) (sp := fun w => DL.SpL _ K60.m_law) rfl (by decide) rfl ⟨rfl, by decide, by decide⟩ (fun w h Y => PySem.W.kIn_of Y) ?F (fun _ _ a ns hl hO hS => DL.sp_lawL K60.law_ok hl hO hS) (fun _ _ _ _ _ h => h)
  case F =>
    intro w mg fa h KX G hmg
    refine' K60.all_mk KX G hmg ?aC_Taking ?pg_Taking ?hd_Taking ?po_Taking ?sa_Taking ?mk_Taking ?kc_Taking ?nf_Taking_jobs ?nf_Taking_known ?nf_Taking_tools ?a1__law_begin ?l1__law_begin ?c1__law_begin ?k1__law_begin ?a1__law_take ?l1__law_take ?c1__law_take ?k1__law_take ?a1__law_jobs ?l1__law_jobs ?c1__law_jobs ?k1__law_jobs ?a1__law_word ?l1__law_word ?c1__law_word ?k1__law_word ?a1_tools_of ?l1_tools_of ?c1_tools_of ?k1_tools_of ?a1_Taking___init__ ?i1_Taking___init__ ?l1_Taking___init__ ?c1_Taking___init__ ?k1_Taking___init__ ?a1_can_be_done ?l1_can_be_done ?c1_can_be_done ?k1_can_be_done ?a1_gone_on ?l1_gone_on ?c1_gone_on ?k1_gone_on ?a1_Taking_takes_from ?i1_Taking_takes_from ?l1_Taking_takes_from ?c1_Taking_takes_from ?k1_Taking_takes_from ?a1_is_part ?l1_is_part ?c1_is_part ?k1_is_part ?a1_greatest_ones ?l1_greatest_ones ?c1_greatest_ones ?k1_greatest_ones ?a1_look_round ?l1_look_round ?c1_look_round ?k1_look_round ?a1_bound_of ?l1_bound_of ?c1_bound_of ?k1_bound_of ?a1_Taking_takes_behind ?i1_Taking_takes_behind ?l1_Taking_takes_behind ?c1_Taking_takes_behind ?k1_Taking_takes_behind ?a1_Taking_next_job ?i1_Taking_next_job ?l1_Taking_next_job ?c1_Taking_next_job ?k1_Taking_next_job ?a1_first_order ?l1_first_order ?c1_first_order ?k1_first_order ?a1_least_takes ?l1_least_takes ?c1_least_takes ?k1_least_takes ?a1__law_refused ?l1__law_refused ?c1__law_refused ?k1__law_refused ?a1_law ?l1_law ?c1_law ?k1_law ?ax_Round ?ax_MillError ?ax_NoTool ?ax_NoWay ?ax_Meets ?ax_Bites ?ax_Cuts ?ax_BadRow ?kx ?nx ?bx ?tx ?bm ?dm ?tm ?sm ?e_hg ?e_hk ?e_hs ?e_hd ?e_ha ?e_hn ?e_ht ?e_hm ?k_NoTool ?k_NoWay ?k_Meets ?k_Bites ?k_Cuts ?k_BadRow ?k_Round ?k_VE ?y_ValueError ?y_all ?y_any ?y_divmod ?y_enumerate ?y_int ?y_isinstance ?y_len ?y_list ?y_min ?y_range ?y_set ?y_sorted ?y_tuple
    (case aC_Taking => k_is); (case pg_Taking => k_is); (case hd_Taking => k_is); (case po_Taking => k_is); (case sa_Taking => k_is); (case mk_Taking => k_is); (case kc_Taking => k_is); (case nf_Taking_jobs => k_is); (case nf_Taking_known => k_is); (case nf_Taking_tools => k_is); (case a1__law_begin => k_is); (case l1__law_begin => k_is); (case c1__law_begin => k_is); (case k1__law_begin => k_is); (case a1__law_take => k_is); (case l1__law_take => k_is); (case c1__law_take => k_is); (case k1__law_take => k_is); (case a1__law_jobs => k_is); (case l1__law_jobs => k_is); (case c1__law_jobs => k_is); (case k1__law_jobs => k_is); (case a1__law_word => k_is); (case l1__law_word => k_is); (case c1__law_word => k_is); (case k1__law_word => k_is); (case a1_tools_of => k_is); (case l1_tools_of => k_is); (case c1_tools_of => k_is); (case k1_tools_of => k_is); (case a1_Taking___init__ => k_is); (case i1_Taking___init__ => k_is); (case l1_Taking___init__ => k_is); (case c1_Taking___init__ => k_is); (case k1_Taking___init__ => k_is); (case a1_can_be_done => k_is); (case l1_can_be_done => k_is); (case c1_can_be_done => k_is); (case k1_can_be_done => k_is); (case a1_gone_on => k_is); (case l1_gone_on => k_is); (case c1_gone_on => k_is); (case k1_gone_on => k_is); (case a1_Taking_takes_from => k_is); (case i1_Taking_takes_from => k_is); (case l1_Taking_takes_from => k_is); (case c1_Taking_takes_from => k_is); (case k1_Taking_takes_from => k_is); (case a1_is_part => k_is); (case l1_is_part => k_is); (case c1_is_part => k_is); (case k1_is_part => k_is); (case a1_greatest_ones => k_is); (case l1_greatest_ones => k_is); (case c1_greatest_ones => k_is); (case k1_greatest_ones => k_is); (case a1_look_round => k_is); (case l1_look_round => k_is); (case c1_look_round => k_is); (case k1_look_round => k_is); (case a1_bound_of => k_is); (case l1_bound_of => k_is); (case c1_bound_of => k_is); (case k1_bound_of => k_is); (case a1_Taking_takes_behind => k_is); (case i1_Taking_takes_behind => k_is); (case l1_Taking_takes_behind => k_is); (case c1_Taking_takes_behind => k_is); (case k1_Taking_takes_behind => k_is); (case a1_Taking_next_job => k_is); (case i1_Taking_next_job => k_is); (case l1_Taking_next_job => k_is); (case c1_Taking_next_job => k_is); (case k1_Taking_next_job => k_is); (case a1_first_order => k_is); (case l1_first_order => k_is); (case c1_first_order => k_is); (case k1_first_order => k_is); (case a1_least_takes => k_is); (case l1_least_takes => k_is); (case c1_least_takes => k_is); (case k1_least_takes => k_is); (case a1__law_refused => k_is); (case l1__law_refused => k_is); (case c1__law_refused => k_is); (case k1__law_refused => k_is); (case a1_law => k_is); (case l1_law => k_is); (case c1_law => k_is); (case k1_law => k_is); (case ax_Round => k_is); (case ax_MillError => k_is); (case ax_NoTool => k_is); (case ax_NoWay => k_is); (case ax_Meets => k_is); (case ax_Bites => k_is); (case ax_Cuts => k_is); (case ax_BadRow => k_is); (case kx => k_is); (case nx => k_exc); (case bx => k_is); (case tx => k_is); (case bm => k_is); (case dm => k_is); (case tm => k_is); (case sm => k_is); (case e_hg => k_is); (case e_hk => k_is); (case e_hs => k_is); (case e_hd => k_is); (case e_ha => k_is); (case e_hn => k_is); (case e_ht => k_is); (case e_hm => k_is); (case k_NoTool => first | k_is | kit_is); (case k_NoWay => first | k_is | kit_is); (case k_Meets => first | k_is | kit_is); (case k_Bites => first | k_is | kit_is); (case k_Cuts => first | k_is | kit_is); (case k_BadRow => first | k_is | kit_is); (case k_Round => first | k_is | kit_is); (case k_VE => first | k_is | kit_is); (case y_ValueError => k_is); (case y_all => k_is); (case y_any => k_is); (case y_divmod => k_is); (case y_enumerate => k_is); (case y_int => k_is); (case y_isinstance => k_is); (case y_len => k_is); (case y_list => k_is); (case y_min => k_is); (case y_range => k_is); (case y_set => k_is); (case y_sorted => k_is); (case y_tuple => k_is)
