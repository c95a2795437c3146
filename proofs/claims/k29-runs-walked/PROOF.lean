import PyProof.Rows.All
import Wide.All
import OpenK.AllK
import Wide.FinOn
import HandS.ForDict
import HandS.ForMost
import HandS.Deep
import HandS.IsInst
import HandS.Flow
import HandS.NoneIn
import HandS.Zip
import HandS.Rev
import HandS.Ends
import HandS.Strs
import HandS.Flt
import HandS.Style
import HandS.TupAny
import HandS.TupMul
import HandS.RevTup
import KE.DatumOrd
import PyProof.ReprRoads
import PyProof.ReprLen
import HandS.More
import KE.SortData
import KE.GoesZip
import KE.GoesMore
import KE.GoesEnum
import HandS.Conv
import HandS.TupLen
import HandS.WordsDict
import HandS.Iter
import KE.KDictPairs
import KE.KEqDict
import HandS.DictTup
import PySem.Challenge.RW_millpath_k29_runs_walked
set_option Elab.async false
set_option linter.all false
set_option maxRecDepth 100000
set_option maxHeartbeats 4000000
/-! DL0: data as plain trees beside the abstract heap: what a value stands for, the local state of a def, its relation to the heap. -/
namespace DL
open PySem PySem.Spec PyProof.Rows L2
abbrev P := PyData

/-! ### what a value stands for -/
def keyP : Key → P
  | .inl i => .int i
  | .inr x => .str x
theorem keyP_inj : ∀ {a b : Key}, keyP a = keyP b → a = b
  | .inl _, .inl _, e => by injection e with e; rw [e]
  | .inr _, .inr _, e => by injection e with e; rw [e]
  | .inl _, .inr _, e => nomatch e
  | .inr _, .inl _, e => nomatch e
def qK (kvs : List (Key × V)) : List (P × V) := kvs.map fun p => (keyP p.1, p.2)
def qT (kvs : List (List Key × V)) : List (P × V) := kvs.map fun p => (.tuple (p.1.map keyP), p.2)
def FzL (H : Hp) (a : Addr) (vs : List V) : Prop := ∃ o, H a = some (.frz o (.lst vs))
def FzD (H : Hp) (a : Addr) (qs : List (P × V)) : Prop := (∃ o kvs, H a = some (.frz o (.dK kvs)) ∧ qs = qK kvs) ∨ (∃ o kvs, H a = some (.frz o (.dT kvs)) ∧ qs = qT kvs)
def RawD (H : Hp) (a : Addr) (qs : List (P × V)) : Prop := (∃ kvs, H a = some (.dK kvs) ∧ qs = qK kvs) ∨ (∃ kvs, H a = some (.dT kvs) ∧ qs = qT kvs)

mutual
/-- data that no one changes: frozen lists and dicts, tuples -/
inductive Rep (H : Hp) : V → P → Prop
  | non : Rep H .non .none
  | bl (b : Bool) : Rep H (.bl b) (.bool b)
  | int (i : Int) : Rep H (.int i) (.int i)
  | str (x : Str) : Rep H (.str x) (.str x)
  | lst {a : Addr} {vs : List V} {xs : List P} : FzL H a vs → RepL H vs xs → Rep H (.ref a) (.list xs)
  | tup {a : Addr} {vs : List V} {xs : List P} : H a = some (.tup vs) → RepL H vs xs → Rep H (.ref a) (.tuple xs)
  | dct {a : Addr} {qs : List (P × V)} {vs : List V} {xs : List P} {ps : List (P × P)} : FzD H a qs → qs.map (·.2) = vs → ps.map (·.2) = xs → RepL H vs xs → qs.map (·.1) = ps.map (·.1) → Rep H (.ref a) (.dict ps)
inductive RepL (H : Hp) : List V → List P → Prop
  | nil : RepL H [] []
  | cons {v : V} {vs : List V} {p : P} {ps : List P} : Rep H v p → RepL H vs ps → RepL H (v :: vs) (p :: ps)
end
mutual
/-- data that the text's top has written -/
inductive RepW (K : PySem.W.Frag) : V → P → Prop
  | non : RepW K .non .none
  | bl (b : Bool) : RepW K (.bl b) (.bool b)
  | int (i : Int) : RepW K (.int i) (.int i)
  | str (x : Str) : RepW K (.str x) (.str x)
  | lst {a : Addr} {vs : List V} {xs : List P} {o : Obj} {its : Array Value} {n : Nat} : K.lookup a = some o → o.cls = .type "list" → o.dict = none → o.data = .seq its n → its.size ≤ sizeLine → Vals vs its.toList → RepWL K vs xs → RepW K (.ref a) (.list xs)
  | tup {a : Addr} {vs : List V} {xs : List P} {o : Obj} {its : Array Value} {n : Nat} : K.lookup a = some o → o.cls = .type "tuple" → o.dict = none → o.data = .seq its n → its.size ≤ sizeLine → Vals vs its.toList → RepWL K vs xs → RepW K (.ref a) (.tuple xs)
inductive RepWL (K : PySem.W.Frag) : List V → List P → Prop
  | nil : RepWL K [] []
  | cons {v : V} {vs : List V} {p : P} {ps : List P} : RepW K v p → RepWL K vs ps → RepWL K (v :: vs) (p :: ps)
end

/-- tuples and frozen things stay -/
structure Ext0 (H H' : Hp) : Prop where
  tups : ∀ b xs, H b = some (.tup xs) → H' b = some (.tup xs)
  frzs : ∀ b o u, H b = some (.frz o u) → H' b = some (.frz o u)
theorem Ext0.refl (H : Hp) : Ext0 H H := ⟨fun _ _ h => h, fun _ _ _ h => h⟩
theorem Ext0.trans {H H1 H2 : Hp} (a : Ext0 H H1) (b : Ext0 H1 H2) : Ext0 H H2 := ⟨fun c xs h => b.tups c xs (a.tups c xs h), fun c o u h => b.frzs c o u (a.frzs c o u h)⟩
theorem Ext0.of {H H' : Hp} (a : Same H H') : Ext0 H H' := ⟨fun b _ h => a b _ h, fun b _ _ h => a b _ h⟩
theorem Ext0.upd {H : Hp} {a : Addr} {o : HO} (h1 : ∀ xs, H a ≠ some (.tup xs)) (h2 : ∀ o u, H a ≠ some (.frz o u)) : Ext0 H (L2.upd H a o) :=
  ⟨fun b xs h => by rw [upd_ne (fun e => h1 xs (by rw [← e]; exact h))]; exact h, fun b o' u h => by rw [upd_ne (fun e => h2 o' u (by rw [← e]; exact h))]; exact h⟩
theorem FzL.ext {H H' : Hp} (x : Ext0 H H') {a : Addr} {vs : List V} (h : FzL H a vs) : FzL H' a vs := let ⟨o, h⟩ := h; ⟨o, x.frzs _ _ _ h⟩
theorem FzL.sq {K : PySem.W.Frag} {H : Hp} {a : Addr} {vs : List V} (h : FzL H a vs) : SqL K H a vs := let ⟨o, h⟩ := h; .inl (.inr ⟨o, h⟩)
theorem FzD.ext {H H' : Hp} (x : Ext0 H H') {a : Addr} {qs : List (P × V)} (h : FzD H a qs) : FzD H' a qs := by
  rcases h with ⟨o, kvs, h, e⟩ | ⟨o, kvs, h, e⟩
  · exact .inl ⟨o, kvs, x.frzs _ _ _ h, e⟩
  · exact .inr ⟨o, kvs, x.frzs _ _ _ h, e⟩
mutual
theorem Rep.ext {H H' : Hp} (x : Ext0 H H') : ∀ {v : V} {p : P}, Rep H v p → Rep H' v p
  | _, _, .non => .non
  | _, _, .bl b => .bl b
  | _, _, .int i => .int i
  | _, _, .str z => .str z
  | _, _, .lst h hs => .lst (h.ext x) (RepL.ext x hs)
  | _, _, .tup h hs => .tup (x.tups _ _ h) (RepL.ext x hs)
  | _, _, .dct h e1 e2 hs e => .dct (h.ext x) e1 e2 (RepL.ext x hs) e
theorem RepL.ext {H H' : Hp} (x : Ext0 H H') : ∀ {vs : List V} {ps : List P}, RepL H vs ps → RepL H' vs ps
  | _, _, .nil => .nil
  | _, _, .cons h t => .cons (Rep.ext x h) (RepL.ext x t)
end
section
variable {H : Hp}
theorem RepL.length : ∀ {vs : List V} {ps : List P}, RepL H vs ps → vs.length = ps.length
  | _, _, .nil => rfl
  | _, _, .cons _ t => congrArg (· + 1) (RepL.length t)
theorem RepL.append : ∀ {vs ws : List V} {ps qs : List P}, RepL H vs ps → RepL H ws qs → RepL H (vs ++ ws) (ps ++ qs)
  | _, _, _, _, .nil, s => s
  | _, _, _, _, .cons h t, s => .cons h (RepL.append t s)
theorem RepL.set {v : V} {p : P} (r : Rep H v p) : ∀ {vs : List V} {ps : List P} (i : Nat), RepL H vs ps → RepL H (vs.set i v) (ps.set i p)
  | _, _, _, .nil => .nil
  | _, _, 0, .cons _ t => .cons r t
  | _, _, i + 1, .cons h t => .cons h (RepL.set r i t)
theorem RepL.ints : ∀ {vs : List V} {is : List Int}, RepL H vs (is.map .int) → vs = is.map V.int
  | _, [], .nil => rfl
  | _, i :: is, .cons h t => by cases h; rw [RepL.ints t]; rfl
theorem RepL.of_ints : ∀ is : List Int, RepL H (is.map V.int) (is.map .int)
  | [] => .nil
  | i :: is => .cons (.int i) (RepL.of_ints is)
theorem RepL.bls : ∀ {vs : List V} {bs : List Bool}, RepL H vs (bs.map .bool) → vs = bs.map V.bl
  | _, [], .nil => rfl
  | _, b :: bs, .cons h t => by cases h; rw [RepL.bls t]; rfl
end
theorem Paired.get2 {α β : Type} {F : α → β → Prop} : ∀ {l : List α} {m : List β} {i : Nat} {b : β}, Paired F l m → m[i]? = some b → ∃ a, l[i]? = some a ∧ F a b
  | _, _, _, _, .nil, e => by simp at e
  | _, _, 0, _, .cons h t, e => by simp at e; subst e; exact ⟨_, rfl, h⟩
  | _, _, i + 1, _, .cons h t, e => by
    obtain ⟨a, e1, r⟩ := Paired.get2 (i := i) t (by simpa using e)
    exact ⟨a, by simpa using e1, r⟩
theorem Paired.get1 {α β : Type} {F : α → β → Prop} : ∀ {l : List α} {m : List β} {i : Nat} {a : α}, Paired F l m → l[i]? = some a → ∃ b, m[i]? = some b ∧ F a b
  | _, _, _, _, .nil, e => by simp at e
  | _, _, 0, _, .cons h t, e => by simp at e; subst e; exact ⟨_, rfl, h⟩
  | _, _, i + 1, _, .cons h t, e => by
    obtain ⟨a, e1, r⟩ := Paired.get1 (i := i) t (by simpa using e)
    exact ⟨a, by simpa using e1, r⟩
theorem Paired.app {α β : Type} {F : α → β → Prop} : ∀ {l l' : List α} {m m' : List β}, Paired F l m → Paired F l' m' → Paired F (l ++ l') (m ++ m')
  | _, _, _, _, .nil, s => s
  | _, _, _, _, .cons h t, s => .cons h (Paired.app t s)
theorem Paired.setp {α β : Type} {F : α → β → Prop} {a : α} {b : β} (r : F a b) : ∀ {l : List α} {m : List β} (i : Nat), Paired F l m → Paired F (l.set i a) (m.set i b)
  | _, _, _, .nil => .nil
  | _, _, 0, .cons _ t => .cons r t
  | _, _, i + 1, .cons h t => .cons h (Paired.setp r i t)

/-! ### the state of a def -/
/-- a list or dict of one name alone, changed by this def -/
inductive OC where
  | lst (xs : List P) | dct (ps : List (P × P))
/-- what an expression gives: data; written data; the cell n; the own thing in the i-th slot, as it stands; a new list or dict that no one has -/
inductive D where
  | pu (p : P) | wr (p : P) | rf (n : Nat) | bo (i : Nat) (c : OC) | nw (c : OC)
/-- a cell: a list, dict, object that several may hold -/
inductive MC where
  | lst (xs : List D) | dct (ps : List (P × D)) | obj (c : Str) (fs : List (Str × D)) | fz (p : P)
/-- not frozen -/
def MC.live : MC → Bool
  | .fz _ => false
  | _ => true
inductive Sl where
  | val (d : D) | ow (c : OC)
abbrev Envi := List (Option Sl)
abbrev Sto := List MC

/-- what stays through a def: the written part, the classes, the heap and the cells at the entry -/
structure Gx where
  K : PySem.W.Frag
  cl : Str → Option Addr
  H0 : Hp
  n0 : Nat
  f0 : Nat → Addr

def RD (K : PySem.W.Frag) (H : Hp) (f : Nat → Addr) (L : Nat) (v : V) : D → Prop
  | .pu p => Rep H v p
  | .wr p => RepW K v p
  | .rf n => v = .ref (f n) ∧ n < L
  | .bo _ _ => False
  | .nw _ => False
def OCok (H : Hp) (a : Addr) : OC → Prop
  | .lst xs => ∃ vs, H a = some (.lst vs) ∧ RepL H vs xs
  | .dct ps => ∃ qs, RawD H a qs ∧ RepL H (qs.map (·.2)) (ps.map (·.2)) ∧ qs.map (·.1) = ps.map (·.1)
def MCok (G : Gx) (H : Hp) (f : Nat → Addr) (L : Nat) (a : Addr) : MC → Prop
  | .lst ds => ∃ vs, H a = some (.lst vs) ∧ Paired (RD G.K H f L) vs ds
  | .dct ps => ∃ qs, RawD H a qs ∧ Paired (RD G.K H f L) (qs.map (·.2)) (ps.map (·.2)) ∧ qs.map (·.1) = ps.map (·.1)
  | .obj c fs => ∃ C dx us, G.cl c = some C ∧ H a = some (.ins C dx us) ∧ Paired (RD G.K H f L) (us.map (·.2)) (fs.map (·.2)) ∧ us.map (·.1) = fs.map (·.1)
  | .fz p => (∃ od u, H a = some (.frz od u)) ∧ Rep H (.ref a) p

/-- the state stands for the slots and the heap -/
structure R (G : Gx) (σ : L2.St) (H : Hp) (e : Envi) (S : Sto) (f : Nat → Addr) : Prop where
  ln : e.length = σ.length
  val : ∀ (i : Nat) (d : D), e[i]? = some (some (.val d)) → ∃ v, σ[i]? = some (some v) ∧ RD G.K H f S.length v d
  own : ∀ (i : Nat) (c : OC), e[i]? = some (some (.ow c)) → ∃ a, σ[i]? = some (some (.ref a)) ∧ OCok H a c ∧ G.H0 a = none ∧ ∀ n, n < S.length → f n ≠ a
  sep : ∀ (i j : Nat) (c c' : OC) (a : Addr), i ≠ j → e[i]? = some (some (.ow c)) → e[j]? = some (some (.ow c')) → σ[i]? = some (some (.ref a)) → σ[j]? ≠ some (some (.ref a))
  cel : ∀ (n : Nat) (c : MC), S[n]? = some c → MCok G H f S.length (f n) c
  inj : ∀ (n m : Nat), n < S.length → m < S.length → f n = f m → n = m
  frm : ∀ b o, G.H0 b = some o → (∀ n, n < G.n0 → f n ≠ b) → H b = some o
  new : ∀ n, G.n0 ≤ n → n < S.length → G.H0 (f n) = none
  old : ∀ n, n < G.n0 → f n = G.f0 n
  le : G.n0 ≤ S.length
  ext : Ext0 G.H0 H
/-- what an expression gives stands for a value -/
def RE (G : Gx) (σ : L2.St) (H : Hp) (e : Envi) (f : Nat → Addr) (L : Nat) (v : V) (d : D) : Prop :=
  match d with
  | .bo i c => σ[i]? = some (some v) ∧ e[i]? = some (some (.ow c))
  | .nw c => ∃ a, v = .ref a ∧ OCok H a c ∧ G.H0 a = none ∧ (∀ n, n < L → f n ≠ a) ∧ ∀ (j : Nat) (c' : OC), e[j]? = some (some (.ow c')) → σ[j]? ≠ some (some (.ref a))
  | .pu p => Rep H v p
  | .wr p => RepW G.K v p
  | .rf n => v = .ref (f n) ∧ n < L
/-- from one point of an expression to a later one: cells alone are changed, nothing is lost, new cells are new things -/
structure Nx (H H' : Hp) (f f' : Nat → Addr) (L L' : Nat) : Prop where
  ext : Ext0 H H'
  ag : ∀ n, n < L → f' n = f n
  le : L ≤ L'
  oth : ∀ b o, H b = some o → (∀ n, n < L → f n ≠ b) → H' b = some o
  fr : ∀ n, L ≤ n → n < L' → H (f' n) = none
  th : ∀ b o, H b = some o → ∃ o', H' b = some o'
theorem Nx.refl (H : Hp) (f : Nat → Addr) (L : Nat) : Nx H H f f L L := ⟨.refl H, fun _ _ => rfl, Nat.le_refl _, fun _ _ h _ => h, fun n h1 h2 => absurd h2 (Nat.not_lt.mpr h1), fun _ o h => ⟨o, h⟩⟩
theorem Nx.trans {H H1 H2 : Hp} {f f1 f2 : Nat → Addr} {L L1 L2 : Nat} (a : Nx H H1 f f1 L L1) (b : Nx H1 H2 f1 f2 L1 L2) : Nx H H2 f f2 L L2 where
  ext := a.ext.trans b.ext
  ag := fun n h => (b.ag n (Nat.lt_of_lt_of_le h a.le)).trans (a.ag n h)
  le := Nat.le_trans a.le b.le
  oth := fun c o h hn => b.oth c o (a.oth c o h hn) fun n hl e => by
    by_cases hL : n < L
    · exact hn n hL ((a.ag n hL).symm.trans e)
    · have q := a.fr n (Nat.le_of_not_lt hL) hl
      rw [e, h] at q
      cases q
  fr := fun n h1 h2 => by
    by_cases hL : n < L1
    · rw [b.ag n hL]
      exact a.fr n h1 hL
    · have q := b.fr n (Nat.le_of_not_lt hL) h2
      cases z : H (f2 n) with
      | none => rfl
      | some o =>
        obtain ⟨o', e⟩ := a.th _ o z
        rw [e] at q
        cases q
  th := fun c o h => let ⟨o', h'⟩ := a.th c o h; b.th c o' h'
theorem Nx.of {H H' : Hp} (s : Same H H') (f : Nat → Addr) (L : Nat) : Nx H H' f f L L := ⟨.of s, fun _ _ => rfl, Nat.le_refl _, fun b o h _ => s b o h, fun n h1 h2 => absurd h2 (Nat.not_lt.mpr h1), fun b o h => ⟨o, s b o h⟩⟩

theorem RD.nx {K : PySem.W.Frag} {H H' : Hp} {f f' : Nat → Addr} {L L' : Nat} (x : Nx H H' f f' L L') {v : V} : ∀ {d : D}, RD K H f L v d → RD K H' f' L' v d
  | .pu _, h => Rep.ext x.ext h
  | .wr _, h => h
  | .rf n, ⟨h, l⟩ => ⟨by rw [x.ag n l]; exact h, Nat.lt_of_lt_of_le l x.le⟩
  | .bo _ _, h => h
  | .nw _, h => h
theorem OCok.nx {H H' : Hp} (x : Ext0 H H') {a : Addr} (ha : ∀ o, H a = some o → H' a = some o) : ∀ {c : OC}, OCok H a c → OCok H' a c
  | .lst _, ⟨vs, h, r⟩ => ⟨vs, ha _ h, RepL.ext x r⟩
  | .dct _, ⟨qs, h, r, e⟩ => ⟨qs, by
      rcases h with ⟨kvs, h, z⟩ | ⟨kvs, h, z⟩
      · exact .inl ⟨kvs, ha _ h, z⟩
      · exact .inr ⟨kvs, ha _ h, z⟩, RepL.ext x r, e⟩
theorem RE.nx {G : Gx} {σ : L2.St} {H H' : Hp} {e : Envi} {f f' : Nat → Addr} {L L' : Nat} (x : Nx H H' f f' L L') {v : V} : ∀ {d : D}, RE G σ H e f L v d → RE G σ H' e f' L' v d
  | .pu _, h => Rep.ext x.ext h
  | .wr _, h => h
  | .rf n, ⟨h, l⟩ => ⟨by rw [x.ag n l]; exact h, Nat.lt_of_lt_of_le l x.le⟩
  | .bo _ _, h => h
  | .nw c, ⟨a, e1, h1, h2, h3, h4⟩ => by
    obtain ⟨o, ho⟩ : ∃ o, H a = some o := by
      cases c with
      | lst _ => obtain ⟨_, h, _⟩ := h1; exact ⟨_, h⟩
      | dct _ => obtain ⟨_, h, _⟩ := h1; rcases h with ⟨_, h, _⟩ | ⟨_, h, _⟩ <;> exact ⟨_, h⟩
    refine ⟨a, e1, OCok.nx x.ext (fun o z => x.oth a o z h3) h1, h2, fun n hn z => ?_, h4⟩
    by_cases hL : n < L
    · exact h3 n hL ((x.ag n hL).symm.trans z)
    · have q := x.fr n (Nat.le_of_not_lt hL) hn
      rw [z, ho] at q
      cases q
theorem RD.re {G : Gx} {σ : L2.St} {H : Hp} {e : Envi} {f : Nat → Addr} {L : Nat} {v : V} : ∀ {d : D}, RD G.K H f L v d → RE G σ H e f L v d
  | .pu _, h => h
  | .wr _, h => h
  | .rf _, h => h
  | .bo _ _, h => h.elim
  | .nw _, h => h.elim
theorem MCok.nx {G : Gx} {H H' : Hp} {f f' : Nat → Addr} {L L' : Nat} (x : Nx H H' f f' L L') {a : Addr} (ha : ∀ o, H a = some o → H' a = some o) : ∀ {c : MC}, MCok G H f L a c → MCok G H' f' L' a c
  | .lst _, ⟨vs, h, r⟩ => ⟨vs, ha _ h, Paired.mapP r fun _ _ => RD.nx x⟩
  | .dct _, ⟨qs, h, r, e⟩ => ⟨qs, by
      rcases h with ⟨kvs, h, z⟩ | ⟨kvs, h, z⟩
      · exact .inl ⟨kvs, ha _ h, z⟩
      · exact .inr ⟨kvs, ha _ h, z⟩, Paired.mapP r fun _ _ => RD.nx x, e⟩
  | .obj _ _, ⟨C, dx, us, c, h, r, e⟩ => ⟨C, dx, us, c, ha _ h, Paired.mapP r fun _ _ => RD.nx x, e⟩
  | .fz _, ⟨⟨od, u, h⟩, r⟩ => ⟨⟨od, u, x.ext.frzs _ _ _ h⟩, Rep.ext x.ext r⟩
/-- the cells as they lie -/
structure Cells (G : Gx) (H : Hp) (f : Nat → Addr) (S : Sto) : Prop where
  cel : ∀ (n : Nat) (c : MC), S[n]? = some c → MCok G H f S.length (f n) c
  inj : ∀ (n m : Nat), n < S.length → m < S.length → f n = f m → n = m
theorem MCok.raw {G : Gx} {H : Hp} {f : Nat → Addr} {L : Nat} {a : Addr} : ∀ {c : MC}, MCok G H f L a c → ∃ o, H a = some o ∧ (c.live = true → Mut (some o))
  | .lst _, ⟨_, h, _⟩ => ⟨_, h, fun _ => trivial⟩
  | .dct _, ⟨_, h, _⟩ => by
    rcases h with ⟨_, h, _⟩ | ⟨_, h, _⟩
    · exact ⟨_, h, fun _ => trivial⟩
    · exact ⟨_, h, fun _ => trivial⟩
  | .obj _ _, ⟨_, _, _, _, h, _⟩ => ⟨_, h, fun _ => trivial⟩
  | .fz _, ⟨⟨_, _, h⟩, _⟩ => ⟨_, h, fun z => by cases z⟩
theorem OCok.raw {H : Hp} {a : Addr} : ∀ {c : OC}, OCok H a c → ∃ o, H a = some o ∧ Mut (some o)
  | .lst _, ⟨_, h, _⟩ => ⟨_, h, trivial⟩
  | .dct _, ⟨_, h, _⟩ => by
    rcases h with ⟨_, h, _⟩ | ⟨_, h, _⟩
    · exact ⟨_, h, trivial⟩
    · exact ⟨_, h, trivial⟩
section
variable {G : Gx} {σ : L2.St} {H H' : Hp} {e : Envi} {S S' : Sto} {f f' : Nat → Addr}
theorem R.cells (r : R G σ H e S f) : Cells G H f S := ⟨r.cel, r.inj⟩
theorem R.cell_at (r : R G σ H e S f) {n : Nat} (h : n < S.length) : ∃ o, H (f n) = some o ∧ ((S[n]).live = true → Mut (some o)) := (r.cel n _ (List.getElem?_eq_getElem h)).raw
theorem R.cell_mut (r : R G σ H e S f) {n : Nat} {c : MC} (h : S[n]? = some c) (hc : c.live = true) : ∃ o, H (f n) = some o ∧ Mut (some o) := let ⟨o, h1, h2⟩ := (r.cel n c h).raw; ⟨o, h1, h2 hc⟩
/-- what is free was free at the entry -/
theorem R.free0 (r : R G σ H e S f) {a : Addr} (h : H a = none) : G.H0 a = none := by
  cases q : G.H0 a with
  | none => rfl
  | some o =>
    have := r.frm a o q fun n hn z => by
      obtain ⟨u, hu, _⟩ := r.cell_at (Nat.lt_of_lt_of_le hn r.le)
      rw [z, h] at hu
      cases hu
    rw [h] at this
    cases this
theorem R.nx (r : R G σ H e S f) (x : Nx H H' f f' S.length S'.length) (c : Cells G H' f' S') : R G σ H' e S' f' where
  ln := r.ln
  val := fun i d h => let ⟨v, h1, h2⟩ := r.val i d h; ⟨v, h1, RD.nx x h2⟩
  own := fun i oc h => by
    obtain ⟨a, h1, h2, h3, h4⟩ := r.own i oc h
    refine ⟨a, h1, OCok.nx x.ext (fun o z => x.oth a o z h4) h2, h3, fun n hn z => ?_⟩
    by_cases hL : n < S.length
    · exact h4 n hL ((x.ag n hL).symm.trans z)
    · have q := x.fr n (Nat.le_of_not_lt hL) hn
      obtain ⟨o, ho, _⟩ := h2.raw
      rw [z, ho] at q
      cases q
  sep := r.sep
  cel := c.cel
  inj := c.inj
  frm := fun b o h hn => by
    have hn' : ∀ n, n < G.n0 → f n ≠ b := fun n hl => by rw [← x.ag n (Nat.lt_of_lt_of_le hl r.le)]; exact hn n hl
    refine x.oth b o (r.frm b o h hn') fun n hl z => ?_
    by_cases h0 : n < G.n0
    · exact hn' n h0 z
    · have q := r.new n (Nat.le_of_not_lt h0) hl
      rw [z, h] at q
      cases q
  new := fun n h1 h2 => by
    by_cases hL : n < S.length
    · rw [x.ag n hL]
      exact r.new n h1 hL
    · exact r.free0 (x.fr n (Nat.le_of_not_lt hL) h2)
  old := fun n h => by rw [x.ag n (Nat.lt_of_lt_of_le h r.le)]; exact r.old n h
  le := Nat.le_trans r.le x.le
  ext := r.ext.trans x.ext
theorem Cells.nx (c : Cells G H f S) (s : Same H H') : Cells G H' f S := ⟨fun n k h => MCok.nx (.of s _ _) (fun o => s _ o) (c.cel n k h), c.inj⟩
theorem R.same (r : R G σ H e S f) (s : Same H H') : R G σ H' e S f := r.nx (.of s _ _) (r.cells.nx s)
/-- a new cell -/
def put1 (f : Nat → Addr) (L : Nat) (a : Addr) : Nat → Addr := fun n => if n = L then a else f n
theorem put1_at (f : Nat → Addr) (L : Nat) (a : Addr) : put1 f L a L = a := by unfold put1; rw [if_pos rfl]
theorem put1_lt {f : Nat → Addr} {L : Nat} {a : Addr} {n : Nat} (h : n < L) : put1 f L a n = f n := by unfold put1; rw [if_neg (Nat.ne_of_lt h)]
theorem nx_alloc {a : Addr} {o : HO} (L : Nat) (h : H a = none) : Nx H (L2.upd H a o) f (put1 f L a) L (L + 1) where
  ext := .upd (fun xs z => by rw [h] at z; cases z) (fun o u z => by rw [h] at z; cases z)
  ag := fun n hn => put1_lt hn
  le := Nat.le_succ _
  oth := fun b u hb _ => by rw [upd_ne (ne_of_none hb h)]; exact hb
  fr := fun n h1 h2 => by
    have e : n = L := by omega
    rw [e, put1_at]
    exact h
  th := fun b u hb => ⟨u, by rw [upd_ne (ne_of_none hb h)]; exact hb⟩
theorem Cells.alloc {a : Addr} {o : HO} {c : MC} (k : Cells G H f S) (h : H a = none) (hc : MCok G (L2.upd H a o) (put1 f S.length a) (S.length + 1) a c) : Cells G (L2.upd H a o) (put1 f S.length a) (S ++ [c]) := by
  have len : (S ++ [c]).length = S.length + 1 := by simp
  have raw : ∀ n, n < S.length → f n ≠ a := fun n hn z => by
    obtain ⟨u, hu, _⟩ := (k.cel n _ (List.getElem?_eq_getElem hn)).raw
    rw [z, h] at hu
    cases hu
  refine ⟨fun n d hd => ?_, fun n m hn hm e => ?_⟩
  · rw [len]
    by_cases hn : n < S.length
    · rw [List.getElem?_append_left hn] at hd
      rw [put1_lt hn]
      exact MCok.nx (nx_alloc S.length h) (fun o' z => by rw [upd_ne (ne_of_none z h)]; exact z) (k.cel n d hd)
    · have e : n = S.length := by
        have := (List.getElem?_eq_some_iff.mp hd).1
        rw [len] at this
        omega
      subst e
      rw [List.getElem?_append_right (Nat.le_refl _), Nat.sub_self] at hd
      cases hd
      rw [put1_at]
      exact hc
  · rw [len] at hn hm
    by_cases h1 : n < S.length
    · by_cases h2 : m < S.length
      · rw [put1_lt h1, put1_lt h2] at e
        exact k.inj n m h1 h2 e
      · have e2 : m = S.length := by omega
        subst e2
        rw [put1_lt h1, put1_at] at e
        exact absurd e (raw n h1)
    · have e1 : n = S.length := by omega
      subst e1
      by_cases h2 : m < S.length
      · rw [put1_lt h2, put1_at] at e
        exact absurd e.symm (raw m h2)
      · omega
theorem len1 (S : Sto) (c : MC) : (S ++ [c]).length = S.length + 1 := by simp
theorem R.alloc {a : Addr} {o : HO} {c : MC} (r : R G σ H e S f) (h : H a = none) (hc : MCok G (L2.upd H a o) (put1 f S.length a) (S.length + 1) a c) : R G σ (L2.upd H a o) e (S ++ [c]) (put1 f S.length a) :=
  r.nx (by rw [len1]; exact nx_alloc S.length h) (r.cells.alloc h hc)
/-- behind a def: what its callers see -/
theorem R.back (r : R G σ H e S f) : Nx G.H0 H G.f0 f G.n0 S.length where
  ext := r.ext
  ag := r.old
  le := r.le
  oth := fun b o h hn => r.frm b o h fun n hl => by rw [r.old n hl]; exact hn n hl
  fr := r.new
  th := fun b o h => by
    by_cases c : ∃ n, n < G.n0 ∧ f n = b
    · obtain ⟨n, hn, rfl⟩ := c
      obtain ⟨o', ho, _⟩ := r.cell_at (Nat.lt_of_lt_of_le hn r.le)
      exact ⟨o', ho⟩
    · exact ⟨o, r.frm b o h fun n hn z => c ⟨n, hn, z⟩⟩
end
theorem upd_new {H : Hp} {a : Addr} {o : HO} (h : H a = none) : Same H (upd H a o) := fun b x e => by
  rw [upd_ne (ne_of_none e h)]
  exact e

/-! ### freezing what a rule has made -/
/-- the end with what has come frozen, or as it is -/
def GQ (Q : VK) : VK := fun v H => Q v H ∨ ∃ a u, v = .ref a ∧ H a = some u ∧ Mut (some u) ∧ ∀ od, Q v (upd H a (.frz od u))
theorem pe_gh {X : Cx} {e : Expr} {t : TE} (h : PE X e t) : PE X e (fun σ H Q => t σ H (GQ Q)) := by
  refine ⟨fun pins s σ H Q I hw => thn (h.run pins s σ H _ I hw) fun u s1 ⟨v, H1, I1, r1, q⟩ => ?_⟩
  rcases q with q | ⟨a, w, rfl, ha, mu, q⟩
  · exact ⟨v, H1, I1, r1, q⟩
  · obtain ⟨od, I2⟩ := I1.lock ha mu
    exact ⟨_, _, I2, r1, q od⟩
theorem pe_mono {X : Cx} {e : Expr} {t t' : TE} (h : PE X e t) (m : ∀ σ H Q, t' σ H Q → t σ H Q) : PE X e t' := ⟨fun pins s σ H Q I hw => h.run pins s σ H Q I (m σ H Q hw)⟩
theorem pt_mono {X : Cx} {e : Expr} {t t' : TT} (h : PT X e t) (m : ∀ σ H Q, t' σ H Q → t σ H Q) : PT X e t' := ⟨fun pins s σ H Q I hw => h.run pins s σ H Q I (m σ H Q hw)⟩
theorem ps_mono {X : Cx} {e : Stmt} {t t' : TS} (h : PS X e t) (m : ∀ D σ H, t' D σ H → t D σ H) : PS X e t' := ⟨fun pins s σ H D I hw => h.run pins s σ H D I (m D σ H hw)⟩
theorem pss_mono {X : Cx} {e : List Stmt} {t t' : TS} (h : PSs X e t) (m : ∀ D σ H, t' D σ H → t D σ H) : PSs X e t' := ⟨fun pins s σ H D I hw => h.run pins s σ H D I (m D σ H hw)⟩
end DL
/-! DL1: expressions as functions of the state. -/
namespace DL
open PySem PySem.Spec PyProof.Rows L2

abbrev Ex := Envi → Sto → Option (D × Sto)
abbrev Tx := Envi → Sto → Option (Bool × Sto)
abbrev Ax := Envi → Sto → Option (List D × Sto)

def tE (G : Gx) (x : Ex) : TE := fun σ H Q => ∃ e S f, R G σ H e S f ∧ ∃ d S', x e S = some (d, S') ∧
  ∀ v H' f', R G σ H' e S' f' → Nx H H' f f' S.length S'.length → RE G σ H' e f' S'.length v d → Q v H'
def tTx (G : Gx) (x : Tx) : TT := fun σ H Q => ∃ e S f, R G σ H e S f ∧ ∃ b S', x e S = some (b, S') ∧
  ∀ H' f', R G σ H' e S' f' → Nx H H' f f' S.length S'.length → Q b H'
def tAx (G : Gx) (x : Ax) : TA := fun σ H Q => ∃ e S f, R G σ H e S f ∧ ∃ ds S', x e S = some (ds, S') ∧
  ∀ vs H' f', R G σ H' e S' f' → Nx H H' f f' S.length S'.length → Paired (RE G σ H' e f' S'.length) vs ds → Q vs H'
abbrev DE (X : Cx) (G : Gx) (a : Expr) (x : Ex) : Prop := PE X a (tE G x)
abbrev DT (X : Cx) (G : Gx) (a : Expr) (x : Tx) : Prop := PT X a (tTx G x)
abbrev DW (X : Cx) (G : Gx) (a : Expr) (x : Tx) : Prop := PW X a (tTx G x)
abbrev DA (X : Cx) (G : Gx) (a : List Expr) (x : Ax) : Prop := PA X a (tAx G x)

/-! ### evaluators -/
def xVar (i : Nat) : Ex := fun e S => match e[i]? with
  | some (some (.val d)) => some (d, S)
  | some (some (.ow c)) => some (.bo i c, S)
  | _ => none
def xP (p : P) : Ex := fun _ S => some (.pu p, S)
def xD (d : D) : Ex := fun _ S => some (d, S)
def x1 (g : D → Sto → Option (D × Sto)) (a : Ex) : Ex := fun e S => (a e S).bind fun r => g r.1 r.2
def x2 (g : D → D → Sto → Option (D × Sto)) (a b : Ex) : Ex := fun e S => (a e S).bind fun r => (b e r.2).bind fun q => g r.1 q.1 q.2
def aNil : Ax := fun _ S => some ([], S)
def aCons (a : Ex) (r : Ax) : Ax := fun e S => (a e S).bind fun q => (r e q.2).bind fun t => some (q.1 :: t.1, t.2)
/-- by data alone -/
def s1 (p : P → Option P) : D → Sto → Option (D × Sto)
  | .pu a, S => (p a).bind fun c => some (.pu c, S)
  | _, _ => none
def s2 (p : P → P → Option P) : D → D → Sto → Option (D × Sto)
  | .pu a, .pu b, S => (p a b).bind fun c => some (.pu c, S)
  | _, _, _ => none

section
variable {X : Cx} {G : Gx} {σ : L2.St} {H : Hp} {e : Envi} {S : Sto} {f : Nat → Addr}

/-! ### the small ones -/
theorem R.re (r : R G σ H e S f) {i : Nat} {d : D} {S' : Sto} (h : xVar i e S = some (d, S')) : S' = S ∧ ∃ v, σ[i]? = some (some v) ∧ RE G σ H e f S.length v d := by
  unfold xVar at h
  cases hd : e[i]? with
  | none => rw [hd] at h; cases h
  | some o =>
    rw [hd] at h
    cases o with
    | none => cases h
    | some sl =>
      cases sl with
      | val d0 =>
        have h' : some (d0, S) = some (d, S') := h
        cases h'
        obtain ⟨v, h1, h2⟩ := r.val i d hd
        exact ⟨rfl, v, h1, h2.re⟩
      | ow c =>
        cases h
        obtain ⟨a, h1, _⟩ := r.own i c hd
        exact ⟨rfl, _, h1, h1, hd⟩
theorem d_var (i : Nat) {x : Str} {pos : Pos} (hN : X.N[i]? = some x := by rfl) (hv : Vis X.env.scope x := by first | exact Or.inl rfl | exact Or.inr (Or.inl rfl) | exact Or.inr (Or.inr rfl)) (hd : (x == ("__debug__" : Str)) = false := by decide)
    (hcd : (x == ("__classdict__" : Str)) = false := by decide) : DE X G (.Name x pos) (xVar i) := by
  refine pe_mono (pe_var hN hv hd hcd) fun σ H Q h => ?_
  obtain ⟨e, S, f, r, d, S', hx, q⟩ := h
  obtain ⟨rfl, v, h1, h2⟩ := r.re hx
  exact ⟨v, h1, q v H f r (.refl _ _ _) h2⟩
theorem tE.const {v : V} {p : P} (h : ∀ H, Rep H v p) : ∀ σ H Q, tE G (xP p) σ H Q → tC v σ H Q := by
  intro σ H Q ⟨e, S, f, r, d, S', hx, q⟩
  cases hx
  exact q v H f r (.refl _ _ _) (h H)
theorem d_int {i : Int} {j pos} : DE X G (.Constant (.int i) j pos) (xP (.int i)) := pe_mono pe_int (tE.const fun _ => .int i)
theorem d_bl {b : Bool} {j pos} : DE X G (.Constant (.bool b) j pos) (xP (.bool b)) := pe_mono pe_bl (tE.const fun _ => .bl b)
theorem d_non {j pos} : DE X G (.Constant .none j pos) (xP .none) := pe_mono pe_non (tE.const fun _ => .non)
theorem d_str {x : Str} {j pos} : DE X G (.Constant (.str x) j pos) (xP (.str x)) := pe_mono pe_str (tE.const fun _ => .str x)
/-- written data by its name -/
theorem d_glob {x : Str} {v : V} {p : P} {u : Value} {pos : Pos} (hK : X.K = G.K) (hg : Gl X x) (hm : X.mg x = some u) (r : RelV v u) (w : RepW X.K v p) (hd : (x == ("__debug__" : Str)) = false := by decide) : DE X G (.Name x pos) (xD (.wr p)) := by
  refine pe_mono (pe_glob hg hm r hd) fun σ H Q h => ?_
  obtain ⟨e, S, f, r, d, S', hx, q⟩ := h
  cases hx
  exact q v H f r (.refl _ _ _) (by show RepW G.K v p; rw [← hK]; exact w)
theorem d_globS {x : Str} {v : V} {p : P} {u : Value} {pos : Pos} (hg : Gl X x) (hm : X.mg x = some u) (r : RelV v u) (w : ∀ H, Rep H v p) (hd : (x == ("__debug__" : Str)) = false := by decide) : DE X G (.Name x pos) (xP p) :=
  pe_mono (pe_glob hg hm r hd) (tE.const w)

/-! ### one or two operands -/
/-- an end at the point H, S, f for d -/
abbrev Fin (G : Gx) (σ : L2.St) (e : Envi) (H : Hp) (f : Nat → Addr) (S S' : Sto) (d : D) (Q : VK) : Prop :=
  ∀ v H' f', R G σ H' e S' f' → Nx H H' f f' S.length S'.length → RE G σ H' e f' S'.length v d → Q v H'
/-- a rule by values serves an evaluator by data -/
def V1 (G : Gx) (r : V → Hp → VK → Prop) (g : D → Sto → Option (D × Sto)) : Prop := ∀ σ H e S f x dx d S' (Q : VK), R G σ H e S f → RE G σ H e f S.length x dx → g dx S = some (d, S') → Fin G σ e H f S S' d Q → r x H (GQ Q)
def V2 (G : Gx) (r : R2) (g : D → D → Sto → Option (D × Sto)) : Prop := ∀ σ H e S f x y dx dy d S' (Q : VK), R G σ H e S f → RE G σ H e f S.length x dx → RE G σ H e f S.length y dy → g dx dy S = some (d, S') → Fin G σ e H f S S' d Q → r x y H (GQ Q)
theorem tE.b1 {a : Ex} {g : D → Sto → Option (D × Sto)} {r : V → Hp → VK → Prop} (h : V1 G r g) : ∀ σ H Q, tE G (x1 g a) σ H Q → tE G a σ H fun x H1 => r x H1 (GQ Q) := by
  intro σ H Q ⟨e, S, f, r0, d, S', hx, q⟩
  unfold x1 at hx
  obtain ⟨⟨d1, S1⟩, h1, hx⟩ := Option.bind_eq_some_iff.mp hx
  refine ⟨e, S, f, r0, d1, S1, h1, fun v1 H1 f1 r1 n1 p1 => ?_⟩
  exact h σ H1 e S1 f1 v1 d1 d S' Q r1 p1 hx fun v H2 f2 r2 n2 p2 => q v H2 f2 r2 (n1.trans n2) p2
theorem tE.b2 {a b : Ex} {g : D → D → Sto → Option (D × Sto)} {r : R2} (h : V2 G r g) : ∀ σ H Q, tE G (x2 g a b) σ H Q → tOp r (tE G a) (tE G b) σ H (GQ Q) := by
  intro σ H Q ⟨e, S, f, r0, d, S', hx, q⟩
  unfold x2 at hx
  obtain ⟨⟨d1, S1⟩, h1, hx⟩ := Option.bind_eq_some_iff.mp hx
  obtain ⟨⟨d2, S2⟩, h2, hx⟩ := Option.bind_eq_some_iff.mp hx
  refine ⟨e, S, f, r0, d1, S1, h1, fun v1 H1 f1 r1 n1 p1 => ⟨e, S1, f1, r1, d2, S2, h2, fun v2 H2 f2 r2 n2 p2 => ?_⟩⟩
  exact h σ H2 e S2 f2 v1 v2 d1 d2 d S' Q r2 (p1.nx n2) p2 hx fun v H3 f3 r3 n3 p3 => q v H3 f3 r3 ((n1.trans n2).trans n3) p3
theorem d_op {op : Operator} {r : R2} {g : D → D → Sto → Option (D × Sto)} {a b : Expr} {xa xb : Ex} {pos : Pos} (ho : OpR X (binaryOp op) r) (h : V2 G r g) (ha : DE X G a xa) (hb : DE X G b xb) : DE X G (.BinOp a op b pos) (x2 g xa xb) :=
  pe_mono (pe_gh (pe_op ho ha hb)) (tE.b2 h)
theorem d_un {op : UnaryOp} {r : V → Hp → VK → Prop} {g : D → Sto → Option (D × Sto)} {a : Expr} {xa : Ex} {pos : Pos} (ho : UnR X (unaryOp op) r) (h : V1 G r g) (ha : DE X G a xa) : DE X G (.UnaryOp op a pos) (x1 g xa) :=
  pe_mono (pe_gh (pe_un ho ha)) (tE.b1 h)
theorem d_cmp {op : CmpOp} {r : R2} {g : D → D → Sto → Option (D × Sto)} {a b : Expr} {xa xb : Ex} {pos : Pos} (ho : OpR X (compareOp op) r) (h : V2 G r g) (ha : DE X G a xa) (hb : DE X G b xb) (hm : behindInMarks op b = false) : DE X G (.Compare a [op] [b] pos) (x2 g xa xb) :=
  pe_mono (pe_gh (pe_cmpR ho ha hb hm)) (tE.b2 h)
/-- what a rule by data alone is to show -/
def VP2 (r : R2) (p : P → P → Option P) : Prop := ∀ H x y a b c (Q : VK), Rep H x a → Rep H y b → p a b = some c → (∀ v H', Same H H' → Rep H' v c → Q v H') → r x y H (GQ Q)
def VP1 (r : V → Hp → VK → Prop) (p : P → Option P) : Prop := ∀ H x a c (Q : VK), Rep H x a → p a = some c → (∀ v H', Same H H' → Rep H' v c → Q v H') → r x H (GQ Q)
theorem VP2.v {r : R2} {p : P → P → Option P} (h : VP2 r p) : V2 G r (s2 p) := by
  intro σ H e S f x y dx dy d S' Q r0 rx ry hg q
  cases dx with
  | pu a =>
    cases dy with
    | pu b =>
      obtain ⟨c, hc, hd⟩ := Option.bind_eq_some_iff.mp (show (p a b).bind _ = _ from hg)
      cases hd
      exact h H x y a b c Q rx ry hc fun v H' s rc => q v H' f (r0.same s) (.of s _ _) rc
    | _ => cases hg
  | _ => cases hg
theorem VP1.v {r : V → Hp → VK → Prop} {p : P → Option P} (h : VP1 r p) : V1 G r (s1 p) := by
  intro σ H e S f x dx d S' Q r0 rx hg q
  cases dx with
  | pu a =>
    obtain ⟨c, hc, hd⟩ := Option.bind_eq_some_iff.mp (show (p a).bind _ = _ from hg)
    cases hd
    exact h H x a c Q rx hc fun v H' s rc => q v H' f (r0.same s) (.of s _ _) rc
  | _ => cases hg

/-! ### ints -/
def pI (C : Int → Int → Bool) (g : Int → Int → Int) : P → P → Option P
  | .int i, .int j => if C i j then some (.int (g i j)) else none
  | _, _ => none
def pIB (g : Int → Int → Bool) : P → P → Option P
  | .int i, .int j => some (.bool (g i j))
  | _, _ => none
theorem vp_I {C : Int → Int → Prop} {g : Int → Int → Int} {c : Int → Int → Bool} (hc : ∀ i j, c i j = true → C i j) : VP2 (rI C fun i j => .int (g i j)) (pI c g) := by
  intro H x y a b z Q rx ry h q
  cases rx with
  | int i =>
    cases ry with
    | int j =>
      unfold pI at h
      dsimp only at h
      by_cases hC : c i j = true
      · rw [if_pos hC] at h
        cases h
        exact ⟨i, j, rfl, rfl, hc i j hC, .inl (q _ H (.refl _) (.int _))⟩
      · rw [if_neg hC] at h
        cases h
    | _ => simp [pI] at h
  | _ => simp [pI] at h
theorem vp_I0 {g : Int → Int → Int} : VP2 (rI0 fun i j => .int (g i j)) (pI (fun _ _ => true) g) := by
  intro H x y a b z Q rx ry h q
  cases rx with
  | int i =>
    cases ry with
    | int j =>
      cases h
      exact ⟨i, j, rfl, rfl, .inl (q _ H (.refl _) (.int _))⟩
    | _ => cases h
  | _ => cases h
theorem vp_IB {g : Int → Int → Bool} : VP2 (rI0 fun i j => .bl (g i j)) (pIB g) := by
  intro H x y a b z Q rx ry h q
  cases rx with
  | int i =>
    cases ry with
    | int j =>
      cases h
      exact ⟨i, j, rfl, rfl, .inl (q _ H (.refl _) (.bl _))⟩
    | _ => cases h
  | _ => cases h
def small (i : Int) : Bool := decide (-18446744073709551616 < i) && decide (i < 18446744073709551616)
theorem small_iff {i : Int} : small i = true ↔ -(2 ^ 64) < i ∧ i < 2 ^ 64 := by
  unfold small
  rw [Bool.and_eq_true, decide_eq_true_eq, decide_eq_true_eq]
  exact Iff.rfl
abbrev pSub := pI (fun _ _ => true) fun i j => i - j
abbrev pMul := pI (fun i j => small i || small j) fun i j => i * j
abbrev pDiv := pI (fun _ j => decide (0 < j) && decide (j < 1073741824)) fun i j => i / j
abbrev pMod := pI (fun _ j => decide (0 < j)) fun i j => i % j
abbrev pPow := pI (fun i j => decide (0 ≤ j) && decide (j ≤ 1000000) && small i) fun i j => i ^ j.toNat
theorem vp_sub : VP2 (rI0 fun i j => .int (i - j)) pSub := vp_I0
theorem vp_mul : VP2 (rI CMul fun i j => .int (i * j)) pMul := vp_I fun i j h => by
  rcases (Bool.or_eq_true _ _).mp h with h | h
  · exact .inl (small_iff.mp h)
  · exact .inr (small_iff.mp h)
theorem vp_div : VP2 (rI CDiv fun i j => .int (i / j)) pDiv := vp_I fun i j h => by
  simp only [Bool.and_eq_true, decide_eq_true_eq] at h
  exact h
theorem vp_mod : VP2 (rI (fun _ j => 0 < j) fun i j => .int (i % j)) pMod := vp_I fun i j h => of_decide_eq_true h
theorem vp_pow : VP2 (rI CPow fun i j => .int (i ^ j.toNat)) pPow := vp_I fun i j h => by
  simp only [Bool.and_eq_true, decide_eq_true_eq] at h
  have h2 := small_iff.mp h.2
  exact ⟨h.1.1, h.1.2, by omega⟩
def pNeg : P → Option P
  | .int i => some (.int (-i))
  | _ => none
theorem vp_neg : VP1 (rU fun i => .int (-i)) pNeg := by
  intro H x a c Q rx h q
  cases rx with
  | int i => cases h; exact ⟨i, rfl, .inl (q _ H (.refl _) (.int _))⟩
  | _ => cases h
end
end DL
/-! DL2: sequences, built-ins, displays, tests. -/
namespace DL
open PySem PySem.Spec PyProof.Rows L2

/-! ### sequences -/
def wrD : P → D
  | .list xs => .wr (.list xs)
  | .tuple xs => .wr (.tuple xs)
  | .dict k => .wr (.dict k)
  | p => .pu p
/-- (whether it is a tuple, the items) -/
def seqD : D → Sto → Option (Bool × List D)
  | .pu (.list xs), _ => some (false, xs.map .pu)
  | .pu (.tuple xs), _ => some (true, xs.map .pu)
  | .wr (.list xs), _ => some (false, xs.map wrD)
  | .wr (.tuple xs), _ => some (true, xs.map wrD)
  | .bo _ (.lst xs), _ => some (false, xs.map .pu)
  | .nw (.lst xs), _ => some (false, xs.map .pu)
  | .rf n, S => match S[n]? with
    | some (.lst ds) => some (false, ds)
    | _ => none
  | _, _ => none
section
variable {X : Cx} {G : Gx} {σ : L2.St} {H : Hp} {e : Envi} {S : Sto} {f : Nat → Addr}
theorem wr_rd {K : PySem.W.Frag} {L : Nat} : ∀ {v : V} {p : P}, RepW K v p → RD K H f L v (wrD p)
  | _, _, .non => Rep.non
  | _, _, .bl b => Rep.bl b
  | _, _, .int i => Rep.int i
  | _, _, .str x => Rep.str x
  | _, _, h@(.lst _ _ _ _ _ _ _) => h
  | _, _, h@(.tup _ _ _ _ _ _ _) => h
theorem wrs_rd {K : PySem.W.Frag} {L : Nat} : ∀ {vs : List V} {ps : List P}, RepWL K vs ps → Paired (RD K H f L) vs (ps.map wrD)
  | _, _, .nil => .nil
  | _, _, .cons h t => .cons (wr_rd h) (wrs_rd t)
theorem reps_rd {K : PySem.W.Frag} {L : Nat} : ∀ {vs : List V} {ps : List P}, RepL H vs ps → Paired (RD K H f L) vs (ps.map .pu)
  | _, _, .nil => .nil
  | _, _, .cons h t => .cons h (reps_rd t)
theorem rd_reps {K : PySem.W.Frag} {L : Nat} : ∀ {vs : List V} {ps : List P}, Paired (RD K H f L) vs (ps.map .pu) → RepL H vs ps
  | _, [], .nil => .nil
  | _, _ :: _, .cons h t => .cons h (rd_reps t)
/-- a sequence as it lies -/
theorem seq_ok (r : R G σ H e S f) {v : V} {d : D} {k : Bool} {ds : List D} (h : RE G σ H e f S.length v d) (hs : seqD d S = some (k, ds)) :
    ∃ a vs, v = .ref a ∧ (k = true → SqT G.K H a vs) ∧ (k = false → SqL G.K H a vs) ∧ Paired (RD G.K H f S.length) vs ds := by
  cases d with
  | pu p =>
    cases p with
    | list xs =>
      cases hs
      cases (show Rep H v (.list xs) from h) with
      | lst h1 h2 => exact ⟨_, _, rfl, fun z => (by cases z), fun _ => h1.sq, reps_rd h2⟩
    | tuple xs =>
      cases hs
      cases (show Rep H v (.tuple xs) from h) with
      | tup h1 h2 => exact ⟨_, _, rfl, fun _ => SqT.of h1, fun z => (by cases z), reps_rd h2⟩
    | _ => cases hs
  | wr p =>
    cases p with
    | list xs =>
      cases hs
      cases (show RepW G.K v (.list xs) from h) with
      | lst h1 h2 h3 h4 h5 h6 h7 => exact ⟨_, _, rfl, fun z => (by cases z), fun _ => .inr ⟨_, _, _, h1, h2, h3, h4, h5, h6⟩, wrs_rd h7⟩
    | tuple xs =>
      cases hs
      cases (show RepW G.K v (.tuple xs) from h) with
      | tup h1 h2 h3 h4 h5 h6 h7 => exact ⟨_, _, rfl, fun _ => .inr ⟨_, _, _, h1, h2, h4, h5, h6⟩, fun z => (by cases z), wrs_rd h7⟩
    | _ => cases hs
  | rf n =>
    unfold seqD at hs
    dsimp only at hs
    obtain ⟨e1, l⟩ := (show v = .ref (f n) ∧ n < S.length from h)
    cases hc : S[n]? with
    | none => rw [hc] at hs; cases hs
    | some c =>
      rw [hc] at hs
      cases c with
      | lst ds' =>
        cases hs
        obtain ⟨vs, h1, h2⟩ := r.cel n _ hc
        exact ⟨f n, vs, e1, fun z => (by cases z), fun _ => SqL.of h1, h2⟩
      | _ => cases hs
  | bo i c =>
    cases c with
    | lst xs =>
      cases hs
      obtain ⟨h1, h2⟩ := (show σ[i]? = some (some v) ∧ e[i]? = some (some (.ow (.lst xs))) from h)
      obtain ⟨a, h3, ⟨vs, h4, h5⟩, _⟩ := r.own i _ h2
      rw [h1] at h3
      cases h3
      exact ⟨a, vs, rfl, fun z => (by cases z), fun _ => SqL.of h4, reps_rd h5⟩
    | dct ps => cases hs
  | nw c =>
    obtain ⟨a, e1, h4, _⟩ := (show ∃ a, v = .ref a ∧ OCok H a c ∧ _ from h)
    cases c with
    | lst xs =>
      cases hs
      obtain ⟨vs, h4, h5⟩ := h4
      exact ⟨a, vs, e1, fun z => (by cases z), fun _ => SqL.of h4, reps_rd h5⟩
    | dct ps => cases hs
theorem atI_map {α β : Type} {F : α → β → Prop} {l : List α} {m : List β} (h : Paired F l m) {i : Int} {b : β} (e : atI m i = some b) : ∃ a, atI l i = some a ∧ F a b := by
  unfold atI at e ⊢
  rw [Paired.length h]
  obtain ⟨j, h1, h2⟩ := Option.bind_eq_some_iff.mp e
  obtain ⟨a, h3, h4⟩ := Paired.get2 h h2
  exact ⟨a, by rw [h1]; exact h3, h4⟩

/-! ### xs[i] -/
def lim : Nat := 16777216
theorem lim_eq : lim = sizeLine := sizeLine_eq.symm
def gIx : D → D → Sto → Option (D × Sto)
  | .pu (.str x), .pu (.int k), S => if x.length ≤ lim then (atI x.cps.toList k).bind fun c => some (.pu (.str ⟨#[c]⟩), S) else none
  | d, .pu (.int k), S => (seqD d S).bind fun q => (atI q.2 k).bind fun z => some (z, S)
  | _, _, _ => none
theorem v_ix (hK : X.K = G.K) : V2 G (rIx X.K) gIx := by
  intro σ H e S f x y dx dy d S' Q r0 rx ry hg q
  have sq : ∀ k, dy = .pu (.int k) → ((seqD dx S).bind fun q => (atI q.2 k).bind fun z => some (z, S)) = some (d, S') → rIx X.K x y H (GQ Q) := by
    intro k hk h
    subst hk
    cases (show Rep H y (.int k) from ry)
    obtain ⟨⟨b, ds⟩, h1, h⟩ := Option.bind_eq_some_iff.mp h
    obtain ⟨z, h2, h⟩ := Option.bind_eq_some_iff.mp h
    cases h
    obtain ⟨a, vs, rfl, ht, hl, hp⟩ := seq_ok r0 rx h1
    obtain ⟨v, h3, h4⟩ := atI_map hp h2
    rw [hK]
    cases b with
    | true => exact .inr (.inl ⟨a, vs, k, v, rfl, rfl, ht rfl, h3, .inl (q v H f r0 (.refl _ _ _) h4.re)⟩)
    | false => exact .inl ⟨a, vs, k, v, rfl, rfl, hl rfl, h3, .inl (q v H f r0 (.refl _ _ _) h4.re)⟩
  cases dy with
  | pu p =>
    cases p with
    | int k =>
      cases dx with
      | pu p2 =>
        cases p2 with
        | str z =>
          cases (show Rep H y (.int k) from ry)
          cases (show Rep H x (.str z) from rx)
          unfold gIx at hg
          dsimp only at hg
          by_cases hz : z.length ≤ lim
          · rw [if_pos hz] at hg
            obtain ⟨c, h1, h2⟩ := Option.bind_eq_some_iff.mp hg
            cases h2
            exact .inr (.inr ⟨z, k, c, rfl, rfl, by rw [← lim_eq]; exact hz, h1, .inl (q _ H f r0 (.refl _ _ _) (.str _))⟩)
          · rw [if_neg hz] at hg
            cases hg
        | _ => exact sq k rfl hg
      | _ => exact sq k rfl hg
    | _ => cases dx with
      | pu p2 => cases p2 <;> cases hg
      | _ => cases hg
  | _ => cases dx with
    | pu p2 => cases p2 <;> cases hg
    | _ => cases hg
theorem d_ix {a b : Expr} {xa xb : Ex} {pos : Pos} (hK : X.K = G.K) (ha : DE X G a xa) (hb : DE X G b xb) (hs : PlainIx b) : DE X G (.Subscript a b pos) (x2 gIx xa xb) :=
  pe_mono (pe_gh (pe_ix ix_seq ha hb hs)) (tE.b2 (v_ix hK))

/-! ### argument lists, built-in calls -/
theorem d_anil : DA X G [] aNil := by
  refine ⟨fun pos pins s σ H Q I hw => pa_nil.run pos pins s σ H Q I ?_⟩
  obtain ⟨e, S, f, r, ds, S', hx, q⟩ := hw
  cases hx
  exact q [] H f r (.refl _ _ _) .nil
theorem d_acons {a : Expr} {es : List Expr} {xa : Ex} {xr : Ax} (ha : DE X G a xa) (hr : DA X G es xr) (hs : starEach (a :: es) X.env = (false, eval a X.env) :: starEach es X.env := by rfl) : DA X G (a :: es) (aCons xa xr) := by
  refine ⟨fun pos pins s σ H Q I hw => (pa_cons ha hr hs).run pos pins s σ H Q I ?_⟩
  obtain ⟨e, S, f, r, ds, S', hx, q⟩ := hw
  unfold aCons at hx
  obtain ⟨⟨d1, S1⟩, h1, hx⟩ := Option.bind_eq_some_iff.mp hx
  obtain ⟨⟨ds2, S2⟩, h2, hx⟩ := Option.bind_eq_some_iff.mp hx
  cases hx
  refine ⟨e, S, f, r, d1, S1, h1, fun v1 H1 f1 r1 n1 p1 => ⟨e, S1, f1, r1, ds2, S2, h2, fun vs H2 f2 r2 n2 p2 => ?_⟩⟩
  exact q _ H2 f2 r2 (n1.trans n2) (.cons (p1.nx n2) p2)
def xA (g : List D → Sto → Option (D × Sto)) (a : Ax) : Ex := fun e S => (a e S).bind fun r => g r.1 r.2
def VA (G : Gx) (r : List V → Hp → VK → Prop) (g : List D → Sto → Option (D × Sto)) : Prop := ∀ σ H e S f vs ds d S' (Q : VK), R G σ H e S f → Paired (RE G σ H e f S.length) vs ds → g ds S = some (d, S') → Fin G σ e H f S S' d Q → r vs H (GQ Q)
theorem tE.bA {a : Ax} {g : List D → Sto → Option (D × Sto)} {r : List V → Hp → VK → Prop} (h : VA G r g) : ∀ σ H Q, tE G (xA g a) σ H Q → tAx G a σ H fun vs H1 => r vs H1 (GQ Q) := by
  intro σ H Q ⟨e, S, f, r0, d, S', hx, q⟩
  unfold xA at hx
  obtain ⟨⟨ds, S1⟩, h1, hx⟩ := Option.bind_eq_some_iff.mp hx
  refine ⟨e, S, f, r0, ds, S1, h1, fun vs H1 f1 r1 n1 p1 => ?_⟩
  exact h σ H1 e S1 f1 vs ds d S' Q r1 p1 hx fun v H2 f2 r2 n2 p2 => q v H2 f2 r2 (n1.trans n2) p2
section
variable {x : Str} {p pos : Pos} {a : Expr} {es : List Expr} {xa : Ax} {g : List D → Sto → Option (D × Sto)} {id T : String} {r : List V → Hp → VK → Prop}
theorem d_callB (hc : CallR X (.builtin id) r) (h : VA G r g) (hg : Gl X x) (hm : X.mg x = none) (hv : bootBuiltins x = some (.builtin id)) (ha : DA X G (a :: es) xa) (hn : x ≠ "__name__" := by decide) (hdb : (x == ("__debug__" : Str)) = false := by decide)
    (he : starEach (a :: es) X.env = (false, eval a X.env) :: starEach es X.env := by rfl) (hpl : (backTo pos (starEach es X.env)).any (·.1) = false := by rfl) : DE X G (.Call (.Name x p) (a :: es) [] pos) (xA g xa) :=
  pe_mono (pe_gh (pe_callB hc hg hm hv ha hn hdb he hpl)) (tE.bA h)
theorem d_callTy (hc : CallR X (.type T) r) (h : VA G r g) (hg : Gl X x) (hm : X.mg x = none) (hv : bootBuiltins x = some (.type T)) (ha : DA X G (a :: es) xa) (hn : x ≠ "__name__" := by decide) (hdb : (x == ("__debug__" : Str)) = false := by decide)
    (he : starEach (a :: es) X.env = (false, eval a X.env) :: starEach es X.env := by rfl) (hpl : (backTo pos (starEach es X.env)).any (·.1) = false := by rfl) : DE X G (.Call (.Name x p) (a :: es) [] pos) (xA g xa) :=
  pe_mono (pe_gh (pe_callTy hc hg hm hv ha hn hdb he hpl)) (tE.bA h)
end
/-- one argument, by data alone -/
def a1 (p : P → Option P) : List D → Sto → Option (D × Sto)
  | [.pu a], S => (p a).bind fun c => some (.pu c, S)
  | _, _ => none
def a2 (p : P → P → Option P) : List D → Sto → Option (D × Sto)
  | [.pu a, .pu b], S => (p a b).bind fun c => some (.pu c, S)
  | _, _ => none
def VPA1 (r : List V → Hp → VK → Prop) (p : P → Option P) : Prop := ∀ H x a c (Q : VK), Rep H x a → p a = some c → (∀ v H', Same H H' → Rep H' v c → Q v H') → r [x] H (GQ Q)
def VPA2 (r : List V → Hp → VK → Prop) (p : P → P → Option P) : Prop := ∀ H x y a b c (Q : VK), Rep H x a → Rep H y b → p a b = some c → (∀ v H', Same H H' → Rep H' v c → Q v H') → r [x, y] H (GQ Q)
theorem VPA1.v {r : List V → Hp → VK → Prop} {p : P → Option P} (h : VPA1 r p) : VA G r (a1 p) := by
  intro σ H e S f vs ds d S' Q r0 rs hg q
  match ds, rs, hg with
  | [.pu a], .cons (a := x) r1 .nil, hg =>
    obtain ⟨c, hc, hd⟩ := Option.bind_eq_some_iff.mp (show (p a).bind _ = _ from hg)
    cases hd
    exact h H x a c Q r1 hc fun v H' s rc => q v H' f (r0.same s) (.of s _ _) rc
theorem VPA2.v {r : List V → Hp → VK → Prop} {p : P → P → Option P} (h : VPA2 r p) : VA G r (a2 p) := by
  intro σ H e S f vs ds d S' Q r0 rs hg q
  match ds, rs, hg with
  | [.pu a, .pu b], .cons (a := x) r1 (.cons (a := y) r2 .nil), hg =>
    obtain ⟨c, hc, hd⟩ := Option.bind_eq_some_iff.mp (show (p a b).bind _ = _ from hg)
    cases hd
    exact h H x y a b c Q r1 r2 hc fun v H' s rc => q v H' f (r0.same s) (.of s _ _) rc

/-! ### len, abs, min, max, int, divmod, sum, all, any -/
def gLen : List D → Sto → Option (D × Sto)
  | [.pu (.str x)], S => if x.length ≤ lim then some (.pu (.int x.length), S) else none
  | [d], S => (seqD d S).bind fun q => some (.pu (.int q.2.length), S)
  | _, _ => none
theorem v_len (hK : X.K = G.K) : VA G (fun xs H Q => ∃ x n, xs = [x] ∧ LenV X.K x H n ∧ Q (.int n) H) gLen := by
  intro σ H e S f vs ds d S' Q r0 rs hg q
  match ds, rs with
  | [dx], .cons (a := x) rx .nil =>
    have sq : ((seqD dx S).bind fun q => some (D.pu (.int q.2.length), S)) = some (d, S') → ∃ y n, [x] = [y] ∧ LenV X.K y H n ∧ GQ Q (.int n) H := by
      intro h
      obtain ⟨⟨b, ds⟩, h1, h⟩ := Option.bind_eq_some_iff.mp h
      cases h
      obtain ⟨a, vs, rfl, ht, hl, hp⟩ := seq_ok r0 rx h1
      rw [hK]
      refine ⟨_, ds.length, rfl, ?_, .inl (q _ H f r0 (.refl _ _ _) (.int _))⟩
      cases b with
      | true => exact .inr ⟨vs, ht rfl, (Paired.length hp).symm⟩
      | false => exact .inl ⟨vs, hl rfl, (Paired.length hp).symm⟩
    cases dx with
    | pu p =>
      cases p with
      | str z =>
        cases (show Rep H x (.str z) from rx)
        unfold gLen at hg
        dsimp only at hg
        by_cases hz : z.length ≤ lim
        · rw [if_pos hz] at hg
          cases hg
          exact ⟨_, z.length, rfl, ⟨by rw [← lim_eq]; exact hz, rfl⟩, .inl (q _ H f r0 (.refl _ _ _) (.int _))⟩
        · rw [if_neg hz] at hg
          cases hg
      | _ => exact sq hg
    | _ => exact sq hg
  | [], _ => cases hg
  | _ :: _ :: _, _ => simp [gLen] at hg
def pAbs : P → Option P
  | .int i => some (.int (if i < 0 then -i else i))
  | _ => none
theorem vp_abs : VPA1 (fun xs H Q => ∃ i, xs = [.int i] ∧ Q (.int (if i < 0 then -i else i)) H) pAbs := by
  intro H x a c Q rx h q
  cases rx with
  | int i => cases h; exact ⟨i, rfl, .inl (q _ H (.refl _) (.int _))⟩
  | _ => cases h
abbrev pMax2 := pI (fun _ _ => true) fun i j => if j > i then j else i
abbrev pMin2 := pI (fun _ _ => true) fun i j => if j < i then j else i
theorem vp_2 {g : Int → Int → Int} : VPA2 (fun xs H Q => ∃ i j, xs = [.int i, .int j] ∧ Q (.int (g i j)) H) (pI (fun _ _ => true) g) := by
  intro H x y a b z Q rx ry h q
  cases rx with
  | int i =>
    cases ry with
    | int j =>
      cases h
      exact ⟨i, j, rfl, .inl (q _ H (.refl _) (.int _))⟩
    | _ => cases h
  | _ => cases h
def pInt : P → Option P
  | .int i => some (.int i)
  | .bool b => some (.int (if b then 1 else 0))
  | _ => none
theorem vp_int : VPA1 (fun xs H Q => (∃ i, xs = [.int i] ∧ Q (.int i) H) ∨ ∃ k, xs = [.bl k] ∧ Q (.int (if k then 1 else 0)) H) pInt := by
  intro H x a c Q rx h q
  cases rx with
  | int i => cases h; exact .inl ⟨i, rfl, .inl (q _ H (.refl _) (.int _))⟩
  | bl b => cases h; exact .inr ⟨b, rfl, .inl (q _ H (.refl _) (.int _))⟩
  | _ => cases h
def pDivmod : P → P → Option P
  | .int i, .int j => if 0 < j ∧ j < 1073741824 then some (.tuple [.int (i / j), .int (i % j)]) else none
  | _, _ => none
theorem vp_divmod : VPA2 (fun xs H Q => ∃ i j, xs = [.int i, .int j] ∧ CDiv i j ∧ ∀ p, H p = none → Q (.ref p) (upd H p (.tup [.int (i / j), .int (i % j)]))) pDivmod := by
  intro H x y a b z Q rx ry h q
  cases rx with
  | int i =>
    cases ry with
    | int j =>
      unfold pDivmod at h
      dsimp only at h
      by_cases hC : 0 < j ∧ j < 1073741824
      · rw [if_pos hC] at h
        cases h
        refine ⟨i, j, rfl, hC, fun p hp => .inl (q _ _ (upd_new hp) (.tup upd_same (.cons (.int _) (.cons (.int _) .nil))))⟩
      · rw [if_neg hC] at h
        cases h
    | _ => cases h
  | _ => cases h
def intsOf : List D → Option (List Int)
  | [] => some []
  | .pu (.int i) :: r => (intsOf r).bind fun is => some (i :: is)
  | _ :: _ => none
def blsOf : List D → Option (List Bool)
  | [] => some []
  | .pu (.bool i) :: r => (blsOf r).bind fun is => some (i :: is)
  | _ :: _ => none
theorem intsOf_ok {K : PySem.W.Frag} {L : Nat} : ∀ {vs : List V} {ds : List D} {is : List Int}, Paired (RD K H f L) vs ds → intsOf ds = some is → vs = is.map V.int
  | _, _, is, .nil, h => by cases h; rfl
  | _, .pu (.int i) :: _, is, .cons h t, hi => by
    obtain ⟨js, h1, h2⟩ := Option.bind_eq_some_iff.mp (show (intsOf _).bind _ = _ from hi)
    cases h2
    cases (show Rep H _ (.int i) from h)
    rw [intsOf_ok t h1]
    rfl
theorem blsOf_ok {K : PySem.W.Frag} {L : Nat} : ∀ {vs : List V} {ds : List D} {is : List Bool}, Paired (RD K H f L) vs ds → blsOf ds = some is → vs = is.map V.bl
  | _, _, is, .nil, h => by cases h; rfl
  | _, .pu (.bool i) :: _, is, .cons h t, hi => by
    obtain ⟨js, h1, h2⟩ := Option.bind_eq_some_iff.mp (show (blsOf _).bind _ = _ from hi)
    cases h2
    cases (show Rep H _ (.bool i) from h)
    rw [blsOf_ok t h1]
    rfl
/-- a function of a list of ints, of bools -/
def gInts (C : List Int → Bool) (g : List Int → Int) : List D → Sto → Option (D × Sto)
  | [d], S => match seqD d S with
    | some (false, ds) => (intsOf ds).bind fun is => if C is then some (.pu (.int (g is)), S) else none
    | _ => none
  | _, _ => none
def gBls (g : List Bool → Bool) : List D → Sto → Option (D × Sto)
  | [d], S => match seqD d S with
    | some (false, ds) => (blsOf ds).bind fun is => some (.pu (.bool (g is)), S)
    | _ => none
  | _, _ => none
theorem v_ints {C : List Int → Bool} {g : List Int → Int} {r : List V → Hp → VK → Prop} (hK : X.K = G.K) (h : ∀ (a : Addr) (is : List Int) H Q, SqL X.K H a (is.map V.int) → C is = true → Q (.int (g is)) H → r [.ref a] H Q) : VA G r (gInts C g) := by
  intro σ H e S f vs ds d S' Q r0 rs hg q
  match ds, rs with
  | [dx], .cons (a := x) rx .nil =>
    unfold gInts at hg
    dsimp only at hg
    cases hs : seqD dx S with
    | none => rw [hs] at hg; cases hg
    | some kd =>
      obtain ⟨k, ds⟩ := kd
      rw [hs] at hg
      cases k with
      | true => cases hg
      | false =>
        obtain ⟨is, h1, h2⟩ := Option.bind_eq_some_iff.mp hg
        obtain ⟨a, vs, rfl, ht, hl, hp⟩ := seq_ok r0 rx hs
        have e1 := intsOf_ok hp h1
        subst e1
        by_cases hC : C is = true
        · rw [if_pos hC] at h2
          cases h2
          exact h a is H _ (by rw [hK]; exact hl rfl) hC (.inl (q _ H f r0 (.refl _ _ _) (.int _)))
        · rw [if_neg hC] at h2
          cases h2
  | [], _ => cases hg
  | _ :: _ :: _, _ => simp [gInts] at hg
theorem v_bls {g : List Bool → Bool} {r : List V → Hp → VK → Prop} (hK : X.K = G.K) (h : ∀ (a : Addr) (is : List Bool) H Q, SqL X.K H a (is.map V.bl) → Q (.bl (g is)) H → r [.ref a] H Q) : VA G r (gBls g) := by
  intro σ H e S f vs ds d S' Q r0 rs hg q
  match ds, rs with
  | [dx], .cons (a := x) rx .nil =>
    unfold gBls at hg
    dsimp only at hg
    cases hs : seqD dx S with
    | none => rw [hs] at hg; cases hg
    | some kd =>
      obtain ⟨k, ds⟩ := kd
      rw [hs] at hg
      cases k with
      | true => cases hg
      | false =>
        obtain ⟨is, h1, h2⟩ := Option.bind_eq_some_iff.mp hg
        obtain ⟨a, vs, rfl, ht, hl, hp⟩ := seq_ok r0 rx hs
        have e1 := blsOf_ok hp h1
        subst e1
        cases h2
        exact h a is H _ (by rw [hK]; exact hl rfl) (.inl (q _ H f r0 (.refl _ _ _) (.bl _)))
  | [], _ => cases hg
  | _ :: _ :: _, _ => simp [gBls] at hg
def maxL : List Int → Int
  | [] => 0
  | [x] => x
  | x :: r => let m := maxL r; if x < m then m else x
def minL : List Int → Int
  | [] => 0
  | [x] => x
  | x :: r => let m := minL r; if m < x then m else x
theorem maxL_cons (x y : Int) (r : List Int) : maxL (x :: y :: r) = if x < maxL (y :: r) then maxL (y :: r) else x := rfl
theorem minL_cons (x y : Int) (r : List Int) : minL (x :: y :: r) = if minL (y :: r) < x then minL (y :: r) else x := rfl
theorem maxL_is : ∀ (x : Int) (r : List Int) (m : Int), m ∈ x :: r → (∀ y ∈ x :: r, y ≤ m) → m = maxL (x :: r)
  | x, [], m, h, _ => by simpa [maxL, minL] using h
  | x, y :: r, m, h, hm => by
    have key : maxL (y :: r) ∈ y :: r ∧ ∀ z ∈ y :: r, z ≤ maxL (y :: r) := by
      clear h hm
      induction r generalizing y with
      | nil => exact ⟨by simp [maxL], by simp [maxL]⟩
      | cons z r ih =>
        obtain ⟨i1, i2⟩ := ih z
        rw [maxL_cons]
        by_cases c : y < maxL (z :: r)
        · rw [if_pos c]
          exact ⟨List.mem_cons_of_mem _ i1, fun w hw => by
            rcases List.mem_cons.mp hw with rfl | hw
            · omega
            · exact i2 w hw⟩
        · rw [if_neg c]
          exact ⟨List.mem_cons_self, fun w hw => by
            rcases List.mem_cons.mp hw with rfl | hw
            · omega
            · have := i2 w hw; omega⟩
    rw [maxL_cons]
    have h1 := hm x List.mem_cons_self
    have h2 := hm _ (List.mem_cons_of_mem x key.1)
    by_cases c : x < maxL (y :: r)
    · rw [if_pos c]
      rcases List.mem_cons.mp h with rfl | h
      · omega
      · have := key.2 m h; omega
    · rw [if_neg c]
      rcases List.mem_cons.mp h with rfl | h
      · rfl
      · have := key.2 m h; omega
theorem minL_is : ∀ (x : Int) (r : List Int) (m : Int), m ∈ x :: r → (∀ y ∈ x :: r, m ≤ y) → m = minL (x :: r)
  | x, [], m, h, _ => by simpa [maxL, minL] using h
  | x, y :: r, m, h, hm => by
    have key : minL (y :: r) ∈ y :: r ∧ ∀ z ∈ y :: r, minL (y :: r) ≤ z := by
      clear h hm
      induction r generalizing y with
      | nil => exact ⟨by simp [minL], by simp [minL]⟩
      | cons z r ih =>
        obtain ⟨i1, i2⟩ := ih z
        rw [minL_cons]
        by_cases c : minL (z :: r) < y
        · rw [if_pos c]
          exact ⟨List.mem_cons_of_mem _ i1, fun w hw => by
            rcases List.mem_cons.mp hw with rfl | hw
            · omega
            · exact i2 w hw⟩
        · rw [if_neg c]
          exact ⟨List.mem_cons_self, fun w hw => by
            rcases List.mem_cons.mp hw with rfl | hw
            · omega
            · have := i2 w hw; omega⟩
    rw [minL_cons]
    have h1 := hm x List.mem_cons_self
    have h2 := hm _ (List.mem_cons_of_mem x key.1)
    by_cases c : minL (y :: r) < x
    · rw [if_pos c]
      rcases List.mem_cons.mp h with rfl | h
      · omega
      · have := key.2 m h; omega
    · rw [if_neg c]
      rcases List.mem_cons.mp h with rfl | h
      · rfl
      · have := key.2 m h; omega
abbrev gSum := gInts (fun _ => true) List.sum
abbrev gMaxL := gInts (fun is => !is.isEmpty) maxL
abbrev gMinL := gInts (fun is => !is.isEmpty) minL
theorem v_sum (hK : X.K = G.K) : VA G (rSum X.K) gSum := v_ints hK fun a is H Q hs _ q => ⟨a, is, rfl, hs, q⟩
theorem v_maxL (hK : X.K = G.K) : VA G (rMax X.K) gMaxL := v_ints hK fun a is H Q hs hC q => by
  cases is with
  | nil => cases hC
  | cons x r => exact ⟨a, x :: r, rfl, hs, Nat.succ_pos _, fun m h1 h2 => by rw [maxL_is x r m h1 h2]; exact q⟩
theorem v_minL (hK : X.K = G.K) : VA G (rMin X.K) gMinL := v_ints hK fun a is H Q hs hC q => by
  cases is with
  | nil => cases hC
  | cons x r => exact ⟨a, x :: r, rfl, hs, Nat.succ_pos _, fun m h1 h2 => by rw [minL_is x r m h1 h2]; exact q⟩
theorem v_all (hK : X.K = G.K) : VA G (rAll X.K) (gBls fun bs => bs.all id) := v_bls hK fun a is H Q hs q => ⟨a, is, rfl, hs, q⟩
theorem v_any (hK : X.K = G.K) : VA G (rAny X.K) (gBls fun bs => bs.any id) := v_bls hK fun a is H Q hs q => ⟨a, is, rfl, hs, q⟩
end
end DL
/-! DL3: equality, tests, slices, displays. -/
namespace DL
open PySem PySem.Spec PyProof.Rows L2

/-! ### plain data of a bounded depth, without dicts -/
def shp : Nat → P → Bool
  | 0, _ => false
  | _ + 1, .none => true
  | _ + 1, .bool _ => true
  | _ + 1, .int _ => true
  | _ + 1, .str x => PyData.strOk x
  | k + 1, .list xs => xs.all (shp k)
  | k + 1, .tuple xs => xs.all (shp k)
  | _ + 1, .dict _ => false
theorem shp_all {k : Nat} (ih : ∀ p, shp k p = true → p.canLay0 = true ∧ p.depth ≤ k) : ∀ xs : List P, xs.all (shp k) = true → PyData.canLayAll0 xs = true ∧ PyData.depthAll xs ≤ k
  | [], _ => ⟨by simp [PyData.canLayAll0], by simp [PyData.depthAll]⟩
  | x :: xs, h => by
    rw [List.all_cons, Bool.and_eq_true] at h
    obtain ⟨a1, a2⟩ := ih x h.1
    obtain ⟨b1, b2⟩ := shp_all ih xs h.2
    exact ⟨by rw [PyData.canLayAll0, a1, b1]; rfl, by rw [PyData.depthAll]; omega⟩
theorem shp_ok : ∀ (k : Nat) (p : P), shp k p = true → p.canLay0 = true ∧ p.depth ≤ k
  | 0, _, h => by cases h
  | k + 1, .none, _ => ⟨by simp [PyData.canLay0], by simp [PyData.depth]⟩
  | k + 1, .bool _, _ => ⟨by simp [PyData.canLay0], by simp [PyData.depth]⟩
  | k + 1, .int _, _ => ⟨by simp [PyData.canLay0], by simp [PyData.depth]⟩
  | k + 1, .str x, h => ⟨by rw [PyData.canLay0]; exact h, by simp [PyData.depth]⟩
  | k + 1, .list xs, h => by
    obtain ⟨a, b⟩ := shp_all (shp_ok k) xs h
    exact ⟨by rw [PyData.canLay0]; exact a, by rw [PyData.depth]; omega⟩
  | k + 1, .tuple xs, h => by
    obtain ⟨a, b⟩ := shp_all (shp_ok k) xs h
    exact ⟨by rw [PyData.canLay0]; exact a, by rw [PyData.depth]; omega⟩
  | k + 1, .dict _, h => by cases h
theorem shp_shaped {p : P} (h : shp 9 p = true) : SeqAt.shaped p = true := by
  obtain ⟨a, b⟩ := shp_ok 9 p h
  unfold SeqAt.shaped
  rw [a, decide_eq_true (show p.depth ≤ 64 by omega)]
  rfl
mutual
theorem Rep.dp {K : PySem.W.Frag} {H : Hp} : ∀ {v : V} {p : P}, Rep H v p → p.canLay0 = true → Dp K H v p
  | _, _, .non, _ => .non
  | _, _, .bl b, _ => .bl b
  | _, _, .int i, _ => .int i
  | _, _, .str x, _ => .str x
  | _, _, .lst h hs, c => .lst h.sq (RepL.dp hs (by simpa [PyData.canLay0] using c))
  | _, _, .tup h hs, c => .tup (SqT.of h) (RepL.dp hs (by simpa [PyData.canLay0] using c))
  | _, _, .dct _ _ _ _ _, c => absurd c (by simp [PyData.canLay0])
theorem RepL.dp {K : PySem.W.Frag} {H : Hp} : ∀ {vs : List V} {ps : List P}, RepL H vs ps → PyData.canLayAll0 ps = true → DpAll K H vs ps
  | _, _, .nil, _ => .nil
  | _, _, .cons h t, c => by
    rw [PyData.canLayAll0, Bool.and_eq_true] at c
    exact .cons (Rep.dp h c.1) (RepL.dp t c.2)
end
mutual
theorem RepW.dp {K : PySem.W.Frag} {H : Hp} : ∀ {v : V} {p : P}, RepW K v p → Dp K H v p
  | _, _, .non => .non
  | _, _, .bl b => .bl b
  | _, _, .int i => .int i
  | _, _, .str x => .str x
  | _, _, .lst h1 h2 h3 h4 h5 h6 hs => .lst (.inr ⟨_, _, _, h1, h2, h3, h4, h5, h6⟩) (RepWL.dp hs)
  | _, _, .tup h1 h2 h3 h4 h5 h6 hs => .tup (.inr ⟨_, _, _, h1, h2, h4, h5, h6⟩) (RepWL.dp hs)
theorem RepWL.dp {K : PySem.W.Frag} {H : Hp} : ∀ {vs : List V} {ps : List P}, RepWL K vs ps → DpAll K H vs ps
  | _, _, .nil => .nil
  | _, _, .cons h t => .cons (RepW.dp h) (RepWL.dp t)
end
/-- the data of what is no cell -/
def datD : D → Option P
  | .pu p => some p
  | .wr p => some p
  | .bo _ (.lst xs) => some (.list xs)
  | .nw (.lst xs) => some (.list xs)
  | _ => none
def pusOf : List D → Option (List P)
  | [] => some []
  | .pu p :: r => (pusOf r).bind fun ps => some (p :: ps)
  | _ :: _ => none
theorem pusOf_eq : ∀ {ds : List D} {ps : List P}, pusOf ds = some ps → ds = ps.map .pu
  | [], _, h => by cases h; rfl
  | .pu p :: r, ps, h => by
    obtain ⟨qs, h1, h2⟩ := Option.bind_eq_some_iff.mp (show (pusOf r).bind _ = _ from h)
    cases h2
    rw [pusOf_eq h1]
    rfl
def datS (d : D) (S : Sto) : Option P := match d with
  | .rf n => match S[n]? with
    | some (.lst ds) => (pusOf ds).bind fun ps => some (.list ps)
    | _ => none
  | d => datD d
section
variable {X : Cx} {G : Gx} {σ : L2.St} {H : Hp} {e : Envi} {S : Sto} {f : Nat → Addr}
theorem dat_dp (r : R G σ H e S f) {v : V} {d : D} {p : P} (h : RE G σ H e f S.length v d) (hd : datS d S = some p) (c : p.canLay0 = true) : Dp G.K H v p := by
  cases d with
  | pu q => cases hd; exact Rep.dp h c
  | wr q => cases hd; exact RepW.dp h
  | rf n =>
    unfold datS at hd
    dsimp only at hd
    obtain ⟨e1, l⟩ := (show v = .ref (f n) ∧ n < S.length from h)
    cases hc : S[n]? with
    | none => rw [hc] at hd; cases hd
    | some cc =>
      rw [hc] at hd
      cases cc with
      | lst ds' =>
        obtain ⟨ps, h1, h2⟩ := Option.bind_eq_some_iff.mp hd
        cases h2
        have e2 := pusOf_eq h1
        subst e2
        obtain ⟨vs, h3, h4⟩ := r.cel n _ hc
        subst e1
        exact .lst (SqL.of h3) (RepL.dp (rd_reps h4) (by simpa [PyData.canLay0] using c))
      | _ => cases hd
  | bo i cc =>
    cases cc with
    | lst xs =>
      cases hd
      obtain ⟨h1, h2⟩ := (show σ[i]? = some (some v) ∧ e[i]? = some (some (.ow (.lst xs))) from h)
      obtain ⟨a, h3, ⟨vs, h4, h5⟩, _⟩ := r.own i _ h2
      rw [h1] at h3
      cases h3
      exact .lst (SqL.of h4) (RepL.dp h5 (by simpa [PyData.canLay0] using c))
    | dct ps => cases hd
  | nw cc =>
    obtain ⟨a, e1, h4, _⟩ := (show ∃ a, v = .ref a ∧ OCok H a cc ∧ _ from h)
    subst e1
    cases cc with
    | lst xs =>
      cases hd
      obtain ⟨vs, h4, h5⟩ := h4
      exact .lst (SqL.of h4) (RepL.dp h5 (by simpa [PyData.canLay0] using c))
    | dct ps => cases hd

/-! ### == and != -/
def gEq (neg : Bool) (d1 d2 : D) (S : Sto) : Option (D × Sto) := (datS d1 S).bind fun a => (datS d2 S).bind fun b => if shp 9 a && shp 9 b then some (.pu (.bool (if neg then !PyData.eqv a b else PyData.eqv a b)), S) else none
theorem v_eq (hK : X.K = G.K) : V2 G (rEqD X.K) (gEq false) := by
  intro σ H e S f x y dx dy d S' Q r0 rx ry hg q
  obtain ⟨a, h1, hg⟩ := Option.bind_eq_some_iff.mp hg
  obtain ⟨b, h2, hg⟩ := Option.bind_eq_some_iff.mp hg
  by_cases c : (shp 9 a && shp 9 b) = true
  · rw [if_pos c] at hg
    cases hg
    rw [Bool.and_eq_true] at c
    rw [hK]
    exact ⟨a, b, dat_dp r0 rx h1 (shp_ok _ _ c.1).1, dat_dp r0 ry h2 (shp_ok _ _ c.2).1, shp_shaped c.1, shp_shaped c.2, .inl (q _ H f r0 (.refl _ _ _) (.bl _))⟩
  · rw [if_neg c] at hg
    cases hg
theorem v_ne (hK : X.K = G.K) : V2 G (rNeD X.K) (gEq true) := by
  intro σ H e S f x y dx dy d S' Q r0 rx ry hg q
  obtain ⟨a, h1, hg⟩ := Option.bind_eq_some_iff.mp hg
  obtain ⟨b, h2, hg⟩ := Option.bind_eq_some_iff.mp hg
  by_cases c : (shp 9 a && shp 9 b) = true
  · rw [if_pos c] at hg
    cases hg
    rw [Bool.and_eq_true] at c
    rw [hK]
    exact ⟨a, b, dat_dp r0 rx h1 (shp_ok _ _ c.1).1, dat_dp r0 ry h2 (shp_ok _ _ c.2).1, shp_shaped c.1, shp_shaped c.2, .inl (q _ H f r0 (.refl _ _ _) (.bl _))⟩
  · rw [if_neg c] at hg
    cases hg
/-- is None, is not None -/
def gIsN (neg : Bool) : D → D → Sto → Option (D × Sto)
  | .pu .none, .pu .none, S => some (.pu (.bool (!neg)), S)
  | .pu _, .pu .none, S => some (.pu (.bool neg), S)
  | .rf _, .pu .none, S => some (.pu (.bool neg), S)
  | .bo _ _, .pu .none, S => some (.pu (.bool neg), S)
  | _, _, _ => none
theorem gIsN_ok {neg : Bool} {dx dy d : D} {S S' : Sto} (r : R G σ H e S f) {x y : V} (rx : RE G σ H e f S.length x dx) (ry : RE G σ H e f S.length y dy) (h : gIsN neg dx dy S = some (d, S')) : y = .non ∧ S' = S ∧ d = .pu (.bool (if neg then !decide (x = .non) else decide (x = .non))) := by
  have yn : dy = .pu .none := by
    unfold gIsN at h
    split at h <;> first | rfl | cases h
  subst yn
  cases (show Rep H y .none from ry)
  refine ⟨rfl, ?_⟩
  cases dx with
  | pu p =>
    cases (show Rep H x p from rx) <;> (simp only [gIsN, Option.some.injEq, Prod.mk.injEq] at h; obtain ⟨h1, h2⟩ := h; subst h1; subst h2; cases neg <;> simp)
  | wr p => simp [gIsN] at h
  | rf n =>
    obtain ⟨e1, _⟩ := (show x = .ref (f n) ∧ n < S.length from rx)
    subst e1
    simp only [gIsN, Option.some.injEq, Prod.mk.injEq] at h
    obtain ⟨h1, h2⟩ := h
    subst h1; subst h2
    cases neg <;> simp
  | bo i c =>
    obtain ⟨h1, h2⟩ := (show σ[i]? = some (some x) ∧ e[i]? = some (some (.ow c)) from rx)
    obtain ⟨a, h3, _⟩ := r.own i _ h2
    rw [h1] at h3
    cases h3
    simp only [gIsN, Option.some.injEq, Prod.mk.injEq] at h
    obtain ⟨h1, h2⟩ := h
    subst h1; subst h2
    cases neg <;> simp
  | nw c => simp [gIsN] at h
theorem v_isN : V2 G (fun x y H Q => y = .non ∧ Q (.bl (decide (x = .non))) H) (gIsN false) := by
  intro σ H e S f x y dx dy d S' Q r0 rx ry hg q
  obtain ⟨rfl, rfl, rfl⟩ := gIsN_ok r0 rx ry hg
  exact ⟨rfl, .inl (q _ H f r0 (.refl _ _ _) (.bl _))⟩
theorem v_notN : V2 G (fun x y H Q => y = .non ∧ Q (.bl (!decide (x = .non))) H) (gIsN true) := by
  intro σ H e S f x y dx dy d S' Q r0 rx ry hg q
  obtain ⟨rfl, rfl, rfl⟩ := gIsN_ok r0 rx ry hg
  exact ⟨rfl, .inl (q _ H f r0 (.refl _ _ _) (.bl _))⟩

/-! ### freezing behind an operator's rule -/
theorem opG {g : Value → Value → Sem Value} {r : R2} (h : OpR X g r) : OpR X g (fun x y H Q => r x y H (GQ Q)) := by
  intro pins s σ H x y v u Q I rx ry q
  refine thn (h pins s σ H x y v u _ I rx ry q) fun u s1 ⟨v, H1, I1, r1, q⟩ => ?_
  rcases q with q | ⟨a, w, rfl, ha, mu, q⟩
  · exact ⟨v, H1, I1, r1, q⟩
  · obtain ⟨od, I2⟩ := I1.lock ha mu
    exact ⟨_, _, I2, r1, q od⟩

/-! ### tests -/
def tOfE (x : Ex) : Tx := fun e S => (x e S).bind fun r => match r.1 with
  | .pu (.bool b) => some (b, r.2)
  | _ => none
def tNotX (t : Tx) : Tx := fun e S => (t e S).bind fun r => some (!r.1, r.2)
def tAndX (t u : Tx) : Tx := fun e S => (t e S).bind fun r => if r.1 then u e r.2 else some (false, r.2)
def tOrX (t u : Tx) : Tx := fun e S => (t e S).bind fun r => if r.1 then some (true, r.2) else u e r.2
theorem tofE {x : Ex} {Q : Bool → Hp → Prop} (h : tTx G (tOfE x) σ H Q) : tE G x σ H fun v H' => ∃ k, v = .bl k ∧ Q k H' := by
  obtain ⟨e, S, f, r0, b, S', hx, q⟩ := h
  unfold tOfE at hx
  obtain ⟨⟨d, S1⟩, h1, hx⟩ := Option.bind_eq_some_iff.mp hx
  match d, hx with
  | .pu (.bool b'), hx =>
    cases hx
    refine ⟨e, S, f, r0, _, _, h1, fun v H' f' r1 n1 p1 => ?_⟩
    cases (show Rep H' v (.bool b) from p1)
    exact ⟨b, rfl, q H' f' r1 n1⟩
/-- an expression as a test -/
theorem d_test {a : Expr} {x : Ex} (h : DE X G a x) (he : ∀ whole, isTrue a X.env whole = (do let v ← whole; standAt a.pos; holding [v] (truthy v)) := by intro _; rfl) : DT X G a (tOfE x) :=
  pt_mono (pt_val h he) fun σ H Q h => tofE h
theorem d_cmpT {op : CmpOp} {r : R2} {g : D → D → Sto → Option (D × Sto)} {a b : Expr} {xa xb : Ex} {pos : Pos} (ho : OpR X (compareOp op) r) (h : V2 G r g) (ha : DE X G a xa) (hb : DE X G b xb) (hm : behindInMarks op b = false) : DT X G (.Compare a [op] [b] pos) (tOfE (x2 g xa xb)) :=
  pt_mono (pt_cmpR (opG ho) ha hb hm) fun σ H Q hh => by
    have q := tE.b2 (r := r) h σ H _ (tofE hh)
    exact q
theorem d_notT {a : Expr} {t : Tx} {pos : Pos} (h : DT X G a t) : DT X G (.UnaryOp .Not a pos) (tNotX t) :=
  pt_mono (pt_not h) fun σ H Q hh => by
    obtain ⟨e, S, f, r0, b, S', hx, q⟩ := hh
    obtain ⟨⟨c, S1⟩, h1, hx⟩ := Option.bind_eq_some_iff.mp hx
    cases hx
    exact ⟨e, S, f, r0, c, S1, h1, q⟩
theorem d_and1 {a : Expr} {t : Tx} {pos : Pos} (h : DT X G a t) : DW X G (.BoolOp .And [a] pos) t := pw_and1 h
theorem d_or1 {a : Expr} {t : Tx} {pos : Pos} (h : DT X G a t) : DW X G (.BoolOp .Or [a] pos) t := pw_or1 h
theorem d_andT {a b : Expr} {rest : List Expr} {t u : Tx} {pos : Pos} (h : DT X G a t) (h2 : DW X G (.BoolOp .And (b :: rest) pos) u) : DW X G (.BoolOp .And (a :: b :: rest) pos) (tAndX t u) := by
  refine ⟨fun wh pins s σ H Q I hh => (pw_and h h2).run wh pins s σ H Q I ?_⟩
  obtain ⟨e, S, f, r0, c, S', hx, q⟩ := hh
  obtain ⟨⟨c1, S1⟩, h1, hx⟩ := Option.bind_eq_some_iff.mp hx
  refine ⟨e, S, f, r0, c1, S1, h1, fun H1 f1 r1 n1 => ?_⟩
  cases c1 with
  | true =>
    rw [if_pos rfl]
    exact ⟨e, S1, f1, r1, c, S', hx, fun H2 f2 r2 n2 => q H2 f2 r2 (n1.trans n2)⟩
  | false =>
    rw [if_neg Bool.false_ne_true]
    cases hx
    exact q H1 f1 r1 n1
theorem d_orT {a b : Expr} {rest : List Expr} {t u : Tx} {pos : Pos} (h : DT X G a t) (h2 : DW X G (.BoolOp .Or (b :: rest) pos) u) : DW X G (.BoolOp .Or (a :: b :: rest) pos) (tOrX t u) := by
  refine ⟨fun wh pins s σ H Q I hh => (pw_or h h2).run wh pins s σ H Q I ?_⟩
  obtain ⟨e, S, f, r0, c, S', hx, q⟩ := hh
  obtain ⟨⟨c1, S1⟩, h1, hx⟩ := Option.bind_eq_some_iff.mp hx
  refine ⟨e, S, f, r0, c1, S1, h1, fun H1 f1 r1 n1 => ?_⟩
  cases c1 with
  | true =>
    rw [if_pos rfl]
    cases hx
    exact q H1 f1 r1 n1
  | false =>
    rw [if_neg Bool.false_ne_true]
    exact ⟨e, S1, f1, r1, c, S', hx, fun H2 f2 r2 n2 => q H2 f2 r2 (n1.trans n2)⟩
/-! ### and, or, not as values (bools) -/
def xAndX (a b : Ex) : Ex := fun e S => (a e S).bind fun r => match r.1 with
  | .pu (.bool c) => if c then b e r.2 else some (.pu (.bool false), r.2)
  | _ => none
def xOrX (a b : Ex) : Ex := fun e S => (a e S).bind fun r => match r.1 with
  | .pu (.bool c) => if c then some (.pu (.bool true), r.2) else b e r.2
  | _ => none
def gNot : D → Sto → Option (D × Sto)
  | .pu (.bool c), S => some (.pu (.bool (!c)), S)
  | _, _ => none
theorem d_one {op} {a : Expr} {x : Ex} {pos : Pos} (h : DE X G a x) : DE X G (.BoolOp op [a] pos) x := pe_one h
theorem d_and {a b : Expr} {rest : List Expr} {xa xb : Ex} {pos : Pos} (ha : DE X G a xa) (hb : DE X G (.BoolOp .And (b :: rest) pos) xb) : DE X G (.BoolOp .And (a :: b :: rest) pos) (xAndX xa xb) :=
  pe_mono (pe_and ha hb) fun σ H Q hh => by
    obtain ⟨e, S, f, r0, d, S', hx, q⟩ := hh
    obtain ⟨⟨d1, S1⟩, h1, hx⟩ := Option.bind_eq_some_iff.mp hx
    match d1, hx with
    | .pu (.bool c), hx =>
      refine ⟨e, S, f, r0, _, S1, h1, fun v H1 f1 r1 n1 p1 => ?_⟩
      cases (show Rep H1 v (.bool c) from p1)
      refine ⟨c, rfl, ?_⟩
      dsimp only at hx
      cases c with
      | true =>
        rw [if_pos rfl]
        exact ⟨e, S1, f1, r1, d, S', hx, fun v H2 f2 r2 n2 p2 => q v H2 f2 r2 (n1.trans n2) p2⟩
      | false =>
        rw [if_neg Bool.false_ne_true]
        cases hx
        exact q _ H1 f1 r1 n1 (.bl false)
theorem d_or {a b : Expr} {rest : List Expr} {xa xb : Ex} {pos : Pos} (ha : DE X G a xa) (hb : DE X G (.BoolOp .Or (b :: rest) pos) xb) : DE X G (.BoolOp .Or (a :: b :: rest) pos) (xOrX xa xb) :=
  pe_mono (pe_or ha hb) fun σ H Q hh => by
    obtain ⟨e, S, f, r0, d, S', hx, q⟩ := hh
    obtain ⟨⟨d1, S1⟩, h1, hx⟩ := Option.bind_eq_some_iff.mp hx
    match d1, hx with
    | .pu (.bool c), hx =>
      refine ⟨e, S, f, r0, _, S1, h1, fun v H1 f1 r1 n1 p1 => ?_⟩
      cases (show Rep H1 v (.bool c) from p1)
      refine ⟨c, rfl, ?_⟩
      dsimp only at hx
      cases c with
      | true =>
        rw [if_pos rfl]
        cases hx
        exact q _ H1 f1 r1 n1 (.bl true)
      | false =>
        rw [if_neg Bool.false_ne_true]
        exact ⟨e, S1, f1, r1, d, S', hx, fun v H2 f2 r2 n2 p2 => q v H2 f2 r2 (n1.trans n2) p2⟩
theorem d_not {a : Expr} {xa : Ex} {pos : Pos} (ha : DE X G a xa) : DE X G (.UnaryOp .Not a pos) (x1 gNot xa) :=
  pe_mono (pe_not ha) fun σ H Q hh => by
    obtain ⟨e, S, f, r0, d, S', hx, q⟩ := hh
    obtain ⟨⟨d1, S1⟩, h1, hx⟩ := Option.bind_eq_some_iff.mp hx
    match d1, hx with
    | .pu (.bool c), hx =>
      cases hx
      refine ⟨e, S, f, r0, _, S1, h1, fun v H1 f1 r1 n1 p1 => ?_⟩
      cases (show Rep H1 v (.bool c) from p1)
      exact ⟨c, rfl, q _ H1 f1 r1 n1 (.bl _)⟩
def xIte (t : Tx) (a b : Ex) : Ex := fun e S => (t e S).bind fun r => if r.1 then a e r.2 else b e r.2
theorem d_ite {c a b : Expr} {t : Tx} {xa xb : Ex} {pos : Pos} (hc : DT X G c t) (ha : DE X G a xa) (hb : DE X G b xb) : DE X G (.IfExp c a b pos) (xIte t xa xb) :=
  pe_mono (pe_ifExp hc ha hb) fun σ H Q hh => by
    obtain ⟨e, S, f, r0, d, S', hx, q⟩ := hh
    obtain ⟨⟨c1, S1⟩, h1, hx⟩ := Option.bind_eq_some_iff.mp hx
    refine ⟨e, S, f, r0, c1, S1, h1, fun H1 f1 r1 n1 => ?_⟩
    cases c1 with
    | true =>
      rw [if_pos rfl]
      exact ⟨e, S1, f1, r1, d, S', hx, fun v H2 f2 r2 n2 p2 => q v H2 f2 r2 (n1.trans n2) p2⟩
    | false =>
      rw [if_neg Bool.false_ne_true]
      exact ⟨e, S1, f1, r1, d, S', hx, fun v H2 f2 r2 n2 p2 => q v H2 f2 r2 (n1.trans n2) p2⟩
/-! ### a op b op' c -/
def xChain (g g' : D → D → Sto → Option (D × Sto)) (a b c : Ex) : Ex := fun e S => (a e S).bind fun r => (b e r.2).bind fun q => (g r.1 q.1 q.2).bind fun z => match z.1 with
  | .pu (.bool k) => if k then (c e z.2).bind fun w => g' q.1 w.1 w.2 else some (.pu (.bool false), z.2)
  | _ => none
theorem tE.bC {g g' : D → D → Sto → Option (D × Sto)} {r r' : R2} {xa xb xc : Ex} (h : V2 G r g) (h' : V2 G r' g') : ∀ σ H Q, tE G (xChain g g' xa xb xc) σ H Q → tChain (fun x y H Q => r x y H (GQ Q)) (fun x y H Q => r' x y H (GQ Q)) (tE G xa) (tE G xb) (tE G xc) σ H Q := by
  intro σ H Q ⟨e, S, f, r0, d, S', hx, q⟩
  obtain ⟨⟨d1, S1⟩, h1, hx⟩ := Option.bind_eq_some_iff.mp hx
  obtain ⟨⟨d2, S2⟩, h2, hx⟩ := Option.bind_eq_some_iff.mp hx
  obtain ⟨⟨d3, S3⟩, h3, hx⟩ := Option.bind_eq_some_iff.mp hx
  refine ⟨e, S, f, r0, d1, S1, h1, fun v1 H1 f1 r1 n1 p1 => ⟨e, S1, f1, r1, d2, S2, h2, fun v2 H2 f2 r2 n2 p2 => ?_⟩⟩
  match d3, hx with
  | .pu (.bool k), hx =>
    refine h σ H2 e S2 f2 v1 v2 d1 d2 _ S3 _ r2 (p1.nx n2) p2 h3 fun v3 H3 f3 r3 n3 p3 => ?_
    cases (show Rep H3 v3 (.bool k) from p3)
    refine ⟨k, rfl, ?_⟩
    dsimp only at hx
    cases k with
    | true =>
      rw [if_pos rfl] at hx ⊢
      obtain ⟨⟨d4, S4⟩, h4, hx⟩ := Option.bind_eq_some_iff.mp hx
      refine ⟨e, S3, f3, r3, d4, S4, h4, fun v4 H4 f4 r4 n4 p4 => ?_⟩
      exact h' σ H4 e S4 f4 v2 v4 d2 d4 d S' Q r4 (p2.nx (n3.trans n4)) p4 hx fun v5 H5 f5 r5 n5 p5 => q v5 H5 f5 r5 ((((n1.trans n2).trans n3).trans n4).trans n5) p5
    | false =>
      rw [if_neg Bool.false_ne_true] at hx ⊢
      cases hx
      exact q _ H3 f3 r3 ((n1.trans n2).trans n3) (.bl false)
theorem d_chain {op op' : CmpOp} {r r' : R2} {g g' : D → D → Sto → Option (D × Sto)} {a b c : Expr} {xa xb xc : Ex} {pos : Pos} (ho : OpR X (compareOp op) r) (h : V2 G r g) (ho' : OpR X (compareOp op') r') (h' : V2 G r' g') (ha : DE X G a xa) (hb : DE X G b xb) (hc : DE X G c xc)
    (hm : lastMarks [op, op'] [b, c] = false := by with_unfolding_all rfl) : DE X G (.Compare a [op, op'] [b, c] pos) (xChain g g' xa xb xc) :=
  pe_mono (pe_chain (opG ho) (opG ho') ha hb hc hm) (tE.bC h h')
theorem d_chainT {op op' : CmpOp} {r r' : R2} {g g' : D → D → Sto → Option (D × Sto)} {a b c : Expr} {xa xb xc : Ex} {pos : Pos} (ho : OpR X (compareOp op) r) (h : V2 G r g) (ho' : OpR X (compareOp op') r') (h' : V2 G r' g') (ha : DE X G a xa) (hb : DE X G b xb) (hc : DE X G c xc)
    (hm : lastMarks [op, op'] [b, c] = false := by with_unfolding_all rfl) : DT X G (.Compare a [op, op'] [b, c] pos) (tOfE (xChain g g' xa xb xc)) :=
  pt_mono (pt_chain (opG ho) (opG ho') ha hb hc hm) fun σ H Q hh => tE.bC h h' σ H _ (tofE hh)
end
end DL
/-! DL4: list(..), tuple(..), slices, displays, cells, +, in, isinstance, calls of defs. -/
namespace DL
open PySem PySem.Spec PyProof.Rows L2
section
variable {X : Cx} {G : Gx} {σ : L2.St} {H : Hp} {e : Envi} {S : Sto} {f : Nat → Addr}

/-! ### new frozen things -/
theorem fz_new {p : Addr} {u : HO} {od : Obj} (h : H p = none) : Same H (upd (upd H p u) p (.frz od u)) := by
  rw [upd_upd]
  exact upd_new h
/-- a new list is frozen -/
theorem lst_fin {p : Addr} {vs : List V} {ps : List P} {Q : VK} (h : H p = none) (r : RepL H vs ps) (q : ∀ v H', Same H H' → Rep H' v (.list ps) → Q v H') : GQ Q (.ref p) (upd H p (.lst vs)) :=
  .inr ⟨p, .lst vs, rfl, upd_same, trivial, fun od => q _ _ (fz_new h) (.lst ⟨od, upd_same⟩ (RepL.ext (.of (fz_new h)) r))⟩
theorem tup_fin {p : Addr} {vs : List V} {ps : List P} {Q : VK} (h : H p = none) (r : RepL H vs ps) (q : ∀ v H', Same H H' → Rep H' v (.tuple ps) → Q v H') : GQ Q (.ref p) (upd H p (.tup vs)) :=
  .inl (q _ _ (upd_new h) (.tup upd_same (RepL.ext (.of (upd_new h)) r)))
/-- a new list as a cell -/
theorem cel_fin {p : Addr} {vs : List V} {ds : List D} {Q : VK} (r0 : R G σ H e S f) (h : H p = none) (r : Paired (RD G.K H f S.length) vs ds) (q : Fin G σ e H f S (S ++ [.lst ds]) (.rf S.length) Q) : GQ Q (.ref p) (upd H p (.lst vs)) := by
  have x := nx_alloc (H := H) (f := f) (o := .lst vs) S.length h
  refine .inl (q _ _ (put1 f S.length p) (r0.alloc h ⟨vs, upd_same, Paired.mapP r fun _ _ => RD.nx x⟩) (by rw [len1]; exact x) ⟨by rw [put1_at], by rw [len1]; exact Nat.lt_succ_self _⟩)

/-! ### list(x), tuple(x) -/
def gList : List D → Sto → Option (D × Sto)
  | [d], S => (seqD d S).bind fun q => (pusOf q.2).bind fun ps => some (.pu (.list ps), S)
  | _, _ => none
/-- the same as a cell -/
def gListC : List D → Sto → Option (D × Sto)
  | [d], S => (seqD d S).bind fun q => some (.rf S.length, S ++ [.lst q.2])
  | _, _ => none
def gTuple : List D → Sto → Option (D × Sto)
  | [d], S => (seqD d S).bind fun q => (pusOf q.2).bind fun ps => some (.pu (.tuple ps), S)
  | _, _ => none
theorem sq_or {k : Bool} {a : Addr} {vs : List V} (ht : k = true → SqT G.K H a vs) (hl : k = false → SqL G.K H a vs) : SqL G.K H a vs ∨ SqT G.K H a vs := by
  cases k with
  | true => exact .inr (ht rfl)
  | false => exact .inl (hl rfl)
theorem v_list (hK : X.K = G.K) : VA G (fun xs H Q => ∃ p ys, xs = [.ref p] ∧ (SqL X.K H p ys ∨ SqT X.K H p ys) ∧ ∀ l, H l = none → Q (.ref l) (upd H l (.lst ys))) gList := by
  intro σ H e S f vs ds d S' Q r0 rs hg q
  match ds, rs with
  | [dx], .cons (a := x) rx .nil =>
    obtain ⟨⟨k, is⟩, h1, hg⟩ := Option.bind_eq_some_iff.mp (show (seqD dx S).bind _ = _ from hg)
    obtain ⟨ps, h2, hg⟩ := Option.bind_eq_some_iff.mp hg
    cases hg
    have e2 := pusOf_eq h2
    dsimp only at e2
    subst e2
    obtain ⟨a, us, rfl, ht, hl, hp⟩ := seq_ok r0 rx h1
    rw [hK]
    exact ⟨a, us, rfl, sq_or ht hl, fun l nl => lst_fin nl (rd_reps hp) fun v H' s rv => q v H' f (r0.same s) (.of s _ _) rv⟩
  | [], _ => cases hg
  | _ :: _ :: _, _ => simp [gList] at hg
theorem v_listC (hK : X.K = G.K) : VA G (fun xs H Q => ∃ p ys, xs = [.ref p] ∧ (SqL X.K H p ys ∨ SqT X.K H p ys) ∧ ∀ l, H l = none → Q (.ref l) (upd H l (.lst ys))) gListC := by
  intro σ H e S f vs ds d S' Q r0 rs hg q
  match ds, rs with
  | [dx], .cons (a := x) rx .nil =>
    obtain ⟨⟨k, is⟩, h1, hg⟩ := Option.bind_eq_some_iff.mp (show (seqD dx S).bind _ = _ from hg)
    cases hg
    obtain ⟨a, us, rfl, ht, hl, hp⟩ := seq_ok r0 rx h1
    rw [hK]
    exact ⟨a, us, rfl, sq_or ht hl, fun l nl => cel_fin r0 nl hp q⟩
  | [], _ => cases hg
  | _ :: _ :: _, _ => simp [gListC] at hg
theorem v_tuple (hK : X.K = G.K) : VA G (fun xs H Q => ∃ p ys, xs = [.ref p] ∧ ((SqL X.K H p ys ∧ ∀ l, H l = none → Q (.ref l) (upd H l (.tup ys))) ∨ (SqT X.K H p ys ∧ Q (.ref p) H))) (fun ds S => match ds with
    | [.wr _] => none
    | ds => gTuple ds S) := by
  intro σ H e S f vs ds d S' Q r0 rs hg q
  match ds, rs with
  | [dx], .cons (a := x) rx .nil =>
    have hg' : (seqD dx S).bind (fun q => (pusOf q.2).bind fun ps => some (D.pu (.tuple ps), S)) = some (d, S') := by
      cases dx with
      | wr p => cases hg
      | _ => exact hg
    have nw : ∀ p, dx ≠ .wr p := fun p z => by subst z; cases hg
    obtain ⟨⟨k, is⟩, h1, hg⟩ := Option.bind_eq_some_iff.mp hg'
    obtain ⟨ps, h2, hg⟩ := Option.bind_eq_some_iff.mp hg
    cases hg
    have e2 := pusOf_eq h2
    dsimp only at e2
    subst e2
    obtain ⟨a, us, rfl, ht, hl, hp⟩ := seq_ok r0 rx h1
    rw [hK]
    refine ⟨a, us, rfl, ?_⟩
    cases k with
    | true =>
      refine .inr ⟨ht rfl, .inl (q _ H f r0 (.refl _ _ _) ?_)⟩
      cases dx with
      | pu p =>
        cases p with
        | tuple xs =>
          have h1' : some (true, xs.map D.pu) = some (true, ps.map D.pu) := h1
          have e3 : xs.map D.pu = ps.map D.pu := by injection h1' with h1'; injection h1'
          have e4 : xs = ps := by
            have inj : ∀ (l m : List P), l.map D.pu = m.map D.pu → l = m := by
              intro l
              induction l with
              | nil => intro m h; cases m with
                | nil => rfl
                | cons _ _ => cases h
              | cons x l ih => intro m h; cases m with
                | nil => cases h
                | cons y m =>
                  injection h with h1 h2
                  injection h1 with h1
                  rw [h1, ih m h2]
            exact inj _ _ e3
          subst e4
          exact rx
        | _ => cases h1
      | wr p => exact absurd rfl (nw p)
      | rf n =>
        unfold seqD at h1
        dsimp only at h1
        cases hc : S[n]? with
        | none => rw [hc] at h1; cases h1
        | some c => rw [hc] at h1; cases c <;> cases h1
      | bo i c => cases c <;> cases h1
      | nw c => cases c <;> cases h1
    | false =>
      exact .inl ⟨hl rfl, fun l nl => tup_fin nl (rd_reps hp) fun v H' s rv => q v H' f (r0.same s) (.of s _ _) rv⟩
  | [], _ => cases hg
  | _ :: _ :: _, _ => simp [gTuple] at hg

/-! ### displays -/
def gTup (ds : List D) (S : Sto) : Option (D × Sto) := (pusOf ds).bind fun ps => if ps.length ≤ lim then some (.pu (.tuple ps), S) else none
def gLst (ds : List D) (S : Sto) : Option (D × Sto) := (pusOf ds).bind fun ps => if ps.length ≤ lim then some (.pu (.list ps), S) else none
def noBo : List D → Bool
  | [] => true
  | .bo _ _ :: _ => false
  | .nw _ :: _ => false
  | _ :: r => noBo r
def gLstC (ds : List D) (S : Sto) : Option (D × Sto) := if noBo ds && decide (ds.length ≤ lim) then some (.rf S.length, S ++ [.lst ds]) else none
theorem re_reps : ∀ {vs : List V} {ps : List P}, Paired (RE G σ H e f S.length) vs (ps.map .pu) → RepL H vs ps
  | _, [], .nil => .nil
  | _, _ :: _, .cons h t => .cons h (re_reps t)
theorem re_rds : ∀ {vs : List V} {ds : List D}, Paired (RE G σ H e f S.length) vs ds → noBo ds = true → Paired (RD G.K H f S.length) vs ds
  | _, _, .nil, _ => .nil
  | _, .pu _ :: _, .cons h t, n => .cons h (re_rds t n)
  | _, .wr _ :: _, .cons h t, n => .cons h (re_rds t n)
  | _, .rf _ :: _, .cons h t, n => .cons h (re_rds t n)
theorem d_tup {es : List Expr} {xa : Ax} {k : Nat} {pos : Pos} (h : DA X G es xa) : DE X G (.Tuple es k pos) (xA gTup xa) := by
  refine pe_mono (pe_gh (pe_tup h)) fun σ H Q hh => ?_
  refine tE.bA (r := fun xs H Q => xs.length ≤ sizeLine ∧ ∀ p, H p = none → Q (.ref p) (upd H p (.tup xs))) ?_ σ H Q hh
  intro σ H e S f vs ds d S' Q r0 rs hg q
  obtain ⟨ps, h1, hg⟩ := Option.bind_eq_some_iff.mp hg
  by_cases c : ps.length ≤ lim
  · rw [if_pos c] at hg
    cases hg
    have e1 := pusOf_eq h1
    subst e1
    have rp := re_reps rs
    exact ⟨by rw [rp.length, ← lim_eq]; exact c, fun p hp => tup_fin hp rp fun v H' s rv => q v H' f (r0.same s) (.of s _ _) rv⟩
  · rw [if_neg c] at hg
    cases hg
theorem d_lst {es : List Expr} {xa : Ax} {pos : Pos} (h : DA X G es xa) : DE X G (.List es pos) (xA gLst xa) := by
  refine pe_mono (pe_gh (pe_lst h)) fun σ H Q hh => ?_
  refine tE.bA (r := fun xs H Q => xs.length ≤ sizeLine ∧ ∀ p, H p = none → Q (.ref p) (upd H p (.lst xs))) ?_ σ H Q hh
  intro σ H e S f vs ds d S' Q r0 rs hg q
  obtain ⟨ps, h1, hg⟩ := Option.bind_eq_some_iff.mp hg
  by_cases c : ps.length ≤ lim
  · rw [if_pos c] at hg
    cases hg
    have e1 := pusOf_eq h1
    subst e1
    have rp := re_reps rs
    exact ⟨by rw [rp.length, ← lim_eq]; exact c, fun p hp => lst_fin hp rp fun v H' s rv => q v H' f (r0.same s) (.of s _ _) rv⟩
  · rw [if_neg c] at hg
    cases hg
theorem d_lstC {es : List Expr} {xa : Ax} {pos : Pos} (h : DA X G es xa) : DE X G (.List es pos) (xA gLstC xa) := by
  refine pe_mono (pe_gh (pe_lst h)) fun σ H Q hh => ?_
  refine tE.bA (r := fun xs H Q => xs.length ≤ sizeLine ∧ ∀ p, H p = none → Q (.ref p) (upd H p (.lst xs))) ?_ σ H Q hh
  intro σ H e S f vs ds d S' Q r0 rs hg q
  unfold gLstC at hg
  by_cases c : (noBo ds && decide (ds.length ≤ lim)) = true
  · rw [if_pos c] at hg
    cases hg
    rw [Bool.and_eq_true, decide_eq_true_eq] at c
    exact ⟨by rw [Paired.length rs, ← lim_eq]; exact c.2, fun p hp => cel_fin r0 hp (re_rds rs c.1) q⟩
  · rw [if_neg c] at hg
    cases hg

/-! ### slices -/
abbrev Ox := Envi → Sto → Option (Option Int × Sto)
def oNone : Ox := fun _ S => some (none, S)
def oSome (x : Ex) : Ox := fun e S => (x e S).bind fun r => match r.1 with
  | .pu (.int i) => some (some i, r.2)
  | _ => none
def tOx (G : Gx) (x : Ox) : TO := fun σ H Q => ∃ e S f, R G σ H e S f ∧ ∃ o S', x e S = some (o, S') ∧
  ∀ H' f', R G σ H' e S' f' → Nx H H' f f' S.length S'.length → Q o H'
theorem d_onone : PO X none (tOx G oNone) := by
  refine ⟨fun pins s σ H Q I hw => po_none.run pins s σ H Q I ?_⟩
  obtain ⟨e, S, f, r, o, S', hx, q⟩ := hw
  cases hx
  exact q H f r (.refl _ _ _)
theorem d_osome {a : Expr} {x : Ex} (h : DE X G a x) : PO X (some a) (tOx G (oSome x)) := by
  refine ⟨fun pins s σ H Q I hw => (po_some h).run pins s σ H Q I ?_⟩
  obtain ⟨e, S, f, r, o, S', hx, q⟩ := hw
  obtain ⟨⟨d, S1⟩, h1, hx⟩ := Option.bind_eq_some_iff.mp hx
  match d, hx with
  | .pu (.int i), hx =>
    cases hx
    refine ⟨e, S, f, r, _, S1, h1, fun v H1 f1 r1 n1 p1 => ?_⟩
    cases (show Rep H1 v (.int i) from p1)
    exact ⟨i, rfl, q H1 f1 r1 n1⟩
def cutL {α : Type} (xs : List α) (lo hi : Option Int) : List α := (xs.drop (HT.sIx xs.length 0 lo)).take (HT.sIx xs.length xs.length hi - HT.sIx xs.length 0 lo)
theorem Paired.dropp {α β : Type} {F : α → β → Prop} : ∀ {l : List α} {m : List β} (n : Nat), Paired F l m → Paired F (l.drop n) (m.drop n)
  | _, _, 0, h => h
  | _, _, _ + 1, .nil => .nil
  | _, _, n + 1, .cons _ t => Paired.dropp n t
theorem Paired.takep {α β : Type} {F : α → β → Prop} : ∀ {l : List α} {m : List β} (n : Nat), Paired F l m → Paired F (l.take n) (m.take n)
  | _, _, 0, _ => .nil
  | _, _, _ + 1, .nil => .nil
  | _, _, n + 1, .cons h t => .cons h (Paired.takep n t)
theorem cut_paired {α β : Type} {F : α → β → Prop} {l : List α} {m : List β} (h : Paired F l m) (lo hi : Option Int) : Paired F (cutL l lo hi) (cutL m lo hi) := by
  unfold cutL
  rw [Paired.length h]
  exact Paired.takep _ (Paired.dropp _ h)
def gSl (d : D) (lo hi : Option Int) (S : Sto) : Option (D × Sto) := (seqD d S).bind fun q => (pusOf (cutL q.2 lo hi)).bind fun ps => match q.1 with
  | true => if HT.sIx q.2.length 0 lo = 0 ∧ HT.sIx q.2.length q.2.length hi = q.2.length then none else some (.pu (.tuple ps), S)
  | false => some (.pu (.list ps), S)
def xSl (a : Ex) (lo hi : Ox) : Ex := fun e S => (a e S).bind fun r => (lo e r.2).bind fun l => (hi e l.2).bind fun h => gSl r.1 l.1 h.1 h.2
theorem d_slice {a : Expr} {xa : Ex} {lo hi : Option Expr} {xl xh : Ox} {pos p2 : Pos} (hK : X.K = G.K) (ha : DE X G a xa) (hl : PO X lo (tOx G xl)) (hh : PO X hi (tOx G xh)) : DE X G (.Subscript a (.Slice lo hi none p2) pos) (xSl xa xl xh) := by
  refine pe_mono (pe_gh (pe_slice (SlR.or sl_list sl_tup) ha hl hh)) fun σ H Q hw => ?_
  obtain ⟨e, S, f, r0, d, S', hx, q⟩ := hw
  obtain ⟨⟨d1, S1⟩, h1, hx⟩ := Option.bind_eq_some_iff.mp hx
  obtain ⟨⟨o2, S2⟩, h2, hx⟩ := Option.bind_eq_some_iff.mp hx
  obtain ⟨⟨o3, S3⟩, h3, hx⟩ := Option.bind_eq_some_iff.mp hx
  refine ⟨e, S, f, r0, d1, S1, h1, fun v1 H1 f1 r1 n1 p1 => ⟨e, S1, f1, r1, o2, S2, h2, fun H2 f2 r2 n2 => ⟨e, S2, f2, r2, o3, S3, h3, fun H3 f3 r3 n3 => ?_⟩⟩⟩
  obtain ⟨⟨k, is⟩, h4, hx⟩ := Option.bind_eq_some_iff.mp (show (seqD d1 S3).bind _ = _ from hx)
  obtain ⟨ps, h5, hx⟩ := Option.bind_eq_some_iff.mp hx
  obtain ⟨a, us, rfl, ht, hl, hp⟩ := seq_ok r3 (p1.nx (n2.trans n3)) h4
  have e5 := pusOf_eq h5
  dsimp only at e5
  have hc := cut_paired hp o2 o3
  rw [e5] at hc
  have nn := (n1.trans n2).trans n3
  rw [hK]
  cases k with
  | false =>
    cases hx
    exact .inl ⟨a, us, rfl, hl rfl, fun p np => lst_fin np (rd_reps hc) fun v H' s rv => q v H' f3 (r3.same s) (nn.trans (.of s _ _)) rv⟩
  | true =>
    dsimp only at hx
    by_cases c : HT.sIx is.length 0 o2 = 0 ∧ HT.sIx is.length is.length o3 = is.length
    · rw [if_pos c] at hx
      cases hx
    · rw [if_neg c] at hx
      cases hx
      exact .inr ⟨a, us, rfl, ht rfl, by rw [Paired.length hp]; exact c, fun p np => tup_fin np (rd_reps hc) fun v H' s rv => q v H' f3 (r3.same s) (nn.trans (.of s _ _)) rv⟩

/-! ### + -/
/-- list + list, any two tracked ones -/
def rCatL : R2 := fun x y H Q => ∃ l b xs zs, x = .ref l ∧ y = .ref b ∧ Rd H l (.lst xs) ∧ Rd H b (.lst zs) ∧ xs.length + zs.length ≤ sizeLine ∧ ∀ p, H p = none → Q (.ref p) (upd H p (.lst (xs ++ zs)))
theorem op_catL : OpR X (binaryOp .Add) rCatL := by
  intro pins s σ H x y v u Q I rx ry h
  obtain ⟨l, b, xs, zs, rfl, rfl, hH, hB, hz, q⟩ := h
  cases rx
  cases ry
  obtain ⟨z, its, n, r, hh⟩ := (show ObjOk X.prog X.w H s.heap l (.lst xs) from hH.ok I.hok)
  obtain ⟨z2, its2, n2, r2, hh2⟩ := (show ObjOk X.prog X.w H s.heap b (.lst zs) from hB.ok I.hok)
  have hl := r.length
  have hl2 := r2.length
  refine PySem.P.add_list hh hh2 ?_ (by rw [List.size_toArray, List.size_toArray]; omega)
  rw [show its.toArray ++ its2.toArray = (its ++ its2).toArray by simp]
  exact ⟨.ref _, _, I.lnew (t' := s.toks) (r.append r2) (by rw [List.length_append]; omega), rfl, q _ I.fresh⟩
/-- a list's items, where it isn't a written one -/
def lstD : D → Sto → Option (List D)
  | .wr _, _ => none
  | d, S => (seqD d S).bind fun q => if q.1 then none else some q.2
theorem lst_rd (r : R G σ H e S f) {v : V} {d : D} {ds : List D} (h : RE G σ H e f S.length v d) (hs : lstD d S = some ds) : ∃ a vs, v = .ref a ∧ Rd H a (.lst vs) ∧ Paired (RD G.K H f S.length) vs ds := by
  cases d with
  | pu p =>
    cases p with
    | list xs =>
      cases hs
      cases (show Rep H v (.list xs) from h) with
      | lst h1 h2 => obtain ⟨o, h1⟩ := h1; exact ⟨_, _, rfl, .inr ⟨o, h1⟩, reps_rd h2⟩
    | _ => cases hs
  | wr p => cases hs
  | rf n =>
    obtain ⟨e1, l⟩ := (show v = .ref (f n) ∧ n < S.length from h)
    unfold lstD seqD at hs
    dsimp only at hs
    cases hc : S[n]? with
    | none => rw [hc] at hs; cases hs
    | some c =>
      rw [hc] at hs
      cases c with
      | lst ds' =>
        cases hs
        obtain ⟨vs, h1, h2⟩ := r.cel n _ hc
        exact ⟨f n, vs, e1, .inl h1, h2⟩
      | _ => cases hs
  | bo i c =>
    cases c with
    | lst xs =>
      cases hs
      obtain ⟨h1, h2⟩ := (show σ[i]? = some (some v) ∧ e[i]? = some (some (.ow (.lst xs))) from h)
      obtain ⟨a, h3, ⟨vs, h4, h5⟩, _⟩ := r.own i _ h2
      rw [h1] at h3
      cases h3
      exact ⟨a, vs, rfl, .inl h4, reps_rd h5⟩
    | dct ps => cases hs
  | nw c =>
    obtain ⟨a, e1, h4, _⟩ := (show ∃ a, v = .ref a ∧ OCok H a c ∧ _ from h)
    cases c with
    | lst xs =>
      cases hs
      obtain ⟨vs, h4, h5⟩ := h4
      exact ⟨a, vs, e1, .inl h4, reps_rd h5⟩
    | dct ps => cases hs
/-- ints, lists, tuples, texts -/
def gAdd : D → D → Sto → Option (D × Sto)
  | .pu (.int i), .pu (.int j), S => some (.pu (.int (i + j)), S)
  | .pu (.str x), .pu (.str y), S => if x.length + y.length ≤ lim then some (.pu (.str (x ++ y)), S) else none
  | .pu (.tuple xs), .pu (.tuple ys), S => if xs ≠ [] ∧ ys ≠ [] ∧ xs.length + ys.length ≤ lim then some (.pu (.tuple (xs ++ ys)), S) else none
  | a, b, S => (lstD a S).bind fun xs => (lstD b S).bind fun ys => (pusOf xs).bind fun ps => (pusOf ys).bind fun qs => if ps.length + qs.length ≤ lim then some (.pu (.list (ps ++ qs)), S) else none
def rAddA (K : PySem.W.Frag) : R2 := fun x y H Q => ((rI0 fun i j => .int (i + j)) x y H Q ∨ (∃ i j, x = .str i ∧ y = .str j ∧ i.length + j.length ≤ sizeLine ∧ Q (.str (i ++ j)) H)) ∨ (rCatT K x y H Q ∨ rCatL x y H Q)
theorem op_addA : OpR X (binaryOp .Add) (rAddA X.K) := OpR.or (OpR.or op_add op_add_str) (OpR.or op_catT op_catL)
theorem v_add (hK : X.K = G.K) : V2 G (rAddA X.K) gAdd := by
  intro σ H e S f x y dx dy d S' Q r0 rx ry hg q
  have lsts : ((lstD dx S).bind fun xs => (lstD dy S).bind fun ys => (pusOf xs).bind fun ps => (pusOf ys).bind fun qs => if ps.length + qs.length ≤ lim then some (D.pu (.list (ps ++ qs)), S) else none) = some (d, S') → rAddA X.K x y H (GQ Q) := by
    intro h
    obtain ⟨xs, h1, h⟩ := Option.bind_eq_some_iff.mp h
    obtain ⟨ys, h2, h⟩ := Option.bind_eq_some_iff.mp h
    obtain ⟨ps, h3, h⟩ := Option.bind_eq_some_iff.mp h
    obtain ⟨qs, h4, h⟩ := Option.bind_eq_some_iff.mp h
    by_cases c : ps.length + qs.length ≤ lim
    · rw [if_pos c] at h
      cases h
      have e3 := pusOf_eq h3
      have e4 := pusOf_eq h4
      subst e3 e4
      obtain ⟨a, vs, rfl, ha, pa⟩ := lst_rd r0 rx h1
      obtain ⟨b, ws, rfl, hb, pb⟩ := lst_rd r0 ry h2
      have la := Paired.length pa
      have lb := Paired.length pb
      rw [List.length_map] at la lb
      exact .inr (.inr ⟨a, b, vs, ws, rfl, rfl, ha, hb, by rw [← lim_eq]; omega, fun p np => lst_fin np (RepL.append (rd_reps pa) (rd_reps pb)) fun v H' s rv => q v H' f (r0.same s) (.of s _ _) rv⟩)
    · rw [if_neg c] at h
      cases h
  unfold gAdd at hg
  split at hg
  · rename_i i j
    cases hg
    cases (show Rep H x (.int i) from rx)
    cases (show Rep H y (.int j) from ry)
    exact .inl (.inl ⟨i, j, rfl, rfl, .inl (q _ H f r0 (.refl _ _ _) (.int _))⟩)
  · rename_i i j
    by_cases c : i.length + j.length ≤ lim
    · rw [if_pos c] at hg
      cases hg
      cases (show Rep H x (.str i) from rx)
      cases (show Rep H y (.str j) from ry)
      exact .inl (.inr ⟨i, j, rfl, rfl, by rw [← lim_eq]; exact c, .inl (q _ H f r0 (.refl _ _ _) (.str _))⟩)
    · rw [if_neg c] at hg
      cases hg
  · rename_i xs ys
    by_cases c : xs ≠ [] ∧ ys ≠ [] ∧ xs.length + ys.length ≤ lim
    · rw [if_pos c] at hg
      cases hg
      cases (show Rep H x (.tuple xs) from rx) with
      | tup h1 h2 =>
        cases (show Rep H y (.tuple ys) from ry) with
        | tup h3 h4 =>
          have la := h2.length
          have lb := h4.length
          rw [hK]
          refine .inr (.inl ⟨_, _, _, _, rfl, rfl, SqT.of h1, SqT.of h3, fun z => c.1 ?_, by rw [← lim_eq]; omega, fun z => absurd ?_ c.2.1, fun _ p np => tup_fin np (RepL.append h2 h4) fun v H' s rv => q v H' f (r0.same s) (.of s _ _) rv⟩)
          · subst z; cases h2; rfl
          · subst z; cases h4; rfl
    · rw [if_neg c] at hg
      cases hg
  · exact lsts hg

/-! ### isinstance of a built-in class, of some -/
inductive Ty where
  | non | bool | int | str | list | tuple | dict
  deriving DecidableEq
def Ty.nm : Ty → String
  | .non => "NoneType" | .bool => "bool" | .int => "int" | .str => "str" | .list => "list" | .tuple => "tuple" | .dict => "dict"
/-- whether a thing of the type t is one of T -/
def Ty.is (t T : Ty) : Bool := match t, T with
  | .non, .non => true | .bool, .bool => true | .bool, .int => true | .int, .int => true | .str, .str => true | .list, .list => true | .tuple, .tuple => true | .dict, .dict => true
  | _, _ => false
theorem Ty.kit (t T : Ty) : kitB t.nm T.nm = some (t.is T) := by
  cases t <;> cases T <;> decide +kernel
theorem Ty.kitAny {K : PySem.W.Frag} (t : Ty) : ∀ Ts : List Ty, PySem.W.kitAny K (.type t.nm) (Ts.map fun T => .type T.nm) = some (Ts.any t.is)
  | [] => kitAny_nil
  | T :: Ts => kitAny_cons (kit_ty (Ty.kit t T)) (fun h => by rw [List.any_cons, h, Bool.false_or]; exact Ty.kitAny t Ts) (fun h => by rw [List.any_cons, h, Bool.true_or])
def tyD : D → Sto → Option Ty
  | .pu .none, _ => some .non
  | .pu (.bool _), _ => some .bool
  | .pu (.int _), _ => some .int
  | .pu (.str _), _ => some .str
  | .pu (.list _), _ => some .list
  | .pu (.tuple _), _ => some .tuple
  | .pu (.dict _), _ => some .dict
  | .wr (.list _), _ => some .list
  | .wr (.tuple _), _ => some .tuple
  | .wr _, _ => none
  | .rf n, S => match S[n]? with
    | some (.lst _) => some .list
    | some (.dct _) => some .dict
    | _ => none
  | .bo _ (.lst _), _ => some .list
  | .bo _ (.dct _), _ => some .dict
  | .nw (.lst _), _ => some .list
  | .nw (.dct _), _ => some .dict
/-- as TyX, and a frozen dict of tuple keys -/
inductive TyY (K : PySem.W.Frag) (H : Hp) : V → Value → Prop where
  | x {v : V} {t : Value} (h : TyX K H v t) : TyY K H v t
  | fT {a : Addr} {o : Obj} {kvs : List (List Key × V)} (e : H a = some (.frz o (.dT kvs))) : TyY K H (.ref a) (.type "dict")
theorem kit_ofY {pins : List (Addr × Obj)} {s : Shared} {x : V} {u t : Value} (I : Inv X pins σ H s) (rx : RelV x u) (ty : TyY X.K H x t) : ∃ P : Heap → Prop, PySem.W.KitX X.K u t P ∧ P s.heap ∧ u ≠ .builtin "__main__.__loader__#opaque" := by
  cases ty with
  | x h => exact kit_of I rx h
  | fT e =>
    rename_i a ob kvs
    cases (show u = Value.ref a from rx)
    obtain ⟨_, _, _, _, _, o, _, _, h1, h2, _⟩ := (show ObjOk X.prog X.w H s.heap a (.frz ob (.dT kvs)) from I.hok a _ e)
    exact ⟨_, PySem.W.kitx_dict, ⟨o, h1, h2.1⟩, fun z => nomatch z⟩
def rIsY (K : PySem.W.Frag) : List V → Hp → VK → Prop := fun xs H Q => ∃ (x c : V) (t u : Value) (b : Bool), xs = [x, c] ∧ ClsV c u ∧ TyY K H x t ∧ PySem.W.kitOne K t u = some b ∧ Q (.bl b) H
def rIsTY (K : PySem.W.Frag) : List V → Hp → VK → Prop := fun xs H Q => ∃ (x : V) (tp : Addr) (cs : List V) (t : Value) (us : List Value) (b : Bool), xs = [x, .ref tp] ∧ H tp = some (.tup cs) ∧ Paired ClsV cs us ∧ TyY K H x t ∧ PySem.W.kitAny K t us = some b ∧ Q (.bl b) H
theorem call_isY : CallR X (.builtin "isinstance") (rIsY X.K) := fun pins s σ H xs us Q I r h => by
  obtain ⟨x, c, t, u, b, rfl, k, ty, e, q⟩ := h
  obtain ⟨u1, u2, rfl, r1, r2⟩ := vals2 r
  cases k.eq r2
  obtain ⟨P, Z, p, hx⟩ := kit_ofY I r1 ty
  exact PySem.W.kia_one Z I.kIn p e hx fun tk => ⟨V.bl b, H, I.tok tk, rfl, q⟩
theorem call_isTY : CallR X (.builtin "isinstance") (rIsTY X.K) := fun pins s σ H xs us Q I r h => by
  obtain ⟨x, tp, cs, t, ws, b, rfl, hT, k, ty, e, q⟩ := h
  obtain ⟨u1, u2, rfl, r1, r2⟩ := vals2 r
  cases (show u2 = Value.ref tp from r2)
  obtain ⟨P, Z, p, hx⟩ := kit_ofY I r1 ty
  obtain ⟨_, its, rv, ⟨oc, od, dt, sl⟩, h1, h2, n, h3⟩ := (show ObjOk X.prog X.w H s.heap tp (.tup cs) from I.hok tp _ hT)
  cases ClsV.all k rv
  simp only at h2 h3
  subst h2 h3
  exact PySem.W.kia_tup Z I.kIn p h1 e hx fun tk => ⟨V.bl b, H, I.tok tk, rfl, q⟩
theorem ty_ok (r : R G σ H e S f) {v : V} {d : D} {t : Ty} (h : RE G σ H e f S.length v d) (ht : tyD d S = some t) : TyY G.K H v (.type t.nm) := by
  cases d with
  | pu p =>
    cases (show Rep H v p from h) with
    | non => cases ht; exact .x <| .base .non
    | bl b => cases ht; exact .x <| .base (.bl b)
    | int i => cases ht; exact .x <| .base (.int i)
    | str x => cases ht; exact .x <| .base (.str x)
    | lst h1 h2 => cases ht; obtain ⟨o, h1⟩ := h1; exact .x <| .base (.frz h1)
    | tup h1 h2 => cases ht; exact .x <| .base (.tup h1)
    | dct h1 h2 h3 h4 h5 =>
      cases ht
      rcases h1 with ⟨o, kvs, h1, _⟩ | ⟨o, kvs, h1, _⟩
      · exact .x (.fDict h1)
      · exact .fT h1
  | wr p =>
    cases (show RepW G.K v p from h) with
    | lst h1 h2 => cases ht; exact .x (.kList h1 h2)
    | tup h1 h2 => cases ht; exact .x (.kTuple h1 h2)
    | _ => cases ht
  | rf n =>
    obtain ⟨e1, l⟩ := (show v = .ref (f n) ∧ n < S.length from h)
    unfold tyD at ht
    dsimp only at ht
    cases hc : S[n]? with
    | none => rw [hc] at ht; cases ht
    | some c =>
      rw [hc] at ht
      cases c with
      | lst ds' =>
        cases ht
        obtain ⟨vs, h1, h2⟩ := r.cel n _ hc
        subst e1
        exact .x <| .base (.lst h1)
      | dct ps =>
        cases ht
        obtain ⟨qs, h1, h2⟩ := r.cel n _ hc
        subst e1
        rcases h1 with ⟨kvs, h1, _⟩ | ⟨kvs, h1, _⟩
        · exact .x <| .base (.dK h1)
        · exact .x <| .base (.dT h1)
      | _ => cases ht
  | bo i c =>
    obtain ⟨h1, h2⟩ := (show σ[i]? = some (some v) ∧ e[i]? = some (some (.ow c)) from h)
    obtain ⟨a, h3, h4, _⟩ := r.own i _ h2
    rw [h1] at h3
    cases h3
    cases c with
    | lst xs =>
      cases ht
      obtain ⟨vs, h4, h5⟩ := h4
      exact .x <| .base (.lst h4)
    | dct ps =>
      cases ht
      obtain ⟨qs, h4, h5⟩ := h4
      rcases h4 with ⟨kvs, h4, _⟩ | ⟨kvs, h4, _⟩
      · exact .x <| .base (.dK h4)
      · exact .x <| .base (.dT h4)
  | nw c =>
    obtain ⟨a, e1, h4, _⟩ := (show ∃ a, v = .ref a ∧ OCok H a c ∧ _ from h)
    subst e1
    cases c with
    | lst xs =>
      cases ht
      obtain ⟨vs, h4, h5⟩ := h4
      exact .x <| .base (.lst h4)
    | dct ps =>
      cases ht
      obtain ⟨qs, h4, h5⟩ := h4
      rcases h4 with ⟨kvs, h4, _⟩ | ⟨kvs, h4, _⟩
      · exact .x <| .base (.dK h4)
      · exact .x <| .base (.dT h4)
/-- the classes' names, as the second argument -/
theorem d_ty (T : Ty) {x : Str} {pos : Pos} (hg : Gl X x) (hm : X.mg x = none) (hv : bootBuiltins x = some (.type T.nm)) (hn : x ≠ "__name__" := by decide) (hd : (x == ("__debug__" : Str)) = false := by decide) : PE X (.Name x pos) (tC (.ty T.nm)) :=
  pe_bltn hg hm hv rfl hn hd
def xIsi (a : Ex) (Ts : List Ty) : Ex := fun e S => (a e S).bind fun r => (tyD r.1 r.2).bind fun t => some (.pu (.bool (Ts.any t.is)), r.2)
theorem d_isi {x : Str} {p pos : Pos} {a b : Expr} {xa : Ex} {T : Ty} (hK : X.K = G.K) (hg : Gl X x) (hm : X.mg x = none) (hv : bootBuiltins x = some (.builtin "isinstance")) (ha : DE X G a xa) (hb : PE X b (tC (.ty T.nm))) (hn : x ≠ "__name__" := by decide) (hdb : (x == ("__debug__" : Str)) = false := by decide)
    (he : starEach [a, b] X.env = (false, eval a X.env) :: starEach [b] X.env := by rfl) (he2 : starEach [b] X.env = (false, eval b X.env) :: starEach [] X.env := by rfl) (hpl : (backTo pos (starEach [b] X.env)).any (·.1) = false := by rfl) : DE X G (.Call (.Name x p) [a, b] [] pos) (xIsi xa [T]) := by
  refine pe_mono (pe_callB call_isY hg hm hv (pa_cons ha (pa_cons hb pa_nil he2) he) hn hdb he hpl) fun σ H Q hw => ?_
  obtain ⟨e, S, f, r0, d, S', hx, q⟩ := hw
  obtain ⟨⟨d1, S1⟩, h1, hx⟩ := Option.bind_eq_some_iff.mp hx
  obtain ⟨t, h2, hx⟩ := Option.bind_eq_some_iff.mp hx
  cases hx
  refine ⟨e, S, f, r0, d1, S1, h1, fun v H1 f1 r1 n1 p1 => ?_⟩
  have ty := ty_ok r1 p1 h2
  rw [← hK] at ty
  refine ⟨v, _, _, _, t.is T, rfl, .ty T.nm, ty, kit_ty (Ty.kit t T), ?_⟩
  have q' := q (.bl (t.is T)) H1 f1 r1 n1 (by rw [show [T].any t.is = t.is T by simp]; exact .bl _)
  exact q'
/-- a tuple of classes, written in the call -/
theorem d_isiT {x : Str} {p pos tpos : Pos} {a : Expr} {bs : List Expr} {k : Nat} {xa : Ex} {Ts : List Ty} (hK : X.K = G.K) (hg : Gl X x) (hm : X.mg x = none) (hv : bootBuiltins x = some (.builtin "isinstance")) (ha : DE X G a xa) (hb : PA X bs (fun _ H Q => Q (Ts.map fun T => V.ty T.nm) H)) (hl : Ts.length ≤ 9 := by decide) (hn : x ≠ "__name__" := by decide) (hdb : (x == ("__debug__" : Str)) = false := by decide)
    (he : starEach [a, .Tuple bs k tpos] X.env = (false, eval a X.env) :: starEach [.Tuple bs k tpos] X.env := by rfl) (he2 : starEach [.Tuple bs k tpos] X.env = (false, eval (.Tuple bs k tpos) X.env) :: starEach [] X.env := by rfl) (hpl : (backTo pos (starEach [.Tuple bs k tpos] X.env)).any (·.1) = false := by rfl) : DE X G (.Call (.Name x p) [a, .Tuple bs k tpos] [] pos) (xIsi xa Ts) := by
  refine pe_mono (pe_callB call_isTY hg hm hv (pa_cons ha (pa_cons (pe_tup hb) pa_nil he2) he) hn hdb he hpl) fun σ H Q hw => ?_
  obtain ⟨e, S, f, r0, d, S', hx, q⟩ := hw
  obtain ⟨⟨d1, S1⟩, h1, hx⟩ := Option.bind_eq_some_iff.mp hx
  obtain ⟨t, h2, hx⟩ := Option.bind_eq_some_iff.mp hx
  cases hx
  refine ⟨e, S, f, r0, d1, S1, h1, fun v H1 f1 r1 n1 p1 => ?_⟩
  refine ⟨by rw [List.length_map, sizeLine_eq]; omega, fun tp np => ?_⟩
  have s1 := upd_new (o := .tup (Ts.map fun T => V.ty T.nm)) np
  have x1 := Nx.of s1 f1 S1.length
  have ty := ty_ok (r1.same s1) (p1.nx x1) h2
  rw [← hK] at ty
  have pr : ∀ Ts : List Ty, Paired ClsV (Ts.map fun T => V.ty T.nm) (Ts.map fun T => Value.type T.nm) := by
    intro Ts
    induction Ts with
    | nil => exact .nil
    | cons T Ts ih => exact .cons (.ty _) ih
  refine ⟨v, tp, _, _, _, _, rfl, upd_same, pr Ts, ty, Ty.kitAny t Ts, ?_⟩
  exact q _ _ f1 (r1.same s1) (n1.trans x1) (.bl _)
theorem tys_nil : PA X [] (fun _ H Q => Q (([] : List Ty).map fun T => V.ty T.nm) H) := pa_nil
theorem tys_cons {T : Ty} {Ts : List Ty} {b : Expr} {bs : List Expr} (hb : PE X b (tC (.ty T.nm))) (h : PA X bs (fun _ H Q => Q (Ts.map fun T => V.ty T.nm) H)) (hs : starEach (b :: bs) X.env = (false, eval b X.env) :: starEach bs X.env := by rfl) : PA X (b :: bs) (fun _ H Q => Q ((T :: Ts).map fun T => V.ty T.nm) H) :=
  pa_cons hb h hs

/-! ### calls of defs -/
/-- a def of data alone -/
def SpP (n : Nat) (m : List P → Option P) : Sp := fun vs H Q _ => vs.length = n ∧ ∃ ps p, RepL H vs ps ∧ m ps = some p ∧ ∀ v H', Same H H' → Rep H' v p → Q v H'
def gCallP (m : List P → Option P) (ds : List D) (S : Sto) : Option (D × Sto) := (pusOf ds).bind fun ps => (m ps).bind fun p => some (.pu p, S)
theorem v_callP {n : Nat} {m : List P → Option P} {E : XK} (hl : ∀ ps p, m ps = some p → ps.length = n) : VA G (fun vs H Q => SpP n m (vs ++ []) H Q E) (gCallP m) := by
  intro σ H e S f vs ds d S' Q r0 rs hg q
  obtain ⟨ps, h1, hg⟩ := Option.bind_eq_some_iff.mp hg
  obtain ⟨p, h2, hg⟩ := Option.bind_eq_some_iff.mp hg
  cases hg
  have e1 := pusOf_eq h1
  subst e1
  have rp := re_reps rs
  rw [List.append_nil]
  exact ⟨by rw [rp.length]; exact hl _ _ h2, ps, p, rp, h2, fun v H' s rv => .inl (q v H' f (r0.same s) (.of s _ _) rv)⟩
/-- a def that reads and changes cells -/
def SpF (K : PySem.W.Frag) (cl : Str → Option Addr) (n : Nat) (m : List D → Sto → Option (D × Sto)) : Sp := fun vs H Q _ => vs.length = n ∧ ∃ f S ds d S', Paired (RD K H f S.length) vs ds ∧ Cells ⟨K, cl, H, S.length, f⟩ H f S ∧ m ds S = some (d, S') ∧
  ∀ v H' f', Cells ⟨K, cl, H, S.length, f⟩ H' f' S' → Nx H H' f f' S.length S'.length → RD K H' f' S'.length v d → Q v H'
def gCallF (m : List D → Sto → Option (D × Sto)) (ds : List D) (S : Sto) : Option (D × Sto) := if noBo ds then m ds S else none
theorem Cells.re {G' : Gx} (hk : G'.K = G.K) (hc : G'.cl = G.cl) (c : Cells G H f S) : Cells G' H f S := ⟨fun n k h => by
  have q := c.cel n k h
  cases k with
  | lst ds => obtain ⟨vs, h1, h2⟩ := q; exact ⟨vs, h1, by rw [hk]; exact h2⟩
  | dct ps => obtain ⟨qs, h1, h2, h3⟩ := q; exact ⟨qs, h1, by rw [hk]; exact h2, h3⟩
  | obj cn fs => obtain ⟨C, dx, us, h1, h2, h3, h4⟩ := q; exact ⟨C, dx, us, by rw [hc]; exact h1, h2, by rw [hk]; exact h3, h4⟩
  | fz p => exact q, c.inj⟩
theorem v_callF {n : Nat} {m : List D → Sto → Option (D × Sto)} {E : XK} (hl : ∀ ds S r, m ds S = some r → ds.length = n) : VA G (fun vs H Q => SpF G.K G.cl n m (vs ++ []) H Q E) (gCallF m) := by
  intro σ H e S f vs ds d S' Q r0 rs hg q
  unfold gCallF at hg
  by_cases c : noBo ds = true
  · rw [if_pos c] at hg
    rw [List.append_nil]
    refine ⟨by rw [Paired.length rs]; exact hl _ _ _ hg, f, S, ds, d, S', re_rds rs c, Cells.re (G := G) (G' := ⟨G.K, G.cl, H, S.length, f⟩) rfl rfl r0.cells, hg, fun v H' f' cc nn rd => .inl (q v H' f' (r0.nx nn (Cells.re (G := ⟨G.K, G.cl, H, S.length, f⟩) (G' := G) rfl rfl cc)) nn rd.re)⟩
  · rw [if_neg c] at hg
    cases hg
section
variable {CX : CXT} {k : Nat} {g : Addr} {fd : FuncData} {ps : List Str} {n : Nat} {E : XK} {x : Str} {p pos : Pos} {a : Expr} {es : List Expr} {xa : Ax}
theorem d_callP {m : List P → Option P} (F : FnOk X.prog X.w X.K X.mg X.base CX0 k g fd ps (SpP n m)) (hl : ∀ ps p, m ps = some p → ps.length = n) (hr : Room k X.A) (hg : Gl X x) (hm : X.mg x = some (.ref g)) (hk : PySem.W.keepIn X.K (.ref g) = true) (hb : Binds X.K fd ps [])
    (ha : DA X G (a :: es) xa) (hdb : (x == ("__debug__" : Str)) = false := by decide) (he : starEach (a :: es) X.env = (false, eval a X.env) :: starEach es X.env := by rfl) (hpl : (backTo pos (starEach es X.env)).any (·.1) = false := by rfl) : DE X G (.Call (.Name x p) (a :: es) [] pos) (xA (gCallP m) xa) :=
  pe_mono (pe_gh (pe_call F hr hg hm hk hb .nil pass0 ha hdb he hpl)) (tE.bA (v_callP hl))
theorem d_callF {m : List D → Sto → Option (D × Sto)} (F : FnOk X.prog X.w X.K X.mg X.base CX0 k g fd ps (SpF G.K G.cl n m)) (hl : ∀ ds S r, m ds S = some r → ds.length = n) (hr : Room k X.A) (hg : Gl X x) (hm : X.mg x = some (.ref g)) (hk : PySem.W.keepIn X.K (.ref g) = true) (hb : Binds X.K fd ps [])
    (ha : DA X G (a :: es) xa) (hdb : (x == ("__debug__" : Str)) = false := by decide) (he : starEach (a :: es) X.env = (false, eval a X.env) :: starEach es X.env := by rfl) (hpl : (backTo pos (starEach es X.env)).any (·.1) = false := by rfl) : DE X G (.Call (.Name x p) (a :: es) [] pos) (xA (gCallF m) xa) :=
  pe_mono (pe_gh (pe_call F hr hg hm hk hb .nil pass0 ha hdb he hpl)) (tE.bA (v_callF hl))
end
end
end DL
/-! DL5: statements. -/
namespace DL
open PySem PySem.Spec PyProof.Rows L2

inductive Out where
  | nx (e : Envi) (S : Sto) | rt (d : D) (e : Envi) (S : Sto) | bk (e : Envi) (S : Sto) | ct (e : Envi) (S : Sto)
abbrev Sx := Envi → Sto → Option Out
/-- where a statement ends -/
def EndOf (G : Gx) (H : Hp) (T : Ends) : Out → Prop
  | .nx e S => ∀ σ' H' f, R G σ' H' e S f → Ext0 H H' → T.nx σ' H'
  | .rt d e S => ∀ v σ' H' f, R G σ' H' e S f → Ext0 H H' → RE G σ' H' e f S.length v d → T.rt v H'
  | .bk e S => ∀ σ' H' f, R G σ' H' e S f → Ext0 H H' → T.bk σ' H'
  | .ct e S => ∀ σ' H' f, R G σ' H' e S f → Ext0 H H' → T.ct σ' H'
def tSx (G : Gx) (x : Sx) : TS := fun T σ H => ∃ e S f, R G σ H e S f ∧ ∃ o, x e S = some o ∧ EndOf G H T o
abbrev DS (X : Cx) (G : Gx) (a : Stmt) (x : Sx) : Prop := PS X a (tSx G x)
abbrev DSs (X : Cx) (G : Gx) (a : List Stmt) (x : Sx) : Prop := PSs X a (tSx G x)
theorem EndOf.pre {G : Gx} {H H1 : Hp} {T : Ends} (x : Ext0 H H1) : ∀ {o : Out}, EndOf G H T o → EndOf G H1 T o
  | .nx _ _, h => fun σ' H' f r y => h σ' H' f r (x.trans y)
  | .rt _ _ _, h => fun v σ' H' f r y p => h v σ' H' f r (x.trans y) p
  | .bk _ _, h => fun σ' H' f r y => h σ' H' f r (x.trans y)
  | .ct _ _, h => fun σ' H' f r y => h σ' H' f r (x.trans y)

section
variable {G : Gx} {σ : L2.St} {H H' : Hp} {e : Envi} {S S' : Sto} {f f' : Nat → Addr}
/-! ### how a state changes -/
theorem R.lt (r : R G σ H e S f) {i : Nat} {s : Option Sl} (h : e[i]? = some s) : i < σ.length := by
  rw [← r.ln]
  exact (List.getElem?_eq_some_iff.mp h).1
/-- a name gets data, or a cell -/
theorem R.set (r : R G σ H e S f) {i : Nat} {v : V} {d : D} (h : RD G.K H f S.length v d) : R G (σ.set i (some v)) H (e.set i (some (.val d))) S f where
  ln := by rw [List.length_set, List.length_set]; exact r.ln
  val := fun j d' hj => by
    by_cases hij : i = j
    · subst hij
      have hl : i < e.length := by have := (List.getElem?_eq_some_iff.mp hj).1; rw [List.length_set] at this; exact this
      rw [List.getElem?_set_self hl] at hj
      cases hj
      exact ⟨v, List.getElem?_set_self (by rw [← r.ln]; exact hl), h⟩
    · rw [List.getElem?_set_ne hij] at hj ⊢
      exact r.val j d' hj
  own := fun j c hj => by
    by_cases hij : i = j
    · subst hij
      have hl : i < e.length := by have := (List.getElem?_eq_some_iff.mp hj).1; rw [List.length_set] at this; exact this
      rw [List.getElem?_set_self hl] at hj
      cases hj
    · rw [List.getElem?_set_ne hij] at hj ⊢
      exact r.own j c hj
  sep := fun j k c c' a hjk hj hk ha => by
    have n1 : i ≠ j := fun z => by
      subst z
      have hl : i < e.length := by have := (List.getElem?_eq_some_iff.mp hj).1; rw [List.length_set] at this; exact this
      rw [List.getElem?_set_self hl] at hj
      cases hj
    have n2 : i ≠ k := fun z => by
      subst z
      have hl : i < e.length := by have := (List.getElem?_eq_some_iff.mp hk).1; rw [List.length_set] at this; exact this
      rw [List.getElem?_set_self hl] at hk
      cases hk
    rw [List.getElem?_set_ne n1] at hj ha
    rw [List.getElem?_set_ne n2] at hk ⊢
    exact r.sep j k c c' a hjk hj hk ha
  cel := r.cel
  inj := r.inj
  frm := r.frm
  new := r.new
  old := r.old
  le := r.le
  ext := r.ext
/-- a name is forgotten -/
theorem R.drop (r : R G σ H e S f) (i : Nat) : R G σ H (e.set i none) S f where
  ln := by rw [List.length_set]; exact r.ln
  val := fun j d' hj => by
    by_cases hij : i = j
    · subst hij
      have hl : i < e.length := by have := (List.getElem?_eq_some_iff.mp hj).1; rw [List.length_set] at this; exact this
      rw [List.getElem?_set_self hl] at hj
      cases hj
    · rw [List.getElem?_set_ne hij] at hj
      exact r.val j d' hj
  own := fun j c hj => by
    by_cases hij : i = j
    · subst hij
      have hl : i < e.length := by have := (List.getElem?_eq_some_iff.mp hj).1; rw [List.length_set] at this; exact this
      rw [List.getElem?_set_self hl] at hj
      cases hj
    · rw [List.getElem?_set_ne hij] at hj
      exact r.own j c hj
  sep := fun j k c c' a hjk hj hk ha => by
    have n1 : i ≠ j := fun z => by
      subst z
      have hl : i < e.length := by have := (List.getElem?_eq_some_iff.mp hj).1; rw [List.length_set] at this; exact this
      rw [List.getElem?_set_self hl] at hj
      cases hj
    have n2 : i ≠ k := fun z => by
      subst z
      have hl : i < e.length := by have := (List.getElem?_eq_some_iff.mp hk).1; rw [List.length_set] at this; exact this
      rw [List.getElem?_set_self hl] at hk
      cases hk
    rw [List.getElem?_set_ne n1] at hj
    rw [List.getElem?_set_ne n2] at hk
    exact r.sep j k c c' a hjk hj hk ha
  cel := r.cel
  inj := r.inj
  frm := r.frm
  new := r.new
  old := r.old
  le := r.le
  ext := r.ext
theorem RD.ext {K : PySem.W.Frag} {L : Nat} (x : Ext0 H H') {v : V} : ∀ {d : D}, RD K H f L v d → RD K H' f L v d
  | .pu _, h => Rep.ext x h
  | .wr _, h => h
  | .rf _, h => h
  | .bo _ _, h => h
  | .nw _, h => h
theorem MCok.ext {L : Nat} (x : Ext0 H H') {a : Addr} (ha : ∀ o, H a = some o → H' a = some o) : ∀ {c : MC}, MCok G H f L a c → MCok G H' f L a c
  | .lst _, ⟨vs, h, r⟩ => ⟨vs, ha _ h, Paired.mapP r fun _ _ => RD.ext x⟩
  | .dct _, ⟨qs, h, r, e⟩ => ⟨qs, by
      rcases h with ⟨kvs, h, z⟩ | ⟨kvs, h, z⟩
      · exact .inl ⟨kvs, ha _ h, z⟩
      · exact .inr ⟨kvs, ha _ h, z⟩, Paired.mapP r fun _ _ => RD.ext x, e⟩
  | .obj _ _, ⟨C, dx, us, c, h, r, e⟩ => ⟨C, dx, us, c, ha _ h, Paired.mapP r fun _ _ => RD.ext x, e⟩
  | .fz _, ⟨⟨od, u, h⟩, r⟩ => ⟨⟨od, u, x.frzs _ _ _ h⟩, Rep.ext x r⟩
theorem raw_ext {a : Addr} {o o' : HO} (h : H a = some o) (mu : Mut (some o)) : Ext0 H (upd H a o') :=
  .upd (fun xs z => by rw [h] at z; cases z; exact mu) (fun o u z => by rw [h] at z; cases z; exact mu)
/-- an own thing is changed: o' is what stands now, c' what is said of it -/
theorem R.own_set (r : R G σ H e S f) {i : Nat} {c c' : OC} {a : Addr} {o' : HO} (hi : e[i]? = some (some (.ow c))) (ha : σ[i]? = some (some (.ref a))) (hc : OCok (upd H a o') a c') : R G σ (upd H a o') (e.set i (some (.ow c'))) S f := by
  obtain ⟨a', h1, h2, h3, h4⟩ := r.own i c hi
  rw [ha] at h1
  cases h1
  obtain ⟨u, hu, mu⟩ := h2.raw
  have x := raw_ext (o' := o') hu mu
  have hl : i < e.length := (List.getElem?_eq_some_iff.mp hi).1
  have keep : ∀ b, b ≠ a → ∀ o, H b = some o → upd H a o' b = some o := fun b hb o h => by rw [upd_ne hb]; exact h
  refine ⟨by rw [List.length_set]; exact r.ln, fun j d hj => ?_, fun j k hj => ?_, fun j k d d' b hjk hj hk hb => ?_, fun n k hk => ?_, r.inj, fun b o h hn => ?_, r.new, r.old, r.le, r.ext.trans x⟩
  · by_cases hij : i = j
    · subst hij
      rw [List.getElem?_set_self hl] at hj
      cases hj
    · rw [List.getElem?_set_ne hij] at hj
      obtain ⟨v, q1, q2⟩ := r.val j d hj
      refine ⟨v, q1, ?_⟩
      cases d with
      | pu p => exact Rep.ext x q2
      | wr p => exact q2
      | rf n => exact q2
      | bo i c => exact q2
      | nw c => exact q2
  · by_cases hij : i = j
    · subst hij
      rw [List.getElem?_set_self hl] at hj
      cases hj
      exact ⟨a, ha, hc, h3, h4⟩
    · rw [List.getElem?_set_ne hij] at hj
      obtain ⟨b, q1, q2, q3, q4⟩ := r.own j k hj
      exact ⟨b, q1, OCok.nx x (keep b fun z => r.sep i j c k a hij hi hj ha (by rw [q1, z])) q2, q3, q4⟩
  · have get : ∀ {j : Nat} {d : OC}, (e.set i (some (.ow c')))[j]? = some (some (.ow d)) → ∃ d0, e[j]? = some (some (.ow d0)) := fun {j d} hj => by
      by_cases hij : i = j
      · subst hij
        exact ⟨c, hi⟩
      · rw [List.getElem?_set_ne hij] at hj
        exact ⟨d, hj⟩
    obtain ⟨d0, q1⟩ := get hj
    obtain ⟨d1, q2⟩ := get hk
    exact r.sep j k d0 d1 b hjk q1 q2 hb
  · exact MCok.ext x (keep _ (h4 n (List.getElem?_eq_some_iff.mp hk).1)) (r.cel n k hk)
  · have hb : b ≠ a := fun z => by rw [z, h3] at h; cases h
    exact keep b hb o (r.frm b o h hn)
/-- a cell is changed -/
theorem R.cel_set (r : R G σ H e S f) {n : Nat} {c c0 : MC} {o' : HO} (h0 : S[n]? = some c0) (lv : c0.live = true) (hc : MCok G (upd H (f n) o') f S.length (f n) c) : R G σ (upd H (f n) o') e (S.set n c) f ∧ Ext0 H (upd H (f n) o') := by
  have hn := (List.getElem?_eq_some_iff.mp h0).1
  obtain ⟨u, hu, mu⟩ := r.cell_mut h0 lv
  have x := raw_ext (o' := o') hu mu
  have keep : ∀ b, b ≠ f n → ∀ o, H b = some o → upd H (f n) o' b = some o := fun b hb o h => by rw [upd_ne hb]; exact h
  have len : (S.set n c).length = S.length := List.length_set
  refine ⟨⟨r.ln, fun j d hj => ?_, fun j k hj => ?_, r.sep, fun m k hk => ?_, fun m k h1 h2 => r.inj m k (by rw [← len]; exact h1) (by rw [← len]; exact h2), fun b o h hb => ?_, fun m h1 h2 => r.new m h1 (by rw [← len]; exact h2), r.old, by rw [len]; exact r.le, r.ext.trans x⟩, x⟩
  · rw [len]
    obtain ⟨v, q1, q2⟩ := r.val j d hj
    exact ⟨v, q1, RD.ext x q2⟩
  · rw [len]
    obtain ⟨a, q1, q2, q3, q4⟩ := r.own j k hj
    exact ⟨a, q1, OCok.nx x (keep a fun z => q4 n hn z.symm) q2, q3, q4⟩
  · rw [len]
    by_cases hm : n = m
    · subst hm
      rw [List.getElem?_set_self hn] at hk
      cases hk
      exact hc
    · rw [List.getElem?_set_ne hm] at hk
      exact MCok.ext x (keep _ fun z => hm (r.inj n m hn (List.getElem?_eq_some_iff.mp hk).1 z.symm)) (r.cel m k hk)
  · have q := r.frm b o h hb
    refine keep b (fun z => ?_) o q
    by_cases h0 : n < G.n0
    · exact hb n h0 z.symm
    · have w := r.new n (Nat.le_of_not_lt h0) hn
      rw [← z, h] at w
      cases w
/-- a name gets a new thing of its own -/
theorem R.own_new (r : R G σ H e S f) {i : Nat} {c : OC} {a : Addr} {o : HO} (hi : i < σ.length) (ha : H a = none) (hc : OCok (upd H a o) a c) : R G (σ.set i (some (.ref a))) (upd H a o) (e.set i (some (.ow c))) S f ∧ Ext0 H (upd H a o) := by
  have s := upd_new (o := o) ha
  have r' := (r.same s).drop i
  have hl : i < e.length := by rw [r.ln]; exact hi
  have na : ∀ (j : Nat) (c : OC) (b : Addr), e[j]? = some (some (.ow c)) → σ[j]? = some (some (.ref b)) → b ≠ a := fun j c b hj hb z => by
    obtain ⟨b', q1, q2, _⟩ := r.own j c hj
    rw [hb] at q1
    cases q1
    obtain ⟨u, hu, _⟩ := q2.raw
    rw [z, ha] at hu
    cases hu
  refine ⟨⟨by rw [List.length_set, List.length_set]; exact r.ln, fun j d hj => ?_, fun j k hj => ?_, fun j k d d' b hjk hj hk hb => ?_, r'.cel, r.inj, r'.frm, r.new, r.old, r.le, r'.ext⟩, .of s⟩
  · by_cases hij : i = j
    · subst hij
      rw [List.getElem?_set_self hl] at hj
      cases hj
    · rw [List.getElem?_set_ne hij] at hj ⊢
      exact (r.same s).val j d hj
  · by_cases hij : i = j
    · subst hij
      rw [List.getElem?_set_self hl] at hj
      cases hj
      refine ⟨a, List.getElem?_set_self hi, hc, r.free0 ha, fun n hn z => ?_⟩
      obtain ⟨u, hu, _⟩ := r.cell_at hn
      rw [z, ha] at hu
      cases hu
    · rw [List.getElem?_set_ne hij] at hj ⊢
      exact (r.same s).own j k hj
  · by_cases hij : i = j
    · subst hij
      rw [List.getElem?_set_self hi] at hb
      cases hb
      rw [List.getElem?_set_ne hjk] at hk ⊢
      exact fun z => na k d' a hk z rfl
    · rw [List.getElem?_set_ne hij] at hj hb
      by_cases hik : i = k
      · subst hik
        rw [List.getElem?_set_self hi]
        intro z
        cases z
        exact na j d a hj hb rfl
      · rw [List.getElem?_set_ne hik] at hk ⊢
        exact r.sep j k d d' b hjk hj hk hb
/-- a thing that stands by itself becomes a name's own -/
theorem R.adopt {σ : L2.St} {H : Hp} {e : Envi} {S : Sto} {f : Nat → Addr} (r : R G σ H e S f) {i : Nat} {c : OC} {a : Addr} (hi : i < σ.length) (hc : OCok H a c) (h0 : G.H0 a = none) (hn : ∀ n, n < S.length → f n ≠ a)
    (ho : ∀ (j : Nat) (c : OC) (b : Addr), e[j]? = some (some (.ow c)) → σ[j]? = some (some (.ref b)) → b ≠ a) : R G (σ.set i (some (.ref a))) H (e.set i (some (.ow c))) S f := by
  have r' := r.drop i
  have hl : i < e.length := by rw [r.ln]; exact hi
  refine ⟨by rw [List.length_set, List.length_set]; exact r.ln, fun j d hj => ?_, fun j k hj => ?_, fun j k d d' b hjk hj hk hb => ?_, r.cel, r.inj, r.frm, r.new, r.old, r.le, r.ext⟩
  · by_cases hij : i = j
    · subst hij
      rw [List.getElem?_set_self hl] at hj
      cases hj
    · rw [List.getElem?_set_ne hij] at hj ⊢
      exact r.val j d hj
  · by_cases hij : i = j
    · subst hij
      rw [List.getElem?_set_self hl] at hj
      cases hj
      exact ⟨a, List.getElem?_set_self hi, hc, h0, hn⟩
    · rw [List.getElem?_set_ne hij] at hj ⊢
      exact r.own j k hj
  · by_cases hij : i = j
    · subst hij
      rw [List.getElem?_set_self hi] at hb
      cases hb
      rw [List.getElem?_set_ne hjk] at hk ⊢
      exact fun z => ho k d' a hk z rfl
    · rw [List.getElem?_set_ne hij] at hj hb
      by_cases hik : i = k
      · subst hik
        rw [List.getElem?_set_self hi]
        intro z
        cases z
        exact ho j d a hj hb rfl
      · rw [List.getElem?_set_ne hik] at hk ⊢
        exact r.sep j k d d' b hjk hj hk hb
/-- an own thing is frozen: the name holds data -/
def frzP : OC → P
  | .lst xs => .list xs
  | .dct ps => .dict ps
theorem R.freeze (r : R G σ H e S f) {i : Nat} {c : OC} (hi : e[i]? = some (some (.ow c))) {a : Addr} (ha : σ[i]? = some (some (.ref a))) {u : HO} (hu : H a = some u) {od : Obj} : R G σ (upd H a (.frz od u)) (e.set i (some (.val (.pu (frzP c))))) S f ∧ Ext0 H (upd H a (.frz od u)) := by
  obtain ⟨a', h1, h2, h3, h4⟩ := r.own i c hi
  rw [ha] at h1
  cases h1
  obtain ⟨u', hu', mu⟩ := h2.raw
  rw [hu] at hu'
  cases hu'
  have x := raw_ext (o' := .frz od u) hu mu
  have hl : i < e.length := (List.getElem?_eq_some_iff.mp hi).1
  have keep : ∀ b, b ≠ a → ∀ o, H b = some o → upd H a (.frz od u) b = some o := fun b hb o h => by rw [upd_ne hb]; exact h
  refine ⟨⟨by rw [List.length_set]; exact r.ln, fun j d hj => ?_, fun j k hj => ?_, fun j k d d' b hjk hj hk hb => ?_, fun n k hk => ?_, r.inj, fun b o h hn => ?_, r.new, r.old, r.le, r.ext.trans x⟩, x⟩
  · by_cases hij : i = j
    · subst hij
      rw [List.getElem?_set_self hl] at hj
      cases hj
      refine ⟨_, ha, ?_⟩
      cases c with
      | lst xs =>
        obtain ⟨vs, q1, q2⟩ := h2
        rw [hu] at q1
        cases q1
        exact .lst ⟨od, upd_same⟩ (RepL.ext x q2)
      | dct ps =>
        obtain ⟨qs, q1, q2, q3⟩ := h2
        refine .dct (qs := qs) ?_ rfl rfl (RepL.ext x q2) q3
        rcases q1 with ⟨kvs, q1, z⟩ | ⟨kvs, q1, z⟩
        · rw [hu] at q1
          cases q1
          exact .inl ⟨od, kvs, upd_same, z⟩
        · rw [hu] at q1
          cases q1
          exact .inr ⟨od, kvs, upd_same, z⟩
    · rw [List.getElem?_set_ne hij] at hj
      obtain ⟨v, q1, q2⟩ := r.val j d hj
      exact ⟨v, q1, RD.ext x q2⟩
  · by_cases hij : i = j
    · subst hij
      rw [List.getElem?_set_self hl] at hj
      cases hj
    · rw [List.getElem?_set_ne hij] at hj
      obtain ⟨b, q1, q2, q3, q4⟩ := r.own j k hj
      exact ⟨b, q1, OCok.nx x (keep b fun z => r.sep i j c k a hij hi hj ha (by rw [q1, z])) q2, q3, q4⟩
  · by_cases hij : i = j
    · subst hij
      rw [List.getElem?_set_self hl] at hj
      cases hj
    · by_cases hik : i = k
      · subst hik
        rw [List.getElem?_set_self hl] at hk
        cases hk
      · rw [List.getElem?_set_ne hij] at hj
        rw [List.getElem?_set_ne hik] at hk
        exact r.sep j k d d' b hjk hj hk hb
  · exact MCok.ext x (keep _ (h4 n (List.getElem?_eq_some_iff.mp hk).1)) (r.cel n k hk)
  · have hb : b ≠ a := fun z => by rw [z, h3] at h; cases h
    exact keep b hb o (r.frm b o h hn)
end
end DL
/-! DL6: statements, loops. -/
namespace DL
open PySem PySem.Spec PyProof.Rows L2
section
variable {X : Cx} {G : Gx}

/-! ### blocks -/
def sNil : Sx := fun e S => some (.nx e S)
def sSeq (a b : Sx) : Sx := fun e S => (a e S).bind fun o => match o with
  | .nx e' S' => b e' S'
  | o => some o
theorem ds_nil : DSs X G [] sNil := pss_mono pss_nil fun T σ H h => by
  obtain ⟨e, S, f, r, o, hx, q⟩ := h
  cases hx
  exact q σ H f r (.refl _)
theorem ds_cons {st : Stmt} {rest : List Stmt} {a b : Sx} (h1 : DS X G st a) (h2 : DSs X G rest b) : DSs X G (st :: rest) (sSeq a b) := pss_mono (pss_cons h1 h2) fun T σ H h => by
  obtain ⟨e, S, f, r, o, hx, q⟩ := h
  obtain ⟨o1, h1, hx⟩ := Option.bind_eq_some_iff.mp hx
  refine ⟨e, S, f, r, o1, h1, ?_⟩
  cases o1 with
  | nx e' S' => exact fun σ' H' f' r' x => ⟨e', S', f', r', o, hx, q.pre x⟩
  | rt d e' S' => cases hx; exact q
  | bk e' S' => cases hx; exact q
  | ct e' S' => cases hx; exact q
theorem ds_one {st : Stmt} {a : Sx} (h1 : DS X G st a) : DSs X G [st] a := pss_one h1
/-- code that is never come to -/
def sNever : Sx := fun _ _ => none
theorem ds_never {sts : List Stmt} : DSs X G sts sNever := ⟨fun _ _ _ _ _ _ h => by
  obtain ⟨e, S, f, r, o, hx, q⟩ := h
  cases hx⟩
theorem d_never {st : Stmt} : DS X G st sNever := ⟨fun _ _ _ _ _ _ h => by
  obtain ⟨e, S, f, r, o, hx, q⟩ := h
  cases hx⟩
theorem ds_pass {pos} : DS X G (.Pass pos) sNil := ps_mono ps_pass fun T σ H h => by
  obtain ⟨e, S, f, r, o, hx, q⟩ := h
  cases hx
  exact q σ H f r (.refl _)
def sBreak : Sx := fun e S => some (.bk e S)
def sCont : Sx := fun e S => some (.ct e S)
theorem ds_break {pos} : DS X G (.Break pos) sBreak := ps_mono ps_break fun T σ H h => by
  obtain ⟨e, S, f, r, o, hx, q⟩ := h
  cases hx
  exact q σ H f r (.refl _)
theorem ds_cont {pos} : DS X G (.Continue pos) sCont := ps_mono ps_continue fun T σ H h => by
  obtain ⟨e, S, f, r, o, hx, q⟩ := h
  cases hx
  exact q σ H f r (.refl _)
theorem ds_doc {x j pos pos'} : DS X G (.Expr (.Constant (.str x) j pos) pos') sNil := ps_mono ps_doc fun T σ H h => by
  obtain ⟨e, S, f, r, o, hx, q⟩ := h
  cases hx
  exact q σ H f r (.refl _)

/-! ### an expression, return, if -/
def sDrop (x : Ex) : Sx := fun e S => (x e S).bind fun r => some (.nx e r.2)
theorem ds_expr {a : Expr} {x : Ex} {pos : Pos} (h : DE X G a x) (hs : swapsWith a none pos.line X.env = pure false := by rfl) : DS X G (.Expr a pos) (sDrop x) := ps_mono (ps_expr h hs) fun T σ H hw => by
  obtain ⟨e, S, f, r, o, hx, q⟩ := hw
  obtain ⟨⟨d, S1⟩, h1, hx⟩ := Option.bind_eq_some_iff.mp hx
  cases hx
  exact ⟨e, S, f, r, d, S1, h1, fun v H1 f1 r1 n1 p1 => q σ H1 f1 r1 n1.ext⟩
def sRet (x : Ex) : Sx := fun e S => (x e S).bind fun r => some (.rt r.1 e r.2)
theorem ds_ret {a : Expr} {x : Ex} {pos : Pos} (h : DE X G a x) : DS X G (.Return (some a) pos) (sRet x) := ps_mono (ps_ret h) fun T σ H hw => by
  obtain ⟨e, S, f, r, o, hx, q⟩ := hw
  obtain ⟨⟨d, S1⟩, h1, hx⟩ := Option.bind_eq_some_iff.mp hx
  cases hx
  exact ⟨e, S, f, r, d, S1, h1, fun v H1 f1 r1 n1 p1 => q v σ H1 f1 r1 n1.ext p1⟩
def sRetN : Sx := fun e S => some (.rt (.pu .none) e S)
theorem ds_retN {pos : Pos} : DS X G (.Return none pos) sRetN := ps_mono ps_retN fun T σ H hw => by
  obtain ⟨e, S, f, r, o, hx, q⟩ := hw
  cases hx
  exact q .non σ H f r (.refl _) .non
def sIf (t : Tx) (a b : Sx) : Sx := fun e S => (t e S).bind fun r => if r.1 then a e r.2 else b e r.2
theorem ds_if {c : Expr} {p q : List Stmt} {t : Tx} {a b : Sx} {pos : Pos} (hc : DT X G c t) (ha : DSs X G p a) (hb : DSs X G q b) : DS X G (.If c p q pos) (sIf t a b) := ps_mono (ps_if hc ha hb) fun T σ H hw => by
  obtain ⟨e, S, f, r, o, hx, q⟩ := hw
  obtain ⟨⟨c, S1⟩, h1, hx⟩ := Option.bind_eq_some_iff.mp hx
  refine ⟨e, S, f, r, c, S1, h1, fun H1 f1 r1 n1 => ?_⟩
  cases c with
  | true =>
    rw [if_pos rfl]
    exact ⟨e, S1, f1, r1, o, hx, q.pre n1.ext⟩
  | false =>
    rw [if_neg Bool.false_ne_true]
    exact ⟨e, S1, f1, r1, o, hx, q.pre n1.ext⟩

/-! ### freezing, forgetting -/
def sFrz (i : Nat) (s : Sx) : Sx := fun e S => match e[i]? with
  | some (some (.ow c)) => s (e.set i (some (.val (.pu (frzP c))))) S
  | _ => none
theorem ds_frz (i : Nat) {sts : List Stmt} {s : Sx} (h : DSs X G sts s) : DSs X G sts (sFrz i s) := by
  refine ⟨fun pins st σ H T I hw => ?_⟩
  obtain ⟨e, S, f, r, o, hx, q⟩ := hw
  unfold sFrz at hx
  cases he : e[i]? with
  | none => rw [he] at hx; cases hx
  | some s0 =>
    rw [he] at hx
    match s0, he, hx with
    | some (.ow c), he, hx =>
      obtain ⟨a, h1, h2, _⟩ := r.own i c he
      obtain ⟨u, hu, mu⟩ := h2.raw
      obtain ⟨od, I2⟩ := I.lock hu mu
      obtain ⟨r2, x2⟩ := r.freeze he h1 hu (od := od)
      exact h.run pins st σ _ T I2 ⟨_, S, f, r2, o, hx, q.pre x2⟩
def sDel (i : Nat) (s : Sx) : Sx := fun e S => s (e.set i none) S
theorem ds_del (i : Nat) {sts : List Stmt} {s : Sx} (h : DSs X G sts s) : DSs X G sts (sDel i s) := pss_mono h fun T σ H hw => by
  obtain ⟨e, S, f, r, o, hx, q⟩ := hw
  exact ⟨_, S, f, r.drop i, o, hx, q⟩

/-! ### targets -/
abbrev Gt := D → Envi → Sto → Option (Envi × Sto)
/-- only slots of u have changed -/
def Kept (u : Nat → Bool) (σ σ' : L2.St) : Prop := σ'.length = σ.length ∧ ∀ j, u j = false → σ'[j]? = σ[j]?
theorem Kept.refl (u : Nat → Bool) (σ : L2.St) : Kept u σ σ := ⟨rfl, fun _ _ => rfl⟩
theorem Kept.trans {u : Nat → Bool} {σ σ1 σ2 : L2.St} (a : Kept u σ σ1) (b : Kept u σ1 σ2) : Kept u σ σ2 := ⟨b.1.trans a.1, fun j h => (b.2 j h).trans (a.2 j h)⟩
theorem Kept.set {u : Nat → Bool} {σ : L2.St} {i : Nat} {v : Option V} (h : u i = true) : Kept u σ (σ.set i v) := ⟨List.length_set, fun j hj => List.getElem?_set_ne (fun z => by rw [z, hj] at h; cases h)⟩
def tGt (G : Gx) (u : Nat → Bool) (g : Gt) : TG := fun v σ H Q => ∃ e S f d, R G σ H e S f ∧ RE G σ H e f S.length v d ∧ ∃ e' S', g d e S = some (e', S') ∧ ∀ σ' H' f', R G σ' H' e' S' f' → Ext0 H H' → Kept u σ σ' → Q σ' H'
abbrev DG (X : Cx) (G : Gx) (u : Nat → Bool) (t : Expr) (g : Gt) : Prop := PG X t (tGt G u g)
theorem pg_mono {t : Expr} {g g' : TG} (h : PG X t g) (m : ∀ v σ H Q, g' v σ H Q → g v σ H Q) : PG X t g' := ⟨fun pins s σ H v u Q I r hw => h.run pins s σ H v u Q I r (m v σ H Q hw)⟩
/-- a new thing becomes a name's own -/
theorem R.take {σ : L2.St} {H : Hp} {e : Envi} {S : Sto} {f : Nat → Addr} (r : R G σ H e S f) {i : Nat} {c : OC} {v : V} (hi : i < e.length) (h : RE G σ H e f S.length v (.nw c)) : R G (σ.set i (some v)) H (e.set i (some (.ow c))) S f := by
  obtain ⟨a, e1, h1, h2, h3, h4⟩ := (show ∃ a, v = .ref a ∧ OCok H a c ∧ G.H0 a = none ∧ (∀ n, n < S.length → f n ≠ a) ∧ ∀ (j : Nat) (c' : OC), e[j]? = some (some (.ow c')) → σ[j]? ≠ some (some (.ref a)) from h)
  subst e1
  exact r.adopt (by rw [← r.ln]; exact hi) h1 h2 h3 fun j c' b hj hb z => h4 j c' hj (by rw [hb, z])
def gNm (i : Nat) : Gt := fun d e S => match d with
  | .bo _ _ => none
  | .nw c => if i < e.length then some (e.set i (some (.ow c)), S) else none
  | d => some (e.set i (some (.val d)), S)
theorem re_rd {σ : L2.St} {H : Hp} {e : Envi} {f : Nat → Addr} {L : Nat} {v : V} : ∀ {d : D}, RE G σ H e f L v d → noBo [d] = true → RD G.K H f L v d
  | .pu _, h, _ => h
  | .wr _, h, _ => h
  | .rf _, h, _ => h
  | .bo _ _, _, n => by cases n
  | .nw _, _, n => by cases n
theorem dg_name {u : Nat → Bool} {i : Nat} {x : Str} {pos : Pos} (hu : u i = true) (hN : X.N.Nodup) (hi : X.N[i]? = some x) (hx : Loc X.env.scope x) (hf : X.fn x = true ∨ X.env.scope.names.lookup x = some .local := by first | exact .inl rfl | exact .inr rfl | assumption) : DG X G u (.Name x pos) (gNm i) :=
  pg_mono (pg_name hN hi hx hf) fun v σ H Q hw => by
    obtain ⟨e, S, f, d, r, p, e', S', hg, q⟩ := hw
    cases d with
    | bo j c => cases hg
    | pu p' => cases hg; exact q _ H f (r.set p) (.refl _) (.set hu)
    | wr p' => cases hg; exact q _ H f (r.set p) (.refl _) (.set hu)
    | rf n => cases hg; exact q _ H f (r.set p) (.refl _) (.set hu)
    | nw c =>
      have hg : (if i < e.length then some (e.set i (some (.ow c)), S) else none) = some (e', S') := hg
      by_cases hl : i < e.length
      · rw [if_pos hl] at hg
        cases hg
        exact q _ H f (r.take hl p) (.refl _) (.set hu)
      · rw [if_neg hl] at hg
        cases hg
abbrev Gts := List D → Envi → Sto → Option (Envi × Sto)
def tGts (G : Gx) (u : Nat → Bool) (g : Gts) : TGs := fun vs σ H Q => ∃ e S f ds, R G σ H e S f ∧ Paired (RD G.K H f S.length) vs ds ∧ ∃ e' S', g ds e S = some (e', S') ∧ ∀ σ' H' f', R G σ' H' e' S' f' → Ext0 H H' → Kept u σ σ' → Q σ' H'
abbrev DGs (X : Cx) (G : Gx) (u : Nat → Bool) (t : List Expr) (g : Gts) : Prop := PGs X t (tGts G u g)
def gtNil : Gts := fun ds e S => match ds with
  | [] => some (e, S)
  | _ => none
/-- the rest are data when the first is stored -/
def gtCons (g : Gt) (r : Gts) : Gts := fun ds e S => match ds with
  | d :: ds => (pusW ds).bind fun _ => (g d e S).bind fun q => r ds q.1 q.2
  | [] => none
where pusW : List D → Option Unit
  | [] => some ()
  | .pu _ :: r => pusW r
  | .wr _ :: r => pusW r
  | _ :: _ => none
theorem dgs_nil {u : Nat → Bool} : DGs X G u [] gtNil := ⟨fun pins s σ H vs us Q I r hw => pgs_nil.run pins s σ H vs us Q I r (by
  obtain ⟨e, S, f, ds, r0, p, e', S', hg, q⟩ := hw
  cases ds with
  | nil =>
    cases hg
    cases p
    exact ⟨rfl, q σ H f r0 (.refl _) (.refl _ _)⟩
  | cons d ds => cases hg)⟩
theorem pusW_ext {H H' : Hp} {f f' : Nat → Addr} {L L' : Nat} (x : Ext0 H H') : ∀ {vs : List V} {ds : List D}, gtCons.pusW ds = some () → Paired (RD G.K H f L) vs ds → Paired (RD G.K H' f' L') vs ds
  | _, _, _, .nil => .nil
  | _, .pu _ :: _, h, .cons p t => .cons (Rep.ext x p) (pusW_ext x h t)
  | _, .wr _ :: _, h, .cons p t => .cons p (pusW_ext x h t)
theorem dgs_cons {u : Nat → Bool} {t : Expr} {ts : List Expr} {g : Gt} {r : Gts} (h1 : DG X G u t g) (h2 : DGs X G u ts r) (hs : (assignEach (t :: ts) X.env).map (·.2) = assign t X.env :: (assignEach ts X.env).map (·.2) := by rfl) : DGs X G u (t :: ts) (gtCons g r) :=
  ⟨fun pins s σ H vs us Q I rr hw => (pgs_cons h1 h2 hs).run pins s σ H vs us Q I rr (by
    obtain ⟨e, S, f, ds, r0, p, e', S', hg, q⟩ := hw
    cases ds with
    | nil => cases hg
    | cons d ds =>
      cases p with
      | cons pd pt =>
        obtain ⟨u1, h3, hg⟩ := Option.bind_eq_some_iff.mp hg
        obtain ⟨⟨e1, S1⟩, h4, hg⟩ := Option.bind_eq_some_iff.mp hg
        refine ⟨_, _, rfl, e, S, f, d, r0, pd.re, e1, S1, h4, fun σ1 H1 f1 r1 x1 k1 => ?_⟩
        exact ⟨e1, S1, f1, ds, r1, pusW_ext x1 h3 pt, e', S', hg, fun σ2 H2 f2 r2 x2 k2 => q σ2 H2 f2 r2 (x1.trans x2) (k1.trans k2)⟩)⟩
def gtTup (n : Nat) (g : Gts) : Gt := fun d e S => match seqD d S with
  | some (true, ds) => if ds.length = n then g ds e S else none
  | _ => none
def gtLst (n : Nat) (g : Gts) : Gt := fun d e S => match seqD d S with
  | some (_, ds) => if ds.length = n then g ds e S else none
  | _ => none
theorem dg_tup {u : Nat → Bool} {es : List Expr} {k : Nat} {g : Gts} {pos : Pos} {n : Nat} (hK : X.K = G.K) (hc : X.calm = true) (h : DGs X G u es g)
    (hn : (assignEach es X.env).length = n := by rfl) (hst : (assignEach es X.env).findIdx? (·.1) = none := by rfl) : DG X G u (.Tuple es k pos) (gtTup n g) :=
  pg_mono (pg_tup hc h hn hst) fun v σ H Q hw => by
    obtain ⟨e, S, f, d, r, p, e', S', hg, q⟩ := hw
    unfold gtTup at hg
    cases hs : seqD d S with
    | none => rw [hs] at hg; cases hg
    | some kd =>
      obtain ⟨b, ds⟩ := kd
      rw [hs] at hg
      cases b with
      | false => cases hg
      | true =>
        dsimp only at hg
        by_cases c : ds.length = n
        · rw [if_pos c] at hg
          obtain ⟨a, vs, rfl, ht, _, hp⟩ := seq_ok r p hs
          rw [hK]
          exact ⟨a, vs, rfl, ht rfl, by rw [Paired.length hp]; exact c, e, S, f, ds, r, hp, e', S', hg, q⟩
        · rw [if_neg c] at hg
          cases hg
theorem pg_orG {t : Expr} {g g' : TG} (h : PG X t g) (h' : PG X t g') : PG X t (fun v σ H Q => g v σ H Q ∨ g' v σ H Q) := ⟨fun pins s σ H v u Q I r hw => hw.elim (h.run pins s σ H v u Q I r) (h'.run pins s σ H v u Q I r)⟩
theorem dg_any {u : Nat → Bool} {es : List Expr} {k : Nat} {g : Gts} {pos : Pos} {n : Nat} (hK : X.K = G.K) (hc : X.calm = true) (h : DGs X G u es g)
    (hn : (assignEach es X.env).length = n := by rfl) (hst : (assignEach es X.env).findIdx? (·.1) = none := by rfl) : DG X G u (.Tuple es k pos) (gtLst n g) :=
  pg_mono (pg_orG (pg_tup hc h hn hst) (pg_unl hc h hn hst)) fun v σ H Q hw => by
    obtain ⟨e, S, f, d, r, p, e', S', hg, q⟩ := hw
    unfold gtLst at hg
    cases hs : seqD d S with
    | none => rw [hs] at hg; cases hg
    | some kd =>
      obtain ⟨b, ds⟩ := kd
      rw [hs] at hg
      dsimp only at hg
      by_cases c : ds.length = n
      · rw [if_pos c] at hg
        obtain ⟨a, vs, rfl, ht, hl, hp⟩ := seq_ok r p hs
        rw [hK]
        cases b with
        | true => exact .inl ⟨a, vs, rfl, ht rfl, by rw [Paired.length hp]; exact c, e, S, f, ds, r, hp, e', S', hg, q⟩
        | false => exact .inr ⟨a, vs, rfl, hl rfl, by rw [Paired.length hp]; exact c, e, S, f, ds, r, hp, e', S', hg, q⟩
      · rw [if_neg c] at hg
        cases hg
/-! ### target = value -/
def sAsg (x : Ex) (g : Gt) : Sx := fun e S => (x e S).bind fun r => (g r.1 e r.2).bind fun q => some (.nx q.1 q.2)
theorem ds_asg {u : Nat → Bool} {tg a : Expr} {x : Ex} {g : Gt} {pos : Pos} (ha : DE X G a x) (hg : DG X G u tg g) (hs : swapsWithSole [tg] a pos.line X.env = pure false := by rfl) (hw : swappedStores [tg] a X.env = pure none := by rfl)
    (h1 : (assignEach [tg] X.env).map (·.2) = [assign tg X.env] := by rfl) : DS X G (.Assign [tg] a pos) (sAsg x g) := ps_mono (ps_asg ha hg hs hw h1) fun T σ H hw => by
  obtain ⟨e, S, f, r, o, hx, q⟩ := hw
  obtain ⟨⟨d, S1⟩, h1, hx⟩ := Option.bind_eq_some_iff.mp hx
  obtain ⟨⟨e2, S2⟩, h2, hx⟩ := Option.bind_eq_some_iff.mp hx
  cases hx
  refine ⟨e, S, f, r, d, S1, h1, fun v H1 f1 r1 n1 p1 => ?_⟩
  exact ⟨e, S1, f1, d, r1, p1, e2, S2, h2, fun σ2 H2 f2 r2 x2 _ => q σ2 H2 f2 r2 (n1.ext.trans x2)⟩
def sSet (i : Nat) (x : Ex) : Sx := sAsg x (gNm i)
theorem ds_set {i : Nat} {x : Str} {a : Expr} {xa : Ex} {pos pos' : Pos} (hN : X.N.Nodup) (hi : X.N[i]? = some x) (hx : Loc X.env.scope x) (ha : DE X G a xa) (hs : swapsWith a (some (.Name x pos')) pos.line X.env = pure false := by rfl) (hf : X.fn x = true ∨ X.env.scope.names.lookup x = some .local := by first | exact .inl rfl | exact .inr rfl | assumption) : DS X G (.Assign [.Name x pos'] a pos) (sSet i xa) :=
  ps_mono (ps_set hN hi hx ha hs hf) fun T σ H hw => by
    obtain ⟨e, S, f, r, o, hx, q⟩ := hw
    obtain ⟨⟨d, S1⟩, h1, hx⟩ := Option.bind_eq_some_iff.mp hx
    obtain ⟨⟨e2, S2⟩, h2, hx⟩ := Option.bind_eq_some_iff.mp hx
    cases hx
    refine ⟨e, S, f, r, d, S1, h1, fun v H1 f1 r1 n1 p1 => ?_⟩
    cases d with
    | bo j c => cases h2
    | pu p' => cases h2; exact q _ H1 f1 (r1.set p1) n1.ext
    | wr p' => cases h2; exact q _ H1 f1 (r1.set p1) n1.ext
    | rf n => cases h2; exact q _ H1 f1 (r1.set p1) n1.ext
    | nw c =>
      have h2 : (if i < e.length then some (e.set i (some (.ow c)), S1) else none) = some (e2, S2) := h2
      by_cases hl : i < e.length
      · rw [if_pos hl] at h2
        cases h2
        exact q _ H1 f1 (r1.take hl p1) n1.ext
      · rw [if_neg hl] at h2
        cases h2
/-- a, b = x, y: plain names -/
def sPar (i j : Nat) (a : Ax) : Sx := fun e S => (a e S).bind fun r => match r.1 with
  | [d, d'] => if noBo [d, d'] then some (.nx ((e.set i (some (.val d))).set j (some (.val d'))) r.2) else none
  | _ => none
theorem ds_par {i j : Nat} {x y : Str} {a b : Expr} {xa : Ax} {px py pt : Pos} {kt k2 pt2} {pos : Pos} (hc : X.calm = true) (hN : X.N.Nodup) (hi : X.N[i]? = some x) (hj : X.N[j]? = some y) (hij : i ≠ j)
    (hx : X.env.scope.names.lookup x = some .local) (hy : X.env.scope.names.lookup y = some .local) (ha : DA X G [a, b] xa)
    (hw : swappedStores [.Tuple [.Name x px, .Name y py] kt pt] (.Tuple [a, b] k2 pt2) X.env = pure (some [x, y]))
    (hs : swapsWithSole [.Tuple [.Name x px, .Name y py] kt pt] (.Tuple [a, b] k2 pt2) pos.line X.env = pure false := by rfl) :
    DS X G (.Assign [.Tuple [.Name x px, .Name y py] kt pt] (.Tuple [a, b] k2 pt2) pos) (sPar i j xa) := ps_mono (ps_par hc hN hi hj hij hx hy ha hw hs) fun T σ H hw => by
  obtain ⟨e, S, f, r, o, hx, q⟩ := hw
  obtain ⟨⟨ds, S1⟩, h1, hx⟩ := Option.bind_eq_some_iff.mp hx
  match ds, hx with
  | [d, d'], hx =>
    dsimp only at hx
    by_cases c : noBo [d, d'] = true
    · rw [if_pos c] at hx
      cases hx
      refine ⟨e, S, f, r, _, S1, h1, fun vs H1 f1 r1 n1 p1 => ?_⟩
      cases re_rds p1 c with
      | cons q1 t1 =>
        cases t1 with
        | cons q2 t2 =>
          cases t2
          exact ⟨_, _, rfl, q _ H1 f1 ((r1.set q1).set q2) n1.ext⟩
    · rw [if_neg c] at hx
      cases hx
/-! ### name op= e -/
def sAug (i : Nat) (g : D → D → Sto → Option (D × Sto)) (x : Ex) : Sx := fun e S => (xVar i e S).bind fun r => (x e r.2).bind fun q => (g r.1 q.1 q.2).bind fun z => (gNm i z.1 e z.2).bind fun w => some (.nx w.1 w.2)
/-- a rule for op= by values -/
def V2i (G : Gx) (r : TIp) (g : D → D → Sto → Option (D × Sto)) : Prop := ∀ σ H e S f x y dx dy d S' (Q : VK), R G σ H e S f → RE G σ H e f S.length x dx → RE G σ H e f S.length y dy → g dx dy S = some (d, S') → Fin G σ e H f S S' d Q → r x y H Q
theorem ds_aug {i : Nat} {x : Str} {a : Expr} {xa : Ex} {op : Operator} {ti : TIp} {g : D → D → Sto → Option (D × Sto)} {pos pos' : Pos} (hN : X.N.Nodup) (hi : X.N[i]? = some x) (hx : Loc X.env.scope x) (ha : DE X G a xa) (ho : PIp X op ti) (hv : V2i G ti g) (hf : X.fn x = true ∨ X.env.scope.names.lookup x = some .local := by first | exact .inl rfl | exact .inr rfl | assumption) : DS X G (.AugAssign (.Name x pos') op a pos) (sAug i g xa) :=
  ps_mono (ps_aug hN hi hx ha ho hf) fun T σ H hw => by
    obtain ⟨e, S, f, r, o, hx, q⟩ := hw
    obtain ⟨⟨d0, S0⟩, h0, hx1⟩ := Option.bind_eq_some_iff.mp hx
    obtain ⟨rfl, v0, hv0, p0⟩ := r.re h0
    obtain ⟨⟨d1, S1⟩, h1, hx2⟩ := Option.bind_eq_some_iff.mp hx1
    obtain ⟨⟨d2, S2⟩, h2, hx3⟩ := Option.bind_eq_some_iff.mp hx2
    obtain ⟨⟨e3, S3⟩, h3, hx4⟩ := Option.bind_eq_some_iff.mp hx3
    cases hx4
    refine ⟨v0, hv0, e, S0, f, r, d1, S1, h1, fun v1 H1 f1 r1 n1 p1 => ?_⟩
    refine hv σ H1 e S1 f1 v0 v1 d0 d1 d2 S2 _ r1 (p0.nx n1) p1 h2 fun v2 H2 f2 r2 n2 p2 => ?_
    cases d2 with
    | bo j c => cases h3
    | pu p' => cases h3; exact q _ H2 f2 (r2.set p2) (n1.trans n2).ext
    | wr p' => cases h3; exact q _ H2 f2 (r2.set p2) (n1.trans n2).ext
    | rf n => cases h3; exact q _ H2 f2 (r2.set p2) (n1.trans n2).ext
    | nw c =>
      have h3 : (if i < e.length then some (e.set i (some (.ow c)), S2) else none) = some (e3, S3) := h3
      by_cases hl : i < e.length
      · rw [if_pos hl] at h3
        cases h3
        exact q _ H2 f2 (r2.take hl p2) (n1.trans n2).ext
      · rw [if_neg hl] at h3
        cases h3
theorem v_iI {h : Int → Int → Int} : V2i G (ipI h) (s2 (pI (fun _ _ => true) h)) := by
  intro σ H e S f x y dx dy d S' Q r0 rx ry hg q
  cases dx with
  | pu a =>
    cases dy with
    | pu b =>
      obtain ⟨c, hc, hd⟩ := Option.bind_eq_some_iff.mp (show (pI (fun _ _ => true) h a b).bind _ = _ from hg)
      cases hd
      cases (show Rep H x a from rx) with
      | int i =>
        cases (show Rep H y b from ry) with
        | int j =>
          cases hc
          exact ⟨i, j, rfl, rfl, q _ H f r0 (.refl _ _ _) (.int _)⟩
        | _ => cases hc
      | _ => cases hc
    | _ => cases hg
  | _ => cases hg
/-! ### a new list, dict of a name's own -/
def sOwnL (i : Nat) (a : Ax) : Sx := fun e S => (a e S).bind fun r => (pusOf r.1).bind fun ps => if ps.length ≤ lim then some (.nx (e.set i (some (.ow (.lst ps)))) r.2) else none
theorem ds_ownL {i : Nat} {x : Str} {es : List Expr} {xa : Ax} {lp pos pos' : Pos} (hN : X.N.Nodup) (hi : X.N[i]? = some x) (hx : Loc X.env.scope x) (ha : DA X G es xa) (hs : swapsWith (.List es lp) (some (.Name x pos')) pos.line X.env = pure false := by rfl) (hf : X.fn x = true ∨ X.env.scope.names.lookup x = some .local := by first | exact .inl rfl | exact .inr rfl | assumption) : DS X G (.Assign [.Name x pos'] (.List es lp) pos) (sOwnL i xa) :=
  ⟨fun pins s σ H T I hw => (ps_set hN hi hx (pe_lst ha) hs hf).run pins s σ H T I (by
    have hil : i < σ.length := by rw [I.len]; exact (List.getElem?_eq_some_iff.mp hi).1
    obtain ⟨e, S, f, r, o, hx, q⟩ := hw
    obtain ⟨⟨ds, S1⟩, h1, hx⟩ := Option.bind_eq_some_iff.mp hx
    obtain ⟨ps, h2, hx⟩ := Option.bind_eq_some_iff.mp hx
    by_cases c : ps.length ≤ lim
    · rw [if_pos c] at hx
      cases hx
      refine ⟨e, S, f, r, ds, S1, h1, fun vs H1 f1 r1 n1 p1 => ?_⟩
      have e2 := pusOf_eq h2
      dsimp only at e2
      subst e2
      have rp := re_reps p1
      refine ⟨by rw [rp.length, ← lim_eq]; exact c, fun p np => ?_⟩
      obtain ⟨r2, x2⟩ := r1.own_new (i := i) (c := .lst ps) (o := .lst vs) hil np ⟨vs, upd_same, RepL.ext (.of (upd_new np)) rp⟩
      exact q _ _ f1 r2 (n1.ext.trans x2)
    · rw [if_neg c] at hx
      cases hx)⟩
def sOwnD (i : Nat) : Sx := fun e S => some (.nx (e.set i (some (.ow (.dct [])))) S)
theorem ds_ownD {i : Nat} {x : Str} {lp pos pos' : Pos} (hN : X.N.Nodup) (hi : X.N[i]? = some x) (hx : Loc X.env.scope x) (hs : swapsWith (.Dict [] [] lp) (some (.Name x pos')) pos.line X.env = pure false := by rfl) (hf : X.fn x = true ∨ X.env.scope.names.lookup x = some .local := by first | exact .inl rfl | exact .inr rfl | assumption) : DS X G (.Assign [.Name x pos'] (.Dict [] [] lp) pos) (sOwnD i) :=
  ⟨fun pins s σ H T I hw => (ps_set hN hi hx pe_dnewT hs hf).run pins s σ H T I (by
    have hil : i < σ.length := by rw [I.len]; exact (List.getElem?_eq_some_iff.mp hi).1
    obtain ⟨e, S, f, r, o, hx, q⟩ := hw
    cases hx
    refine fun p np => ?_
    obtain ⟨r2, x2⟩ := r.own_new (i := i) (c := .dct []) (o := .dT []) hil np ⟨[], .inr ⟨[], upd_same, rfl⟩, .nil, rfl⟩
    exact q _ _ f r2 x2)⟩
/-! ### xs.append(e) -/
def putL (d : D) (f : List D → Option (List D)) (e : Envi) (S : Sto) : Option (Envi × Sto) := match d with
  | .bo i (.lst _) => match e[i]? with
    | some (some (.ow (.lst xs))) => (f (xs.map .pu)).bind fun ds => (pusOf ds).bind fun ps => if ps.length ≤ lim then some (e.set i (some (.ow (.lst ps))), S) else none
    | _ => none
  | .rf n => match S[n]? with
    | some (.lst xs) => (f xs).bind fun ds => if ds.length ≤ lim then some (e, S.set n (.lst ds)) else none
    | _ => none
  | _ => none
/-- a list is written anew -/
theorem putL_ok {σ : L2.St} {H : Hp} {e e' : Envi} {S S' : Sto} {f : Nat → Addr} {v : V} {d : D} {g : List D → Option (List D)} (r : R G σ H e S f) (p : RE G σ H e f S.length v d) (h : putL d g e S = some (e', S')) :
    ∃ a vs ds ds', v = .ref a ∧ H a = some (.lst vs) ∧ Paired (RD G.K H f S.length) vs ds ∧ g ds = some ds' ∧ ds'.length ≤ sizeLine ∧ ∀ vs', Paired (RD G.K H f S.length) vs' ds' → R G σ (upd H a (.lst vs')) e' S' f ∧ Ext0 H (upd H a (.lst vs')) := by
  cases d with
  | pu p => cases h
  | wr p => cases h
  | nw c => cases h
  | rf n =>
    obtain ⟨e1, l⟩ := (show v = .ref (f n) ∧ n < S.length from p)
    subst e1
    unfold putL at h
    dsimp only at h
    cases hc : S[n]? with
    | none => rw [hc] at h; cases h
    | some c =>
      rw [hc] at h
      cases c with
      | lst xs =>
        obtain ⟨ds', h1, h⟩ := Option.bind_eq_some_iff.mp h
        by_cases c : ds'.length ≤ lim
        · rw [if_pos c] at h
          cases h
          obtain ⟨vs, h2, h3⟩ := r.cel n _ hc
          refine ⟨f n, vs, xs, ds', rfl, h2, h3, h1, by rw [← lim_eq]; exact c, fun vs' hp => ?_⟩
          have x := raw_ext (o' := .lst vs') h2 trivial
          exact r.cel_set hc rfl ⟨vs', upd_same, Paired.mapP hp fun _ _ => RD.ext x⟩
        · rw [if_neg c] at h
          cases h
      | _ => cases h
  | bo i c =>
    cases c with
    | dct ps => cases h
    | lst xs0 =>
      obtain ⟨h1, h2⟩ := (show σ[i]? = some (some v) ∧ e[i]? = some (some (.ow (.lst xs0))) from p)
      unfold putL at h
      dsimp only at h
      rw [h2] at h
      obtain ⟨ds', h3, h⟩ := Option.bind_eq_some_iff.mp h
      obtain ⟨ps, h4, h⟩ := Option.bind_eq_some_iff.mp h
      by_cases c : ps.length ≤ lim
      · rw [if_pos c] at h
        cases h
        have e4 := pusOf_eq h4
        subst e4
        obtain ⟨a, q1, ⟨vs, q2, q3⟩, _⟩ := r.own i _ h2
        rw [h1] at q1
        cases q1
        refine ⟨a, vs, _, _, rfl, q2, reps_rd q3, h3, by rw [List.length_map, ← lim_eq]; exact c, fun vs' hp => ?_⟩
        have x := raw_ext (o' := .lst vs') q2 trivial
        exact ⟨r.own_set h2 h1 ⟨vs', upd_same, RepL.ext x (rd_reps hp)⟩, x⟩
      · rw [if_neg c] at h
        cases h
def sApp (a x : Ex) : Sx := fun e S => (a e S).bind fun r => (lstD r.1 r.2).bind fun _ => (x e r.2).bind fun q => if noBo [q.1] then (putL r.1 (fun ds => some (ds ++ [q.1])) e q.2).bind fun w => some (.nx w.1 w.2) else none
theorem ds_app {o a : Expr} {xo xa : Ex} {apos cpos pos : Pos} (ho : DE X G o xo) (ha : DE X G a xa)
    (hbase : attributeBase o "append" X.env (eval o X.env) = eval o X.env := by rfl)
    (hfew : ((backTo cpos (starEach [a] X.env)).all (fun x => !x.1) && (backToKw cpos (keywordEach [] X.env)).all (fun x => x.1.isSome)
      && decide (([a] : List Expr).length + ([] : List Keyword).length + (if ([] : List Keyword).isEmpty then 0 else 1) < 30)) = true := by rfl)
    (hline : (apos.endLine == cpos.line) = true := by rfl) (hs : starEach [a] X.env = (false, eval a X.env) :: starEach [] X.env := by rfl) (hplain : (backTo cpos (starEach [] X.env)).any (·.1) = false := by rfl) (hsw : swapsWith (.Call (.Attribute o "append" apos) [a] [] cpos) none pos.line X.env = pure false := by rfl) :
    DS X G (.Expr (.Call (.Attribute o "append" apos) [a] [] cpos) pos) (sApp xo xa) :=
  ps_mono (ps_expr (pe_bm PySem.F.plainAttrs_list PySem.F.slot_list_append PySem.F.type_list_append mt_append ho (pa_cons ha pa_nil hs) hbase hfew hline hs hplain) hsw) fun T σ H hw => by
    obtain ⟨e, S, f, r, o, hx, q⟩ := hw
    obtain ⟨⟨d0, S0⟩, h0, hx⟩ := Option.bind_eq_some_iff.mp hx
    obtain ⟨l0, hl0, hx⟩ := Option.bind_eq_some_iff.mp hx
    obtain ⟨⟨d1, S1⟩, h1, hx⟩ := Option.bind_eq_some_iff.mp hx
    by_cases c : noBo [d1] = true
    · rw [if_pos c] at hx
      obtain ⟨⟨e2, S2⟩, h2, hx⟩ := Option.bind_eq_some_iff.mp hx
      cases hx
      refine ⟨e, S, f, r, d0, S0, h0, fun v0 H0 f0 r0 n0 p0 => ?_⟩
      refine ⟨?_, e, S0, f0, r0, d1, S1, h1, fun v1 H1 f1 r1 n1 p1 => ?_⟩
      · obtain ⟨a, xs, e1, e2, _⟩ := lst_rd r0 p0 hl0
        subst e1
        exact .inl ⟨rfl, xs, .inl e2⟩
      · obtain ⟨a, vs, ds, ds', e1, hv, hp, hg, hz, k⟩ := putL_ok r1 (p0.nx n1) h2
        cases hg
        have pd := re_rd p1 c
        obtain ⟨r2, x2⟩ := k (vs ++ [v1]) (Paired.app hp (.cons pd .nil))
        rw [List.length_append, List.length_singleton, ← Paired.length hp] at hz
        exact ⟨a, vs, v1, e1, rfl, hv, hz, q _ _ f1 r2 ((n0.trans n1).ext.trans x2)⟩
    · rw [if_neg c] at hx
      cases hx
end
end DL
/-! DL7: what is walked; for, while. -/
namespace DL
open PySem PySem.Spec PyProof.Rows L2

/-- the iterator J gives these items, whatever comes to the heap -/
structure Walk (K : PySem.W.Frag) (J : It) (H1 : Hp) (ds : List D) : Prop where
  go : ∀ H i d, Ext0 H1 H → ds[i]? = some d → J.go i H
  yld : ∀ H i d x H2, Ext0 H1 H → ds[i]? = some d → J.yld i H x H2 → Same H H2 ∧ RD K H2 (fun _ => 0) 0 x d
  stop : ∀ H, Ext0 H1 H → J.stop ds.length H
abbrev Ix := Envi → Sto → Option (List D × Sto)
def tIx (G : Gx) (x : Ix) : TI := fun σ H Rr => ∃ e S f, R G σ H e S f ∧ ∃ ds S', x e S = some (ds, S') ∧
  ∀ J H' f', R G σ H' e S' f' → Nx H H' f f' S.length S'.length → Walk G.K J H' ds → Rr J H'
abbrev DI (X : Cx) (G : Gx) (tg a : Expr) (x : Ix) : Prop := PI X tg a (tIx G x)
theorem pi_mono {X : Cx} {tg a : Expr} {t t' : TI} (h : PI X tg a t) (m : ∀ σ H Q, t' σ H Q → t σ H Q) : PI X tg a t' := ⟨fun pins s σ H Q I hw => h.run pins s σ H Q I (m σ H Q hw)⟩
theorem pi_orI {X : Cx} {tg a : Expr} {t t' : TI} (h : PI X tg a t) (h' : PI X tg a t') : PI X tg a (fun σ H Q => t σ H Q ∨ t' σ H Q) := ⟨fun pins s σ H Q I hw => hw.elim (h.run pins s σ H Q I) (h'.run pins s σ H Q I)⟩
theorem rd_any {K : PySem.W.Frag} {H : Hp} {f : Nat → Addr} {L : Nat} {x : V} : ∀ {d : D}, RD K H (fun _ => 0) 0 x d → RD K H f L x d
  | .pu _, h => h
  | .wr _, h => h
  | .rf _, h => absurd h.2 (Nat.not_lt_zero _)
  | .bo _ _, h => h
  | .nw _, h => h
/-- items that stay: data -/
def itemsD : D → Option (Bool × List D)
  | .pu (.list xs) => some (false, xs.map .pu)
  | .pu (.tuple xs) => some (true, xs.map .pu)
  | .wr (.list xs) => some (false, xs.map wrD)
  | .wr (.tuple xs) => some (true, xs.map wrD)
  | _ => none
def keysD : D → Option (List D)
  | .pu (.dict ps) => some (ps.map fun p => .pu p.1)
  | _ => none
section
variable {X : Cx} {G : Gx}
theorem reps_rd0 {K : PySem.W.Frag} {H : Hp} : ∀ {vs : List V} {ps : List P}, RepL H vs ps → Paired (RD K H (fun _ => 0) 0) vs (ps.map .pu)
  | _, _, .nil => .nil
  | _, _, .cons h t => .cons h (reps_rd0 t)
theorem wrs_rd0 {K : PySem.W.Frag} {H : Hp} : ∀ {vs : List V} {ps : List P}, RepWL K vs ps → Paired (RD K H (fun _ => 0) 0) vs (ps.map wrD)
  | _, _, .nil => .nil
  | _, _, .cons h t => .cons (wr_rd h) (wrs_rd0 t)
/-- what stands for items stays -/
theorem items_ok {σ : L2.St} {H : Hp} {e : Envi} {f : Nat → Addr} {L : Nat} {v : V} {d : D} {k : Bool} {ds : List D} (h : RE G σ H e f L v d) (hs : itemsD d = some (k, ds)) :
    ∃ a vs, v = .ref a ∧ ∀ H', Ext0 H H' → (k = true → SqT G.K H' a vs) ∧ (k = false → SqL G.K H' a vs) ∧ Paired (RD G.K H' (fun _ => 0) 0) vs ds := by
  cases d with
  | pu p =>
    cases p with
    | list xs =>
      cases hs
      cases (show Rep H v (.list xs) from h) with
      | lst h1 h2 => exact ⟨_, _, rfl, fun H' x => ⟨fun z => (by cases z), fun _ => (h1.ext x).sq, reps_rd0 (RepL.ext x h2)⟩⟩
    | tuple xs =>
      cases hs
      cases (show Rep H v (.tuple xs) from h) with
      | tup h1 h2 => exact ⟨_, _, rfl, fun H' x => ⟨fun _ => SqT.of (x.tups _ _ h1), fun z => (by cases z), reps_rd0 (RepL.ext x h2)⟩⟩
    | _ => cases hs
  | wr p =>
    cases p with
    | list xs =>
      cases hs
      cases (show RepW G.K v (.list xs) from h) with
      | lst h1 h2 h3 h4 h5 h6 h7 => exact ⟨_, _, rfl, fun H' _ => ⟨fun z => (by cases z), fun _ => .inr ⟨_, _, _, h1, h2, h3, h4, h5, h6⟩, wrs_rd0 h7⟩⟩
    | tuple xs =>
      cases hs
      cases (show RepW G.K v (.tuple xs) from h) with
      | tup h1 h2 h3 h4 h5 h6 h7 => exact ⟨_, _, rfl, fun H' _ => ⟨fun _ => .inr ⟨_, _, _, h1, h2, h4, h5, h6⟩, fun z => (by cases z), wrs_rd0 h7⟩⟩
    | _ => cases hs
  | rf n => cases hs
  | bo i c => cases hs
  | nw c => cases hs
theorem paired_len {α β : Type} {F : α → β → Prop} {l : List α} {m : List β} (h : Paired F l m) : l.length = m.length := Paired.length h
theorem walk_l {H : Hp} {a : Addr} {vs : List V} {ds : List D} (hl : ∀ H', Ext0 H H' → SqL G.K H' a vs ∧ Paired (RD G.K H' (fun _ => 0) 0) vs ds) : Walk G.K (Itl G.K a) H ds where
  go := fun H' i d x hd => by
    obtain ⟨h1, h2⟩ := hl H' x
    obtain ⟨v, hv, _⟩ := Paired.get2 h2 hd
    exact ⟨vs, v, h1, hv⟩
  yld := fun H' i d v H2 x hd hy => by
    obtain ⟨h1, h2⟩ := hl H' x
    obtain ⟨rfl, hy⟩ := hy
    obtain ⟨u, hu, p⟩ := Paired.get2 h2 hd
    have e := hy vs h1
    rw [hu] at e
    cases e
    exact ⟨.refl _, p⟩
  stop := fun H' x => by
    obtain ⟨h1, h2⟩ := hl H' x
    exact ⟨vs, h1, Nat.le_of_eq (paired_len h2)⟩
theorem walk_t {H : Hp} {a : Addr} {vs : List V} {ds : List D} (hl : ∀ H', Ext0 H H' → SqT G.K H' a vs ∧ Paired (RD G.K H' (fun _ => 0) 0) vs ds) : Walk G.K (Itt G.K a) H ds where
  go := fun H' i d x hd => by
    obtain ⟨h1, h2⟩ := hl H' x
    obtain ⟨v, hv, _⟩ := Paired.get2 h2 hd
    exact ⟨vs, v, h1, hv⟩
  yld := fun H' i d v H2 x hd hy => by
    obtain ⟨h1, h2⟩ := hl H' x
    obtain ⟨rfl, hy⟩ := hy
    obtain ⟨u, hu, p⟩ := Paired.get2 h2 hd
    have e := hy vs h1
    rw [hu] at e
    cases e
    exact ⟨.refl _, p⟩
  stop := fun H' x => by
    obtain ⟨h1, h2⟩ := hl H' x
    exact ⟨vs, h1, Nat.le_of_eq (paired_len h2)⟩
/-- a list, a tuple -/
def iSeq (x : Ex) : Ix := fun e S => (x e S).bind fun r => (itemsD r.1).bind fun q => some (q.2, r.2)
theorem di_seq {tg a : Expr} {x : Ex} (hK : X.K = G.K) (h : DE X G a x) : DI X G tg a (iSeq x) := pi_mono (pi_orI (pi_list h) (pi_tup h)) fun σ H Q hw => by
  obtain ⟨e, S, f, r, ds, S', hx, q⟩ := hw
  obtain ⟨⟨d, S1⟩, h1, hx⟩ := Option.bind_eq_some_iff.mp hx
  obtain ⟨⟨k, is⟩, h2, hx⟩ := Option.bind_eq_some_iff.mp hx
  cases hx
  cases k with
  | false =>
    refine .inl ⟨e, S, f, r, d, S1, h1, fun v H1 f1 r1 n1 p1 => ?_⟩
    obtain ⟨a, vs, rfl, hh⟩ := items_ok p1 h2
    obtain ⟨_, hl, _⟩ := hh H1 (.refl _)
    rw [hK]
    exact ⟨a, rfl, ⟨vs, hl rfl⟩, q _ H1 f1 r1 n1 (walk_l fun H' x => ⟨(hh H' x).2.1 rfl, (hh H' x).2.2⟩)⟩
  | true =>
    refine .inr ⟨e, S, f, r, d, S1, h1, fun v H1 f1 r1 n1 p1 => ?_⟩
    obtain ⟨a, vs, rfl, hh⟩ := items_ok p1 h2
    obtain ⟨hl, _, _⟩ := hh H1 (.refl _)
    rw [hK]
    exact ⟨a, rfl, ⟨vs, hl rfl⟩, q _ H1 f1 r1 n1 (walk_t fun H' x => ⟨(hh H' x).1 rfl, (hh H' x).2.2⟩)⟩
/-- range(a), range(a, b) -/
def rngD (lo : Int) (n : Nat) : List D := (List.range n).map fun (i : Nat) => .pu (.int (lo + i))
theorem walk_r {H : Hp} {lo : Int} {n : Nat} : Walk G.K (Itr lo n) H (rngD lo n) where
  go := fun H' i d x hd => by
    have := (List.getElem?_eq_some_iff.mp hd).1
    unfold rngD at this
    rw [List.length_map, List.length_range] at this
    exact this
  yld := fun H' i d v H2 x hd hy => by
    obtain ⟨rfl, rfl⟩ := hy
    unfold rngD at hd
    rw [List.getElem?_map] at hd
    obtain ⟨j, hj, e⟩ := Option.map_eq_some_iff.mp hd
    obtain ⟨_, e2⟩ := List.getElem?_eq_some_iff.mp hj
    rw [List.getElem_range] at e2
    subst e2
    subst e
    exact ⟨.refl _, .int _⟩
  stop := fun H' x => by
    unfold rngD
    rw [List.length_map, List.length_range]
    exact Nat.le_refl _
def rOk (i : Int) : Bool := decide (-4611686018427387904 ≤ i) && decide (i < 4611686018427387904)
theorem rOk_iff {i : Int} : rOk i = true ↔ -(2 ^ 62) ≤ i ∧ i < 2 ^ 62 := by
  unfold rOk
  rw [Bool.and_eq_true, decide_eq_true_eq, decide_eq_true_eq]
  exact Iff.rfl
def iRange1 (a : Ax) : Ix := fun e S => (a e S).bind fun r => match r.1 with
  | [.pu (.int j)] => if rOk j then some (rngD 0 j.toNat, r.2) else none
  | _ => none
def iRange2 (a : Ax) : Ix := fun e S => (a e S).bind fun r => match r.1 with
  | [.pu (.int i), .pu (.int j)] => if rOk i && rOk j then some (rngD i (j - i).toNat, r.2) else none
  | _ => none
theorem di_range1 {tg a : Expr} {xa : Ax} {p pos : Pos} (hg : Gl X "range") (hm : X.mg "range" = none) (ha : DA X G [a] xa) (hs : starEach [a] X.env = [(false, eval a X.env)] := by rfl) : DI X G tg (.Call (.Name "range" p) [a] [] pos) (iRange1 xa) := pi_mono (pi_range1 hg hm ha hs) fun σ H Q hw => by
  obtain ⟨e, S, f, r, ds, S', hx, q⟩ := hw
  obtain ⟨⟨as, S1⟩, h1, hx⟩ := Option.bind_eq_some_iff.mp hx
  refine ⟨e, S, f, r, as, S1, h1, fun vs H1 f1 r1 n1 p1 => ?_⟩
  match as, p1, hx with
  | [.pu (.int j)], .cons p2 .nil, hx =>
    cases (show Rep H1 _ (.int j) from p2)
    dsimp only at hx
    by_cases c : rOk j = true
    · rw [if_pos c] at hx
      cases hx
      obtain ⟨c1, c2⟩ := rOk_iff.mp c
      exact ⟨j, rfl, c1, c2, q _ H1 f1 r1 n1 walk_r⟩
    · rw [if_neg c] at hx
      cases hx
theorem di_range2 {tg a b : Expr} {xa : Ax} {p pos : Pos} (hg : Gl X "range") (hm : X.mg "range" = none) (ha : DA X G [a, b] xa) (hs : starEach [a, b] X.env = [(false, eval a X.env), (false, eval b X.env)] := by rfl) (hs2 : starEach [b] X.env = [(false, eval b X.env)] := by rfl) : DI X G tg (.Call (.Name "range" p) [a, b] [] pos) (iRange2 xa) := pi_mono (pi_range2 hg hm ha hs hs2) fun σ H Q hw => by
  obtain ⟨e, S, f, r, ds, S', hx, q⟩ := hw
  obtain ⟨⟨as, S1⟩, h1, hx⟩ := Option.bind_eq_some_iff.mp hx
  refine ⟨e, S, f, r, as, S1, h1, fun vs H1 f1 r1 n1 p1 => ?_⟩
  match as, p1, hx with
  | [.pu (.int i), .pu (.int j)], .cons p2 (.cons p3 .nil), hx =>
    cases (show Rep H1 _ (.int i) from p2)
    cases (show Rep H1 _ (.int j) from p3)
    dsimp only at hx
    by_cases c : (rOk i && rOk j) = true
    · rw [if_pos c] at hx
      cases hx
      rw [Bool.and_eq_true] at c
      obtain ⟨c1, c2⟩ := rOk_iff.mp c.1
      obtain ⟨c3, c4⟩ := rOk_iff.mp c.2
      exact ⟨i, j, rfl, ⟨c1, c2, c3, c4⟩, q _ H1 f1 r1 n1 walk_r⟩
    · rw [if_neg c] at hx
      cases hx
/-- enumerate(list): of data -/
def numD : Nat → List P → List D
  | _, [] => []
  | i, p :: ps => .pu (.tuple [.int i, p]) :: numD (i + 1) ps
theorem numD_length : ∀ (i : Nat) (ps : List P), (numD i ps).length = ps.length
  | _, [] => rfl
  | i, p :: ps => by show (numD (i + 1) ps).length + 1 = ps.length + 1; rw [numD_length]
theorem numD_get : ∀ (k : Nat) (ps : List P) (i : Nat) (d : D), (numD k ps)[i]? = some d → ∃ p, ps[i]? = some p ∧ d = .pu (.tuple [.int (k + i : Nat), p])
  | _, [], _, _, h => by simp [numD] at h
  | k, p :: ps, 0, d, h => by
    have h' : some (D.pu (.tuple [.int k, p])) = some d := h
    cases h'
    exact ⟨p, rfl, rfl⟩
  | k, p :: ps, i + 1, d, h => by
    obtain ⟨q, h1, h2⟩ := numD_get (k + 1) ps i d h
    exact ⟨q, h1, by rw [h2]; congr 4; omega⟩
def iEnumX (a : Ax) : Ix := fun e S => (a e S).bind fun r => match r.1 with
  | [d] => match itemsD d with
    | some (false, ds) => (pusOf ds).bind fun ps => some (numD 0 ps, r.2)
    | _ => none
  | _ => none
theorem di_enum {a : Expr} {xa : Ax} {p pos tpos : Pos} {elts : List Expr} {kk : Nat} (hK : X.K = G.K) (hg : Gl X "enumerate") (hm : X.mg "enumerate" = none) (ha : DA X G [a] xa) (hs : starEach [a] X.env = [(false, eval a X.env)] := by rfl) : DI X G (.Tuple elts kk tpos) (.Call (.Name "enumerate" p) [a] [] pos) (iEnumX xa) := pi_mono (pi_enum hg hm ha hs) fun σ H Q hw => by
  obtain ⟨e, S, f, r, ds, S', hx, q⟩ := hw
  obtain ⟨⟨as, S1⟩, h1, hx⟩ := Option.bind_eq_some_iff.mp hx
  refine ⟨e, S, f, r, as, S1, h1, fun vs H1 f1 r1 n1 p1 => ?_⟩
  match as, p1, hx with
  | [d], .cons p2 .nil, hx =>
    dsimp only at hx
    cases hi : itemsD d with
    | none => rw [hi] at hx; cases hx
    | some ki =>
      obtain ⟨k, is⟩ := ki
      rw [hi] at hx
      cases k with
      | true => cases hx
      | false =>
        obtain ⟨ps, h3, hx⟩ := Option.bind_eq_some_iff.mp hx
        cases hx
        have e3 := pusOf_eq h3
        subst e3
        obtain ⟨a, us, rfl, hh⟩ := items_ok p2 hi
        obtain ⟨_, hl, _⟩ := hh H1 (.refl _)
        rw [hK]
        refine ⟨a, us, rfl, hl rfl, q _ H1 f1 r1 n1 ?_⟩
        refine ⟨fun H' i d x hd => ?_, fun H' i d v H2 x hd hy => ?_, fun H' x => ?_⟩
        · obtain ⟨p, hp, _⟩ := numD_get 0 ps i d hd
          obtain ⟨_, h5, h6⟩ := hh H' x
          obtain ⟨u, hu, _⟩ := Paired.get2 h6 (show (ps.map D.pu)[i]? = some (.pu p) by rw [List.getElem?_map, hp]; rfl)
          exact ⟨us, u, h5 rfl, hu⟩
        · obtain ⟨p, hp, rfl⟩ := numD_get 0 ps i d hd
          obtain ⟨_, h5, h6⟩ := hh H' x
          obtain ⟨T, y, rfl, nT, rfl, hy⟩ := hy
          obtain ⟨u, hu, pu⟩ := Paired.get2 h6 (show (ps.map D.pu)[i]? = some (.pu p) by rw [List.getElem?_map, hp]; rfl)
          have e : u = y := Option.some.inj (hu.symm.trans (hy us (h5 rfl)))
          rw [e] at pu
          have s := upd_new (o := .tup [.int (i : Nat), y]) nT
          refine ⟨s, Rep.tup upd_same (.cons ?_ (.cons (Rep.ext (.of s) pu) .nil))⟩
          rw [Nat.zero_add]
          exact .int _
        · obtain ⟨_, h5, h6⟩ := hh H' x
          exact ⟨us, h5 rfl, by rw [numD_length, paired_len h6, List.length_map]; exact Nat.le_refl _⟩
/-- zip of two lists, of two tuples: of data -/
def zipD : List P → List P → List D
  | p :: ps, q :: qs => .pu (.tuple [p, q]) :: zipD ps qs
  | _, _ => []
theorem zipD_get : ∀ (ps qs : List P) (i : Nat) (d : D), (zipD ps qs)[i]? = some d → ∃ p q, ps[i]? = some p ∧ qs[i]? = some q ∧ d = .pu (.tuple [p, q])
  | [], _, _, _, h => by simp [zipD] at h
  | _ :: _, [], _, _, h => by simp [zipD] at h
  | p :: ps, q :: qs, 0, d, h => by
    have h' : some (D.pu (.tuple [p, q])) = some d := h
    cases h'
    exact ⟨p, q, rfl, rfl, rfl⟩
  | p :: ps, q :: qs, i + 1, d, h => zipD_get ps qs i d h
theorem zipD_end : ∀ (ps qs : List P), ps.length ≤ (zipD ps qs).length ∨ qs.length ≤ (zipD ps qs).length
  | [], _ => .inl (Nat.zero_le _)
  | _ :: _, [] => .inr (Nat.zero_le _)
  | p :: ps, q :: qs => by
    rcases zipD_end ps qs with h | h
    · exact .inl (Nat.succ_le_succ h)
    · exact .inr (Nat.succ_le_succ h)
def iZipX (a : Ax) : Ix := fun e S => (a e S).bind fun r => match r.1 with
  | [d, d'] => match itemsD d, itemsD d' with
    | some (k, ds), some (k', ds') => if k = k' then (pusOf ds).bind fun ps => (pusOf ds').bind fun qs => some (zipD ps qs, r.2) else none
    | _, _ => none
  | _ => none
theorem di_zip {a b : Expr} {xa : Ax} {p pos tpos : Pos} {elts : List Expr} {kk : Nat} (hK : X.K = G.K) (hg : Gl X "zip") (hm : X.mg "zip" = none) (ha : DA X G [a, b] xa) (hs : starEach [a, b] X.env = (false, eval a X.env) :: starEach [b] X.env := by rfl) (hpl : (backTo pos (starEach [b] X.env)).any (·.1) = false := by rfl) : DI X G (.Tuple elts kk tpos) (.Call (.Name "zip" p) [a, b] [] pos) (iZipX xa) := pi_mono (RZ.pi_zipA hg hm ha hs hpl) fun σ H Q hw => by
  obtain ⟨e, S, f, r, ds, S', hx, q⟩ := hw
  obtain ⟨⟨as, S1⟩, h1, hx⟩ := Option.bind_eq_some_iff.mp hx
  refine ⟨e, S, f, r, as, S1, h1, fun vs H1 f1 r1 n1 p1 => ?_⟩
  match as, p1, hx with
  | [d, d'], .cons p2 (.cons p3 .nil), hx =>
    dsimp only at hx
    cases hi : itemsD d with
    | none => rw [hi] at hx; cases hx
    | some ki =>
      obtain ⟨k, is⟩ := ki
      cases hj : itemsD d' with
      | none => rw [hi, hj] at hx; cases hx
      | some kj =>
        obtain ⟨k', js⟩ := kj
        rw [hi, hj] at hx
        dsimp only at hx
        by_cases c : k = k'
        · rw [if_pos c] at hx
          subst c
          obtain ⟨ps, h3, hx⟩ := Option.bind_eq_some_iff.mp hx
          obtain ⟨qs, h4, hx⟩ := Option.bind_eq_some_iff.mp hx
          cases hx
          have e3 := pusOf_eq h3
          have e4 := pusOf_eq h4
          subst e3 e4
          obtain ⟨a, us, rfl, hh⟩ := items_ok p2 hi
          obtain ⟨b, ws, rfl, hh'⟩ := items_ok p3 hj
          have wk : ∀ J : It, (∀ i H', (∃ u w, us[i]? = some u ∧ ws[i]? = some w) → Ext0 H1 H' → J.go i H') → (∀ i H' v H2, Ext0 H1 H' → J.yld i H' v H2 → ∃ T x y, v = .ref T ∧ H' T = none ∧ H2 = upd H' T (.tup [x, y]) ∧ us[i]? = some x ∧ ws[i]? = some y) →
              (∀ i H', Ext0 H1 H' → (us.length ≤ i ∨ ws.length ≤ i) → J.stop i H') → Walk G.K J H1 (zipD ps qs) := fun J go yld stop => by
            refine ⟨fun H' i d x hd => ?_, fun H' i d v H2 x hd hy => ?_, fun H' x => ?_⟩
            · obtain ⟨p, q', hp, hq, _⟩ := zipD_get ps qs i d hd
              obtain ⟨_, _, h6⟩ := hh H' x
              obtain ⟨_, _, h7⟩ := hh' H' x
              obtain ⟨u, hu, _⟩ := Paired.get2 h6 (show (ps.map D.pu)[i]? = some (.pu p) by rw [List.getElem?_map, hp]; rfl)
              obtain ⟨w, hw, _⟩ := Paired.get2 h7 (show (qs.map D.pu)[i]? = some (.pu q') by rw [List.getElem?_map, hq]; rfl)
              exact go i H' ⟨u, w, hu, hw⟩ x
            · obtain ⟨p, q', hp, hq, rfl⟩ := zipD_get ps qs i d hd
              obtain ⟨_, _, h6⟩ := hh H' x
              obtain ⟨_, _, h7⟩ := hh' H' x
              obtain ⟨T, y, z, rfl, nT, rfl, hy, hz⟩ := yld i H' v H2 x hy
              obtain ⟨u, hu, pu⟩ := Paired.get2 h6 (show (ps.map D.pu)[i]? = some (.pu p) by rw [List.getElem?_map, hp]; rfl)
              obtain ⟨w, hw, pw⟩ := Paired.get2 h7 (show (qs.map D.pu)[i]? = some (.pu q') by rw [List.getElem?_map, hq]; rfl)
              have e1 : u = y := Option.some.inj (hu.symm.trans hy)
              have e2 : w = z := Option.some.inj (hw.symm.trans hz)
              rw [e1] at pu
              rw [e2] at pw
              have s := upd_new (o := .tup [y, z]) nT
              exact ⟨s, Rep.tup upd_same (.cons (Rep.ext (.of s) pu) (.cons (Rep.ext (.of s) pw) .nil))⟩
            · obtain ⟨_, _, h6⟩ := hh H' x
              obtain ⟨_, _, h7⟩ := hh' H' x
              refine stop _ H' x ?_
              rw [paired_len h6, paired_len h7, List.length_map, List.length_map]
              exact zipD_end ps qs
          obtain ⟨g1, g2, _⟩ := hh H1 (.refl _)
          obtain ⟨g3, g4, _⟩ := hh' H1 (.refl _)
          rw [hK]
          refine ⟨a, b, us, ws, rfl, ?_⟩
          cases k with
          | false =>
            refine .inl ⟨g2 rfl, g4 rfl, q _ H1 f1 r1 n1 (wk _ (fun i H' ⟨u, w, hu, hw⟩ x => ⟨us, ws, u, w, (hh H' x).2.1 rfl, (hh' H' x).2.1 rfl, hu, hw⟩) (fun i H' v H2 x hy => ?_) fun i H' x h => ⟨us, ws, (hh H' x).2.1 rfl, (hh' H' x).2.1 rfl, h⟩)⟩
            obtain ⟨T, y, z, z1, z2, z3, z4, z5⟩ := hy
            exact ⟨T, y, z, z1, z2, z3, z4 us ((hh H' x).2.1 rfl), z5 ws ((hh' H' x).2.1 rfl)⟩
          | true =>
            refine .inr ⟨g1 rfl, g3 rfl, q _ H1 f1 r1 n1 (wk _ (fun i H' ⟨u, w, hu, hw⟩ x => ⟨us, ws, u, w, (hh H' x).1 rfl, (hh' H' x).1 rfl, hu, hw⟩) (fun i H' v H2 x hy => ?_) fun i H' x h => ⟨us, ws, (hh H' x).1 rfl, (hh' H' x).1 rfl, h⟩)⟩
            obtain ⟨T, y, z, z1, z2, z3, z4, z5⟩ := hy
            exact ⟨T, y, z, z1, z2, z3, z4 us ((hh H' x).1 rfl), z5 ws ((hh' H' x).1 rfl)⟩
        · rw [if_neg c] at hx
          cases hx

/-! ### for -/
def forD (b : D → Envi → Sto → Option Out) : List D → Envi → Sto → Option Out
  | [], e, S => some (.nx e S)
  | d :: ds, e, S => (b d e S).bind fun o => match o with
    | .nx e' S' => forD b ds e' S'
    | .ct e' S' => forD b ds e' S'
    | .bk e' S' => some (.nx e' S')
    | .rt d e' S' => some (.rt d e' S')
def sFor (it : Ix) (g : Gt) (b : Sx) : Sx := fun e S => (it e S).bind fun r => forD (fun d e S => (g d e S).bind fun q => b q.1 q.2) r.1 e r.2
theorem ds_for {u : Nat → Bool} {tg iter : Expr} {body : List Stmt} {it : Ix} {g : Gt} {b : Sx} {pos : Pos} (hp : PassesOwn (model X.prog X.w) X.A X.env X.xe) (hc : X.calm = true) (hi : DI X G tg iter it) (hg : DG X G u tg g) (hb : DSs X G body b)
    (hs : ∀ x, foldedSetIterable iter X.env x = pure x := by intro _; rfl) : DS X G (.For tg iter body [] pos) (sFor it g b) := ps_mono (ps_for hp hc hi hg hb hs) fun T σ H hw => by
  obtain ⟨e, S, f, r, o, hx, q⟩ := hw
  obtain ⟨⟨ds, S1⟩, h1, hx⟩ := Option.bind_eq_some_iff.mp hx
  dsimp only at hx
  refine ⟨e, S, f, r, ds, S1, h1, fun J H1 f1 r1 n1 wk => ?_⟩
  refine ⟨fun i m σ' H' => m = ds.length - i ∧ i ≤ ds.length ∧ Ext0 H1 H' ∧ ∃ e' S' f', R G σ' H' e' S' f' ∧ forD (fun d e S => (g d e S).bind fun q => b q.1 q.2) (ds.drop i) e' S' = some o,
    ⟨ds.length, rfl, Nat.zero_le _, .refl _, e, S1, f1, r1, hx⟩, fun i m σ' H' hW => ?_⟩
  obtain ⟨rfl, hi', x1, e', S', f', r', hf⟩ := hW
  have q1 : EndOf G H' T o := q.pre (n1.ext.trans x1)
  by_cases hlt : i < ds.length
  · have hd : ds[i]? = some ds[i] := List.getElem?_eq_getElem hlt
    rw [List.drop_eq_getElem_cons hlt] at hf
    obtain ⟨o1, hb1, hf⟩ := Option.bind_eq_some_iff.mp hf
    obtain ⟨⟨e2, S2⟩, hg2, hb2⟩ := Option.bind_eq_some_iff.mp hb1
    refine .inr ⟨wk.go H' i _ x1 hd, fun σ2 H2 => ds.length - (i + 1) = ds.length - (i + 1) ∧ i + 1 ≤ ds.length ∧ Ext0 H1 H2 ∧ ∃ e' S' f', R G σ2 H2 e' S' f' ∧ forD (fun d e S => (g d e S).bind fun q => b q.1 q.2) (ds.drop (i + 1)) e' S' = some o,
      fun σ2 H2 hN => ⟨ds.length - (i + 1), by omega, hN⟩, fun v H2 hy => ?_⟩
    obtain ⟨s2, p2⟩ := wk.yld H' i _ v H2 x1 hd hy
    refine ⟨e', S', f', _, r'.same s2, (rd_any p2).re, e2, S2, hg2, fun σ3 H3 f3 r3 x3 _ => ?_⟩
    refine ⟨e2, S2, f3, r3, o1, hb2, ?_⟩
    have x13 : Ext0 H1 H3 := (x1.trans (.of s2)).trans x3
    cases o1 with
    | nx e4 S4 => exact fun σ4 H4 f4 r4 x4 => ⟨rfl, hlt, x13.trans x4, e4, S4, f4, r4, hf⟩
    | ct e4 S4 => exact fun σ4 H4 f4 r4 x4 => ⟨rfl, hlt, x13.trans x4, e4, S4, f4, r4, hf⟩
    | bk e4 S4 => cases hf; exact q1.pre ((Ext0.of s2).trans x3)
    | rt d4 e4 S4 => cases hf; exact q1.pre ((Ext0.of s2).trans x3)
  · have e3 : i = ds.length := by omega
    subst e3
    rw [List.drop_length] at hf
    cases hf
    exact .inl ⟨wk.stop H' x1, q1 σ' H' f' r' (.refl _)⟩

/-! ### while -/
def whN (t : Tx) (b : Sx) : Nat → Envi → Sto → Option Out
  | 0, _, _ => none
  | n + 1, e, S => (t e S).bind fun r => if r.1 then (b e r.2).bind fun o => match o with
    | .nx e' S' => whN t b n e' S'
    | .ct e' S' => whN t b n e' S'
    | .bk e' S' => some (.nx e' S')
    | .rt d e' S' => some (.rt d e' S') else some (.nx e r.2)
open Classical in
noncomputable def sWhile (t : Tx) (b : Sx) : Sx := fun e S => if h : ∃ n, (whN t b n e S).isSome then whN t b (Classical.choose h) e S else none
theorem whN_mono (t : Tx) (b : Sx) : ∀ (n : Nat) (e : Envi) (S : Sto) (o : Out), whN t b n e S = some o → ∀ k, whN t b (n + k) e S = some o
  | 0, _, _, _, h, _ => by cases h
  | n + 1, e, S, o, h, k => by
    rw [Nat.add_right_comm]
    unfold whN at h ⊢
    obtain ⟨⟨c, S1⟩, h1, h⟩ := Option.bind_eq_some_iff.mp h
    rw [h1]
    show (if c = true then _ else _) = _
    cases c with
    | false => exact h
    | true =>
      have h' := h
      rw [if_pos rfl] at h' ⊢
      obtain ⟨o1, h2, h3⟩ := Option.bind_eq_some_iff.mp h'
      rw [h2]
      cases o1 with
      | nx e' S' => exact whN_mono t b n e' S' o h3 k
      | ct e' S' => exact whN_mono t b n e' S' o h3 k
      | bk e' S' => exact h3
      | rt d e' S' => exact h3
theorem sWhile_of {t : Tx} {b : Sx} {n : Nat} {e : Envi} {S : Sto} {o : Out} (h : whN t b n e S = some o) : sWhile t b e S = some o := by
  unfold sWhile
  have ex : ∃ n, (whN t b n e S).isSome := ⟨n, by rw [h]; rfl⟩
  rw [dif_pos ex]
  have hs := Classical.choose_spec ex
  obtain ⟨o', ho⟩ := Option.isSome_iff_exists.mp hs
  have h1 := whN_mono t b _ e S o' ho n
  have h2 := whN_mono t b n e S o h (Classical.choose ex)
  rw [Nat.add_comm] at h2
  rw [h1] at h2
  rw [ho, h2]
theorem sWhile_to {t : Tx} {b : Sx} {e : Envi} {S : Sto} {o : Out} (h : sWhile t b e S = some o) : ∃ n, whN t b n e S = some o := by
  unfold sWhile at h
  by_cases ex : ∃ n, (whN t b n e S).isSome
  · rw [dif_pos ex] at h
    exact ⟨_, h⟩
  · rw [dif_neg ex] at h
    cases h
theorem ds_while {c : Expr} {body : List Stmt} {t : Tx} {b : Sx} {pos : Pos} (hp : PassesOwn (model X.prog X.w) X.A X.env X.xe) (hc : DT X G c t) (hb : DSs X G body b) : DS X G (.While c body [] pos) (sWhile t b) := ps_mono (ps_while hp hc hb) fun T σ H hw => by
  obtain ⟨e, S, f, r, o, hx, q⟩ := hw
  obtain ⟨n, hn⟩ := sWhile_to hx
  refine ⟨fun m σ' H' => ∃ e' S' f', R G σ' H' e' S' f' ∧ Ext0 H H' ∧ whN t b m e' S' = some o, ⟨n, e, S, f, r, .refl _, hn⟩, fun m σ' H' hW => ?_⟩
  obtain ⟨e', S', f', r', x', hm⟩ := hW
  cases m with
  | zero => cases hm
  | succ m =>
    unfold whN at hm
    obtain ⟨⟨k, S1⟩, h1, hm⟩ := Option.bind_eq_some_iff.mp hm
    refine ⟨e', S', f', r', k, S1, h1, fun H1 f1 r1 n1 => ?_⟩
    dsimp only at hm
    cases k with
    | false =>
      rw [if_neg Bool.false_ne_true] at hm ⊢
      cases hm
      exact q σ' H1 f1 r1 (x'.trans n1.ext)
    | true =>
      rw [if_pos rfl] at hm ⊢
      obtain ⟨o1, h2, h3⟩ := Option.bind_eq_some_iff.mp hm
      refine ⟨fun σ2 H2 => ∃ e' S' f', R G σ2 H2 e' S' f' ∧ Ext0 H H2 ∧ whN t b m e' S' = some o, fun σ2 H2 hN => ⟨m, Nat.lt_succ_self _, hN⟩, e', S1, f1, r1, o1, h2, ?_⟩
      have x1 := x'.trans n1.ext
      cases o1 with
      | nx e4 S4 => exact fun σ4 H4 f4 r4 x4 => ⟨e4, S4, f4, r4, x1.trans x4, h3⟩
      | ct e4 S4 => exact fun σ4 H4 f4 r4 x4 => ⟨e4, S4, f4, r4, x1.trans x4, h3⟩
      | bk e4 S4 => cases h3; exact q.pre x1
      | rt d4 e4 S4 => cases h3; exact q.pre x1
end
end DL
/-! DL8: list comprehensions. -/
namespace DL
open PySem PySem.Spec PyProof.Rows L2

/-! ### targets that are names: the heap stays -/
def tGn (G : Gx) (u : Nat → Bool) (g : Gt) : TG := fun v σ H Q => ∃ e S f d, R G σ H e S f ∧ RE G σ H e f S.length v d ∧ ∃ e', g d e S = some (e', S) ∧ ∀ σ', R G σ' H e' S f → Kept u σ σ' → Q σ' H
def tGns (G : Gx) (u : Nat → Bool) (g : Gts) : TGs := fun vs σ H Q => ∃ e S f ds, R G σ H e S f ∧ Paired (RD G.K H f S.length) vs ds ∧ ∃ e', g ds e S = some (e', S) ∧ ∀ σ', R G σ' H e' S f → Kept u σ σ' → Q σ' H
abbrev DN (X : Cx) (G : Gx) (u : Nat → Bool) (t : Expr) (g : Gt) : Prop := PG X t (tGn G u g)
abbrev DNs (X : Cx) (G : Gx) (u : Nat → Bool) (t : List Expr) (g : Gts) : Prop := PGs X t (tGns G u g)
section
variable {X : Cx} {G : Gx} {u : Nat → Bool}
theorem dn_name {i : Nat} {x : Str} {pos : Pos} (hu : u i = true) (hN : X.N.Nodup) (hi : X.N[i]? = some x) (hx : Loc X.env.scope x) (hf : X.fn x = true ∨ X.env.scope.names.lookup x = some .local := by first | exact .inl rfl | exact .inr rfl | assumption) : DN X G u (.Name x pos) (gNm i) :=
  pg_mono (pg_name hN hi hx hf) fun v σ H Q hw => by
    obtain ⟨e, S, f, d, r, p, e', hg, q⟩ := hw
    cases d with
    | bo j c => cases hg
    | pu p' => cases hg; exact q _ (r.set p) (.set hu)
    | wr p' => cases hg; exact q _ (r.set p) (.set hu)
    | rf n => cases hg; exact q _ (r.set p) (.set hu)
    | nw c =>
      have hg : (if i < e.length then some (e.set i (some (.ow c)), S) else none) = some (e', S) := hg
      by_cases hl : i < e.length
      · rw [if_pos hl] at hg
        cases hg
        exact q _ (r.take hl p) (.set hu)
      · rw [if_neg hl] at hg
        cases hg
/-- several, each of which leaves the cells -/
def gnNil : Gts := gtNil
def gnCons (g : Gt) (r : Gts) : Gts := fun ds e S => match ds with
  | d :: ds => (g d e S).bind fun q => r ds q.1 S
  | [] => none
theorem dns_nil : DNs X G u [] gnNil := ⟨fun pins s σ H vs us Q I r hw => pgs_nil.run pins s σ H vs us Q I r (by
  obtain ⟨e, S, f, ds, r0, p, e', hg, q⟩ := hw
  cases ds with
  | nil =>
    cases hg
    cases p
    exact ⟨rfl, q σ r0 (.refl _ _)⟩
  | cons d ds => cases hg)⟩
/-- the target leaves the cells whatever it stores -/
def KeepS (g : Gt) : Prop := ∀ d e S e' S', g d e S = some (e', S') → S' = S
def KeepSs (g : Gts) : Prop := ∀ d e S e' S', g d e S = some (e', S') → S' = S
theorem keep_nm {i : Nat} : KeepS (gNm i) := fun d e S e' S' h => by
  cases d with
  | bo j c => cases h
  | pu p' => cases h; rfl
  | wr p' => cases h; rfl
  | rf n => cases h; rfl
  | nw c =>
    have h : (if i < e.length then some (e.set i (some (.ow c)), S) else none) = some (e', S') := h
    by_cases hl : i < e.length
    · rw [if_pos hl] at h; cases h; rfl
    · rw [if_neg hl] at h; cases h
theorem keep_nil : KeepSs gnNil := fun d e S e' S' h => by
  cases d with
  | nil => cases h; rfl
  | cons _ _ => cases h
theorem keep_cons {g : Gt} {r : Gts} (hr : KeepSs r) : KeepSs (gnCons g r) := fun d e S e' S' h => by
  cases d with
  | nil => cases h
  | cons d ds =>
    obtain ⟨q, _, h2⟩ := Option.bind_eq_some_iff.mp h
    exact hr _ _ _ _ _ h2
theorem keep_lst {n : Nat} {g : Gts} (hg : KeepSs g) : KeepS (gtLst n g) := fun d e S e' S' h => by
  unfold gtLst at h
  split at h
  · split at h
    · exact hg _ _ _ _ _ h
    · cases h
  · cases h
theorem dns_cons {t : Expr} {ts : List Expr} {g : Gt} {r : Gts} (h1 : DN X G u t g) (k1 : KeepS g) (h2 : DNs X G u ts r) (hs : (assignEach (t :: ts) X.env).map (·.2) = assign t X.env :: (assignEach ts X.env).map (·.2) := by rfl) : DNs X G u (t :: ts) (gnCons g r) :=
  ⟨fun pins s σ H vs us Q I rr hw => (pgs_cons h1 h2 hs).run pins s σ H vs us Q I rr (by
    obtain ⟨e, S, f, ds, r0, p, e', hg, q⟩ := hw
    cases ds with
    | nil => cases hg
    | cons d ds =>
      cases p with
      | cons pd pt =>
        obtain ⟨⟨e1, S1⟩, h4, hg⟩ := Option.bind_eq_some_iff.mp hg
        have es := k1 _ _ _ _ _ h4
        subst es
        exact ⟨_, _, rfl, e, S1, f, d, r0, pd.re, e1, h4, fun σ1 r1 k1 => ⟨e1, S1, f, ds, r1, pt, e', hg, fun σ2 r2 k2 => q σ2 r2 (k1.trans k2)⟩⟩)⟩
theorem dn_tup {es : List Expr} {k : Nat} {g : Gts} {pos : Pos} {n : Nat} (hK : X.K = G.K) (hc : X.calm = true) (h : DNs X G u es g)
    (hn : (assignEach es X.env).length = n := by rfl) (hst : (assignEach es X.env).findIdx? (·.1) = none := by rfl) : DN X G u (.Tuple es k pos) (gtLst n g) :=
  pg_mono (pg_orG (pg_tup hc h hn hst) (pg_unl hc h hn hst)) fun v σ H Q hw => by
    obtain ⟨e, S, f, d, r, p, e', hg, q⟩ := hw
    unfold gtLst at hg
    cases hs : seqD d S with
    | none => rw [hs] at hg; cases hg
    | some kd =>
      obtain ⟨b, ds⟩ := kd
      rw [hs] at hg
      dsimp only at hg
      by_cases c : ds.length = n
      · rw [if_pos c] at hg
        obtain ⟨a, vs, rfl, ht, hl, hp⟩ := seq_ok r p hs
        rw [hK]
        cases b with
        | true => exact .inl ⟨a, vs, rfl, ht rfl, by rw [Paired.length hp]; exact c, e, S, f, ds, r, hp, e', hg, q⟩
        | false => exact .inr ⟨a, vs, rfl, hl rfl, by rw [Paired.length hp]; exact c, e, S, f, ds, r, hp, e', hg, q⟩
      · rw [if_neg c] at hg
        cases hg
theorem dn_dg {t : Expr} {g : Gt} (h : DN X G u t g) (k : KeepS g) : DG X G u t g := pg_mono h fun v σ H Q hw => by
  obtain ⟨e, S, f, d, r, p, e', S', hg, q⟩ := hw
  have es := k _ _ _ _ _ hg
  subst es
  exact ⟨e, S', f, d, r, p, e', hg, fun σ' r' kk => q σ' H f r' (.refl _) kk⟩
end

def wipeE (e : Envi) : List Nat → Envi
  | [] => e
  | v :: vs => (wipeE e vs).set v none
section
variable {G : Gx} {σ : L2.St} {H : Hp} {e : Envi} {S : Sto} {f : Nat → Addr}
/-- a slot emptied -/
theorem R.wipe1 (r : R G σ H e S f) (i : Nat) : R G (σ.set i none) H (e.set i none) S f := by
  have r' := r.drop i
  have nn : ∀ {j : Nat} {s : Sl}, (e.set i none)[j]? = some (some s) → i ≠ j := fun {j s} h z => by
    subst z
    have hl : i < e.length := by have := (List.getElem?_eq_some_iff.mp h).1; rw [List.length_set] at this; exact this
    rw [List.getElem?_set_self hl] at h
    cases h
  exact ⟨by rw [List.length_set, List.length_set]; exact r.ln, fun j d h => by rw [List.getElem?_set_ne (nn h)]; exact r'.val j d h, fun j c h => by rw [List.getElem?_set_ne (nn h)]; exact r'.own j c h,
    fun j k c c' a hjk h1 h2 h3 => by
      rw [List.getElem?_set_ne (nn h1)] at h3
      rw [List.getElem?_set_ne (nn h2)]
      exact r'.sep j k c c' a hjk h1 h2 h3, r.cel, r.inj, r.frm, r.new, r.old, r.le, r.ext⟩
theorem R.wipe (r : R G σ H e S f) : ∀ vs : List Nat, R G (L2.wipe σ vs) H (wipeE e vs) S f
  | [] => r
  | v :: vs => (R.wipe r vs).wipe1 v
theorem wipe_get {σ : L2.St} {j : Nat} : ∀ {vs : List Nat}, j ∉ vs → (L2.wipe σ vs)[j]? = σ[j]?
  | [], _ => rfl
  | v :: vs, h => by
    show ((L2.wipe σ vs).set v none)[j]? = _
    rw [List.getElem?_set_ne (fun z => h (by rw [z]; exact List.mem_cons_self)), wipe_get fun z => h (List.mem_cons_of_mem _ z)]
theorem wipe_in {σ : L2.St} {j : Nat} (hj : j < σ.length) : ∀ {vs : List Nat}, j ∈ vs → (L2.wipe σ vs)[j]? = some none
  | v :: vs, h => by
    show ((L2.wipe σ vs).set v none)[j]? = _
    by_cases e : v = j
    · subst e
      exact List.getElem?_set_self (by rw [wipe_length]; exact hj)
    · rw [List.getElem?_set_ne e]
      exact wipe_in hj ((List.mem_cons.mp h).resolve_left (Ne.symm e))
theorem wipe_same {σ σ' : L2.St} {vs : List Nat} (k : Kept (fun i => vs.contains i) (L2.wipe σ vs) σ') : L2.wipe σ' vs = L2.wipe σ vs := by
  apply List.ext_getElem?
  intro j
  have hl : σ'.length = σ.length := k.1.trans (wipe_length _ _)
  by_cases h : j ∈ vs
  · by_cases hj : j < σ.length
    · rw [wipe_in (by rw [hl]; exact hj) h, wipe_in hj h]
    · rw [List.getElem?_eq_none (by rw [wipe_length, hl]; omega), List.getElem?_eq_none (by rw [wipe_length]; omega)]
  · rw [wipe_get h]
    exact k.2 j (by simpa using h)
/-- the new list grows: it is no cell -/
theorem Cells.other (c : Cells G H f S) {a : Addr} {o o' : HO} (h : H a = some o) (mu : Mut (some o)) (hn : ∀ n, n < S.length → f n ≠ a) : Cells G (upd H a o') f S :=
  ⟨fun n k hk => MCok.ext (raw_ext h mu) (fun o z => by rw [upd_ne (hn n (List.getElem?_eq_some_iff.mp hk).1)]; exact z) (c.cel n k hk), c.inj⟩
theorem Nx.grown {H H1 : Hp} {f f1 : Nat → Addr} {L L1 : Nat} {a : Addr} {o' : HO} (x : Nx H H1 f f1 L L1) (h : H a = none) : Nx H (upd H1 a o') f f1 L L1 where
  ext := ⟨fun b xs z => by rw [upd_ne (ne_of_none z h)]; exact x.ext.tups b xs z, fun b o u z => by rw [upd_ne (ne_of_none z h)]; exact x.ext.frzs b o u z⟩
  ag := x.ag
  le := x.le
  oth := fun b o z hn => by rw [upd_ne (ne_of_none z h)]; exact x.oth b o z hn
  fr := x.fr
  th := fun b o z => by rw [upd_ne (ne_of_none z h)]; exact x.th b o z
end

/-- the items kept, each by its element: data -/
def compD (g : Gt) (t : Tx) (x : Ex) (e : Envi) : List D → Sto → List P → Option (List P × Sto)
  | [], S, acc => some (acc, S)
  | d :: ds, S, acc => (g d e S).bind fun q => (t q.1 q.2).bind fun b => if b.1 then (x q.1 b.2).bind fun r => match r.1 with
      | .pu p => if acc.length < lim then compD g t x e ds r.2 (acc ++ [p]) else none
      | _ => none
    else compD g t x e ds b.2 acc
def tYesX : Tx := fun _ S => some (true, S)
abbrev DTs (X : Cx) (G : Gx) (ifs : List Expr) (t : Tx) : Prop := PTs X ifs (tTx G t)
theorem dts_nil {X : Cx} {G : Gx} : DTs X G [] tYesX := ⟨fun pins s σ H Q I hw => pts_nil.run pins s σ H Q I (by
  obtain ⟨e, S, f, r, b, S', hx, q⟩ := hw
  cases hx
  exact q H f r (.refl _ _ _))⟩
theorem dts_one {X : Cx} {G : Gx} {c : Expr} {t : Tx} (h : DT X G c t) : DTs X G [c] t := pts_one h
section
variable {X : Cx} {G : Gx}
/-- the loop of a comprehension -/
theorem comp_ok {g : Gt} (kg : KeepS g) {t : Tx} {x : Ex} {vs : List Nat} {J : It} {σ : L2.St} {H1 : Hp} {e : Envi} {S1 S' : Sto} {f1 : Nat → Addr} {ds : List D} {ps : List P} (r1 : R G σ H1 e S1 f1) (wk : Walk G.K J H1 ds)
    (hx : compD g t x (wipeE e vs) ds S1 [] = some (ps, S')) {Dl : Addr} (nD : H1 Dl = none) (Q : Hp → Prop)
    (hq : ∀ H f us, H Dl = some (.lst us) → RepL H us ps → Nx H1 H f1 f S1.length S'.length → Cells G H f S' → (∀ n, n < S'.length → f n ≠ Dl) → Q H) :
    ∃ W : Nat → Nat → Hp → Prop, (∃ m, W 0 m (upd H1 Dl (.lst []))) ∧ ∀ i m H, W i m H →
      (J.stop i H ∧ Q H) ∨ (J.go i H ∧ ∃ N : Hp → Prop, (∀ H', N H' → ∃ m', m' < m ∧ W (i + 1) m' H') ∧ ∀ v H', J.yld i H v H' → tGn G (fun i => vs.contains i) g v (L2.wipe σ vs) H' fun σ2 H2 => L2.wipe σ2 vs = L2.wipe σ vs ∧ tTx G t σ2 H2 fun b H3 =>
        if b = true then tE G x σ2 H3 fun y H4 => ∃ acc, H4 Dl = some (.lst acc) ∧ acc.length < sizeLine ∧ N (upd H4 Dl (.lst (acc ++ [y]))) else N H3) := by
  have c0 : ∀ n, n < S1.length → f1 n ≠ Dl := fun n hn z => by
    obtain ⟨o, ho, _⟩ := r1.cell_at hn
    rw [z, nD] at ho
    cases ho
  have x0 := Nx.of (upd_new (o := .lst []) nD) f1 S1.length
  refine ⟨fun i m H => m = ds.length - i ∧ i ≤ ds.length ∧ ∃ S f us acc, Nx H1 H f1 f S1.length S.length ∧ Cells G H f S ∧ (∀ n, n < S.length → f n ≠ Dl) ∧ H Dl = some (.lst us) ∧ RepL H us acc ∧ compD g t x (wipeE e vs) (ds.drop i) S acc = some (ps, S'),
    ⟨ds.length, rfl, Nat.zero_le _, S1, f1, [], [], x0, r1.cells.nx (upd_new nD), c0, upd_same, .nil, hx⟩, fun i m H hW => ?_⟩
  obtain ⟨rfl, hi, S, f, us, acc, nx1, cel1, nd1, hD, ra, hf⟩ := hW
  by_cases hlt : i < ds.length
  · have hd : ds[i]? = some ds[i] := List.getElem?_eq_getElem hlt
    rw [List.drop_eq_getElem_cons hlt] at hf
    obtain ⟨⟨e2, S2⟩, hg, hf⟩ := Option.bind_eq_some_iff.mp hf
    obtain ⟨⟨b, S3⟩, ht, hf⟩ := Option.bind_eq_some_iff.mp hf
    refine .inr ⟨wk.go H i _ nx1.ext hd, fun H' => ds.length - (i + 1) = ds.length - (i + 1) ∧ i + 1 ≤ ds.length ∧ ∃ S f us acc, Nx H1 H' f1 f S1.length S.length ∧ Cells G H' f S ∧ (∀ n, n < S.length → f n ≠ Dl) ∧ H' Dl = some (.lst us) ∧ RepL H' us acc ∧ compD g t x (wipeE e vs) (ds.drop (i + 1)) S acc = some (ps, S'),
      fun H' hN => ⟨_, by omega, hN⟩, fun v H2 hy => ?_⟩
    obtain ⟨s2, p2⟩ := wk.yld H i _ v H2 nx1.ext hd hy
    have nx2 := nx1.trans (.of s2 f S.length)
    have rw2 : R G (L2.wipe σ vs) H2 (wipeE e vs) S f := (r1.nx nx2 (cel1.nx s2)).wipe vs
    have es := kg _ _ _ _ _ hg
    subst es
    refine ⟨_, S2, f, _, rw2, (rd_any p2).re, e2, hg, fun σ3 r3 k3 => ⟨wipe_same k3, e2, S2, f, r3, b, S3, ht, fun H4 f4 r4 n4 => ?_⟩⟩
    have hD2 : H2 Dl = some (.lst us) := s2 _ _ hD
    have hD4 : H4 Dl = some (.lst us) := n4.oth _ _ hD2 nd1
    have nx4 := nx2.trans n4
    have nd4 : ∀ n, n < S3.length → f4 n ≠ Dl := fun n hn z => by
      by_cases hL : n < S2.length
      · exact nd1 n hL ((n4.ag n hL).symm.trans z)
      · have q := n4.fr n (Nat.le_of_not_lt hL) hn
        rw [z, hD2] at q
        cases q
    have ra4 : RepL H4 us acc := RepL.ext ((Ext0.of s2).trans n4.ext) ra
    cases b with
    | false =>
      rw [if_neg Bool.false_ne_true] at hf
      refine iteF ?_
      exact ⟨rfl, hlt, S3, f4, us, acc, nx4, r4.cells, nd4, hD4, ra4, hf⟩
    | true =>
      rw [if_pos rfl] at hf
      refine iteT ?_
      obtain ⟨⟨d5, S5⟩, hx5, hf⟩ := Option.bind_eq_some_iff.mp hf
      match d5, hf with
      | .pu p, hf =>
        dsimp only at hf
        by_cases c : acc.length < lim
        · rw [if_pos c] at hf
          refine ⟨e2, S3, f4, r4, _, S5, hx5, fun y H5 f5 r5 n5 p5 => ?_⟩
          have hD5 : H5 Dl = some (.lst us) := n5.oth _ _ hD4 nd4
          have nd5 : ∀ n, n < S5.length → f5 n ≠ Dl := fun n hn z => by
            by_cases hL : n < S3.length
            · exact nd4 n hL ((n5.ag n hL).symm.trans z)
            · have q := n5.fr n (Nat.le_of_not_lt hL) hn
              rw [z, hD4] at q
              cases q
          refine ⟨us, hD5, by rw [ra4.length, ← lim_eq]; exact c, rfl, hlt, S5, f5, us ++ [y], acc ++ [p], (nx4.trans n5).grown nD, r5.cells.other hD5 trivial nd5, nd5, upd_same, ?_, hf⟩
          have xg := raw_ext (o' := .lst (us ++ [y])) hD5 trivial
          exact RepL.ext xg (RepL.append (RepL.ext n5.ext ra4) (.cons p5 .nil))
        · rw [if_neg c] at hf
          cases hf
  · have e3 : i = ds.length := by omega
    subst e3
    rw [List.drop_length] at hf
    cases hf
    exact .inl ⟨wk.stop H nx1.ext, hq H f us hD ra nx1 cel1 nd1⟩
def xLc (it : Ix) (g : Gt) (t : Tx) (x : Ex) (vs : List Nat) : Ex := fun e S => (it e S).bind fun r => (compD g t x (wipeE e vs) r.1 r.2 []).bind fun q => some (.pu (.list q.1), q.2)
theorem d_lc {elt tg iter : Expr} {ifs : List Expr} {scope : Scope} {own : List (Str × Nat)} {pos : Pos} {it : Ix} {g : Gt} {t : Tx} {x : Ex} (kg : KeepS g) (hc : X.calm = true) (hN : X.N.Nodup) (hi : DI X G tg iter it) (ok : BlkOk X.N X.env.scope scope own)
    (hg : ∀ (s : Shared) (H : Hp) (C : Addr) (cl : List (Str × Addr)) (fp : List Addr), DN (X.blk s H scope (compEnvC scope cl C X.env) fp) G (fun i => (own.map (·.2)).contains i) tg g) (ht : ∀ (s : Shared) (H : Hp) (C : Addr) (cl : List (Str × Addr)) (fp : List Addr), DTs (X.blk s H scope (compEnvC scope cl C X.env) fp) G ifs t)
    (he : ∀ (s : Shared) (H : Hp) (C : Addr) (cl : List (Str × Addr)) (fp : List Addr), DE (X.blk s H scope (compEnvC scope cl C X.env) fp) G elt x) (hs : ∀ x, foldedSetIterable iter X.env x = pure x := by intro _; rfl) :
    DE X G (.ListComp elt [⟨tg, iter, ifs, 0⟩] scope pos) (xLc it g t x (own.map (·.2))) := by
  refine pe_mono (pe_gh (pe_lc hc hN hi ok hg ht he hs)) fun σ H Q hw => ?_
  obtain ⟨e, S, f, r, d, S', hx, q⟩ := hw
  obtain ⟨⟨ds, S1⟩, h1, hx⟩ := Option.bind_eq_some_iff.mp hx
  obtain ⟨⟨ps, S2⟩, h2, hx⟩ := Option.bind_eq_some_iff.mp hx
  cases hx
  refine ⟨e, S, f, r, ds, S1, h1, fun J H1 f1 r1 n1 wk Dl nD => ?_⟩
  refine comp_ok kg r1 wk h2 nD (fun H => GQ Q (.ref Dl) H) fun H2 f2 us hD ra nx2 c2 nd2 => ?_
  have mu : Mut (some (.lst us)) := trivial
  refine .inr ⟨Dl, .lst us, rfl, hD, mu, fun od => ?_⟩
  have nx3 := nx2.grown (a := Dl) (o' := .frz od (.lst us)) nD
  exact q _ _ f2 (r1.nx nx3 (c2.other hD mu nd2)) (n1.trans nx3) (.lst ⟨od, upd_same⟩ (RepL.ext (raw_ext hD mu) ra))
/-- name = [..]: the name's own list -/
def sSetLc (i : Nat) (it : Ix) (g : Gt) (t : Tx) (x : Ex) (vs : List Nat) : Sx := fun e S => (it e S).bind fun r => (compD g t x (wipeE e vs) r.1 r.2 []).bind fun q => some (.nx (e.set i (some (.ow (.lst q.1)))) q.2)
theorem ds_setLc {i : Nat} {y : Str} {py : Pos} {elt tg iter : Expr} {ifs : List Expr} {scope : Scope} {own : List (Str × Nat)} {pos spos : Pos} {it : Ix} {g : Gt} {t : Tx} {x : Ex} (kg : KeepS g) (hc : X.calm = true) (hN : X.N.Nodup) (hy : X.N[i]? = some y) (hyl : X.env.scope.names.lookup y = some .local)
    (hsw : swapsWith (.ListComp elt [⟨tg, iter, ifs, 0⟩] scope pos) (some (.Name y py)) spos.line X.env = pure true) (hi : DI X G tg iter it) (ok : BlkOk X.N X.env.scope scope own)
    (hg : ∀ (s : Shared) (H : Hp) (C : Addr) (cl : List (Str × Addr)) (fp : List Addr), DN (X.blk s H scope (compEnvC scope cl C X.env) fp) G (fun i => (own.map (·.2)).contains i) tg g) (ht : ∀ (s : Shared) (H : Hp) (C : Addr) (cl : List (Str × Addr)) (fp : List Addr), DTs (X.blk s H scope (compEnvC scope cl C X.env) fp) G ifs t)
    (he : ∀ (s : Shared) (H : Hp) (C : Addr) (cl : List (Str × Addr)) (fp : List Addr), DE (X.blk s H scope (compEnvC scope cl C X.env) fp) G elt x) (hs : ∀ x, foldedSetIterable iter X.env x = pure x := by intro _; rfl) :
    DS X G (.Assign [.Name y py] (.ListComp elt [⟨tg, iter, ifs, 0⟩] scope pos) spos) (sSetLc i it g t x (own.map (·.2))) :=
  ⟨fun pins s σ H T I hw => (ps_setLc hc hN hy hyl hsw hi ok hg ht he hs).run pins s σ H T I (by
    have hil : i < σ.length := by rw [I.len]; exact (List.getElem?_eq_some_iff.mp hy).1
    obtain ⟨e, S, f, r, o, hx, q⟩ := hw
    obtain ⟨⟨ds, S1⟩, h1, hx⟩ := Option.bind_eq_some_iff.mp hx
    obtain ⟨⟨ps, S2⟩, h2, hx⟩ := Option.bind_eq_some_iff.mp hx
    cases hx
    refine ⟨e, S, f, r, ds, S1, h1, fun J H1 f1 r1 n1 wk Dl nD => ?_⟩
    refine comp_ok kg r1 wk h2 nD (fun H => gName i (.ref Dl) σ H T.nx) fun H2 f2 us hD ra nx2 c2 nd2 => ?_
    have r2 := r1.nx nx2 c2
    refine q _ H2 f2 (r2.adopt hil ⟨us, hD, ra⟩ (r1.free0 nD) nd2 fun j c b hj hb z => ?_) (n1.trans nx2).ext
    obtain ⟨b', q1, q2, _⟩ := r1.own j c hj
    rw [hb] at q1
    cases q1
    obtain ⟨u, hu, _⟩ := q2.raw
    rw [z, nD] at hu
    cases hu)⟩
end
end DL
/-! DL9: dicts: look up. -/
namespace DL
open PySem PySem.Spec PyProof.Rows L2
def flatK : P → Option Key
  | .int i => some (.inl i)
  | .str x => some (.inr x)
  | _ => none
theorem flatK_eq : ∀ {p : P} {k : Key}, flatK p = some k → p = keyP k
  | .int i, _, h => by cases h; rfl
  | .str x, _, h => by cases h; rfl
def flatKs : List P → Option (List Key)
  | [] => some []
  | p :: r => (flatK p).bind fun k => (flatKs r).bind fun ks => some (k :: ks)
theorem flatKs_eq : ∀ {ps : List P} {ks : List Key}, flatKs ps = some ks → ps = ks.map keyP
  | [], _, h => by cases h; rfl
  | p :: r, ks, h => by
    obtain ⟨k, h1, h⟩ := Option.bind_eq_some_iff.mp h
    obtain ⟨js, h2, h⟩ := Option.bind_eq_some_iff.mp h
    cases h
    rw [flatK_eq h1, flatKs_eq h2]
    rfl
theorem rep_key {H : Hp} {v : V} : ∀ {k : Key}, Rep H v (keyP k) → v = kV k
  | .inl i, h => by cases (show Rep H v (.int i) from h); rfl
  | .inr x, h => by cases (show Rep H v (.str x) from h); rfl
theorem rep_keys {H : Hp} : ∀ {vs : List V} {ks : List Key}, RepL H vs (ks.map keyP) → vs = ks.map kV
  | _, [], .nil => rfl
  | _, k :: ks, .cons h t => by rw [rep_key h, rep_keys t]; rfl
theorem eqv_key (a b : Key) : PyData.eqv (keyP a) (keyP b) = decide (a = b) := by
  cases a with
  | inl i => cases b with
    | inl j => rw [key_ll]; simp [keyP, PyData.eqv]
    | inr y => rw [key_lr]; simp [keyP, PyData.eqv]
  | inr x => cases b with
    | inl j => rw [key_rl]; simp [keyP, PyData.eqv]
    | inr y => rw [key_rr, ← Bool.beq_eq_decide_eq]; simp [keyP, PyData.eqv]
theorem eqv_keys : ∀ (as bs : List Key), PyData.eqvAll (as.map keyP) (bs.map keyP) = decide (as = bs)
  | [], [] => by simp [PyData.eqvAll]
  | [], b :: bs => by simp [PyData.eqvAll]
  | a :: as, [] => by simp [PyData.eqvAll]
  | a :: as, b :: bs => by
    show PyData.eqvAll (keyP a :: as.map keyP) (keyP b :: bs.map keyP) = _
    rw [PyData.eqvAll, eqv_key, eqv_keys as bs]
    by_cases h1 : a = b
    · by_cases h2 : as = bs
      · simp [h1, h2]
      · simp [h1, h2]
    · simp [h1]
theorem eqv_tkeys (as bs : List Key) : PyData.eqv (.tuple (as.map keyP)) (.tuple (bs.map keyP)) = decide (as = bs) := by
  rw [PyData.eqv, eqv_keys]
theorem eqv_kt (a : Key) (bs : List P) : PyData.eqv (keyP a) (.tuple bs) = false ∧ PyData.eqv (.tuple bs) (keyP a) = false := by
  cases a <;> simp [keyP, PyData.eqv]
def dlook {α : Type} (ps : List (P × α)) (p : P) : Option α := (ps.find? fun q => PyData.eqv q.1 p).map (·.2)
theorem dlook_nil {α : Type} {p : P} : dlook ([] : List (P × α)) p = none := rfl
theorem dlook_cons {α : Type} {q : P × α} {ps : List (P × α)} {p : P} : dlook (q :: ps) p = if PyData.eqv q.1 p = true then some q.2 else dlook ps p := by
  unfold dlook
  rw [List.find?_cons]
  cases PyData.eqv q.1 p <;> rfl
def KP {α : Type} (F : V → α → Prop) (kvs : List (Key × V)) (ps : List (P × α)) : Prop := Paired (fun (kv : Key × V) (q : P × α) => q.1 = keyP kv.1 ∧ F kv.2 q.2) kvs ps
def TP' {α : Type} (F : V → α → Prop) (kvs : List (List Key × V)) (ps : List (P × α)) : Prop := Paired (fun (kv : List Key × V) (q : P × α) => q.1 = .tuple (kv.1.map keyP) ∧ F kv.2 q.2) kvs ps
theorem KP.of {α : Type} {F : V → α → Prop} : ∀ {kvs : List (Key × V)} {ps : List (P × α)}, Paired F ((qK kvs).map (·.2)) (ps.map (·.2)) → (qK kvs).map (·.1) = ps.map (·.1) → KP F kvs ps
  | [], [], _, _ => .nil
  | [], _ :: _, h, _ => by cases h
  | _ :: _, [], h, _ => by cases h
  | kv :: kvs, q :: ps, .cons h t, e => by
    injection e with e1 e2
    exact .cons ⟨e1.symm, h⟩ (KP.of t e2)
theorem TP'.of {α : Type} {F : V → α → Prop} : ∀ {kvs : List (List Key × V)} {ps : List (P × α)}, Paired F ((qT kvs).map (·.2)) (ps.map (·.2)) → (qT kvs).map (·.1) = ps.map (·.1) → TP' F kvs ps
  | [], [], _, _ => .nil
  | [], _ :: _, h, _ => by cases h
  | _ :: _, [], h, _ => by cases h
  | kv :: kvs, q :: ps, .cons h t, e => by
    injection e with e1 e2
    exact .cons ⟨e1.symm, h⟩ (TP'.of t e2)
theorem KP.to {α : Type} {F : V → α → Prop} : ∀ {kvs : List (Key × V)} {ps : List (P × α)}, KP F kvs ps → Paired F ((qK kvs).map (·.2)) (ps.map (·.2)) ∧ (qK kvs).map (·.1) = ps.map (·.1)
  | [], [], .nil => ⟨.nil, rfl⟩
  | kv :: kvs, q :: ps, .cons h t => ⟨.cons h.2 (KP.to t).1, by show keyP kv.1 :: (qK kvs).map (·.1) = q.1 :: ps.map (·.1); rw [h.1, (KP.to t).2]⟩
theorem TP'.to {α : Type} {F : V → α → Prop} : ∀ {kvs : List (List Key × V)} {ps : List (P × α)}, TP' F kvs ps → Paired F ((qT kvs).map (·.2)) (ps.map (·.2)) ∧ (qT kvs).map (·.1) = ps.map (·.1)
  | [], [], .nil => ⟨.nil, rfl⟩
  | kv :: kvs, q :: ps, .cons h t => ⟨.cons h.2 (TP'.to t).1, by show PyData.tuple (kv.1.map keyP) :: (qT kvs).map (·.1) = q.1 :: ps.map (·.1); rw [h.1, (TP'.to t).2]⟩
theorem KP.look {α : Type} {F : V → α → Prop} {k : Key} : ∀ {kvs : List (Key × V)} {ps : List (P × α)}, KP F kvs ps → (∀ d, dlook ps (keyP k) = some d → ∃ v, valV kvs k = some v ∧ F v d) ∧ (dlook ps (keyP k) = none → valV kvs k = none)
  | [], [], .nil => ⟨fun d h => (by cases h), fun _ => rfl⟩
  | kv :: kvs, q :: ps, .cons h t => by
    rw [dlook_cons, h.1, eqv_key]
    by_cases e : kv.1 = k
    · rw [if_pos (decide_eq_true e), valV_pos e]
      exact ⟨fun d hd => by cases hd; exact ⟨_, rfl, h.2⟩, fun hd => by cases hd⟩
    · rw [if_neg (by simpa using e), valV_neg e]
      exact KP.look t
theorem TP'.look {α : Type} {F : V → α → Prop} {k : List Key} : ∀ {kvs : List (List Key × V)} {ps : List (P × α)}, TP' F kvs ps → (∀ d, dlook ps (.tuple (k.map keyP)) = some d → ∃ v, valV kvs k = some v ∧ F v d) ∧ (dlook ps (.tuple (k.map keyP)) = none → valV kvs k = none)
  | [], [], .nil => ⟨fun d h => (by cases h), fun _ => rfl⟩
  | kv :: kvs, q :: ps, .cons h t => by
    rw [dlook_cons, h.1, eqv_tkeys]
    by_cases e : kv.1 = k
    · rw [if_pos (decide_eq_true e), valV_pos e]
      exact ⟨fun d hd => by cases hd; exact ⟨_, rfl, h.2⟩, fun hd => by cases hd⟩
    · rw [if_neg (by simpa using e), valV_neg e]
      exact TP'.look t
theorem KP.no {α : Type} {F : V → α → Prop} {xs : List P} : ∀ {kvs : List (Key × V)} {ps : List (P × α)}, KP F kvs ps → dlook ps (.tuple xs) = none
  | [], [], .nil => rfl
  | kv :: kvs, q :: ps, .cons h t => by
    rw [dlook_cons, h.1, if_neg (by rw [(eqv_kt _ _).1]; decide)]
    exact KP.no t
theorem TP'.no {α : Type} {F : V → α → Prop} {k : Key} : ∀ {kvs : List (List Key × V)} {ps : List (P × α)}, TP' F kvs ps → dlook ps (keyP k) = none
  | [], [], .nil => rfl
  | kv :: kvs, q :: ps, .cons h t => by
    rw [dlook_cons, h.1, if_neg (by rw [(eqv_kt _ _).2]; decide)]
    exact TP'.no t
def dicD : D → Sto → Option (List (P × D))
  | .pu (.dict ps), _ => some (ps.map fun q => (q.1, .pu q.2))
  | .bo _ (.dct ps), _ => some (ps.map fun q => (q.1, .pu q.2))
  | .nw (.dct ps), _ => some (ps.map fun q => (q.1, .pu q.2))
  | .rf n, S => match S[n]? with | some (.dct ps) => some ps | _ => none
  | _, _ => none
section
variable {X : Cx} {G : Gx} {σ : L2.St} {H : Hp} {e : Envi} {S : Sto} {f : Nat → Addr}
theorem reps_rd' {L : Nat} : ∀ {vs : List V} {ps : List (P × P)}, RepL H vs (ps.map (·.2)) → Paired (RD G.K H f L) vs ((ps.map fun q => (q.1, D.pu q.2)).map (·.2))
  | _, [], .nil => .nil
  | _, _ :: _, .cons h t => .cons h (reps_rd' t)
theorem keys_pu : ∀ ps : List (P × P), (ps.map fun q => (q.1, D.pu q.2)).map (·.1) = ps.map (·.1)
  | [] => rfl
  | q :: ps => congrArg (q.1 :: ·) (keys_pu ps)
theorem dic_ok (r : R G σ H e S f) {v : V} {d : D} {ps : List (P × D)} (h : RE G σ H e f S.length v d) (hs : dicD d S = some ps) : ∃ a, v = .ref a ∧ ((∃ kvs, Rd H a (.dK kvs) ∧ KP (RD G.K H f S.length) kvs ps) ∨ ∃ kvs, Rd H a (.dT kvs) ∧ TP' (RD G.K H f S.length) kvs ps) := by
  cases d with
  | pu p =>
    cases p with
    | dict xs =>
      cases hs
      cases (show Rep H v (.dict xs) from h) with
      | dct h1 h2 h3 h4 h5 =>
        subst h2 h3
        rcases h1 with ⟨o, kvs, h1, z⟩ | ⟨o, kvs, h1, z⟩
        · subst z
          exact ⟨_, rfl, .inl ⟨kvs, .inr ⟨o, h1⟩, KP.of (reps_rd' (G := G) h4) (by rw [keys_pu]; exact h5)⟩⟩
        · subst z
          exact ⟨_, rfl, .inr ⟨kvs, .inr ⟨o, h1⟩, TP'.of (reps_rd' (G := G) h4) (by rw [keys_pu]; exact h5)⟩⟩
    | _ => cases hs
  | wr p => cases hs
  | rf n =>
    obtain ⟨e1, l⟩ := (show v = .ref (f n) ∧ n < S.length from h)
    subst e1
    unfold dicD at hs
    dsimp only at hs
    cases hc : S[n]? with
    | none => rw [hc] at hs; cases hs
    | some c =>
      rw [hc] at hs
      cases c with
      | dct ps' =>
        cases hs
        obtain ⟨qs, h1, h2, h3⟩ := r.cel n _ hc
        rcases h1 with ⟨kvs, h1, z⟩ | ⟨kvs, h1, z⟩
        · subst z
          exact ⟨_, rfl, .inl ⟨kvs, .inl h1, KP.of h2 h3⟩⟩
        · subst z
          exact ⟨_, rfl, .inr ⟨kvs, .inl h1, TP'.of h2 h3⟩⟩
      | _ => cases hs
  | bo i c =>
    cases c with
    | lst _ => cases hs
    | dct xs =>
      cases hs
      obtain ⟨h1, h2⟩ := (show σ[i]? = some (some v) ∧ e[i]? = some (some (.ow (.dct xs))) from h)
      obtain ⟨a, h3, ⟨qs, h4, h5, h6⟩, _⟩ := r.own i _ h2
      rw [h1] at h3
      cases h3
      rcases h4 with ⟨kvs, h4, z⟩ | ⟨kvs, h4, z⟩
      · subst z
        exact ⟨_, rfl, .inl ⟨kvs, .inl h4, KP.of (reps_rd' (G := G) h5) (by rw [keys_pu]; exact h6)⟩⟩
      · subst z
        exact ⟨_, rfl, .inr ⟨kvs, .inl h4, TP'.of (reps_rd' (G := G) h5) (by rw [keys_pu]; exact h6)⟩⟩
  | nw c =>
    obtain ⟨a, e1, h4, _⟩ := (show ∃ a, v = .ref a ∧ OCok H a c ∧ _ from h)
    cases c with
    | lst _ => cases hs
    | dct xs =>
      cases hs
      obtain ⟨qs, h4, h5, h6⟩ := h4
      rcases h4 with ⟨kvs, h4, z⟩ | ⟨kvs, h4, z⟩
      · subst z
        exact ⟨_, e1, .inl ⟨kvs, .inl h4, KP.of (reps_rd' (G := G) h5) (by rw [keys_pu]; exact h6)⟩⟩
      · subst z
        exact ⟨_, e1, .inr ⟨kvs, .inl h4, TP'.of (reps_rd' (G := G) h5) (by rw [keys_pu]; exact h6)⟩⟩
def keyD : P → Option (Key ⊕ List Key)
  | .tuple xs => (flatKs xs).bind fun ks => some (.inr ks)
  | p => (flatK p).bind fun k => some (.inl k)
theorem key_cases : ∀ {p : P} {q : Key ⊕ List Key}, keyD p = some q → (∃ k, p = keyP k ∧ q = .inl k) ∨ ∃ ks, p = .tuple (ks.map keyP) ∧ q = .inr ks
  | .tuple xs, q, h => by
    obtain ⟨ks, h1, h⟩ := Option.bind_eq_some_iff.mp (show (flatKs xs).bind _ = _ from h)
    cases h
    exact .inr ⟨ks, by rw [flatKs_eq h1], rfl⟩
  | .int i, q, h => by cases h; exact .inl ⟨.inl i, rfl, rfl⟩
  | .str x, q, h => by cases h; exact .inl ⟨.inr x, rfl, rfl⟩
  | .none, _, h => by cases h
  | .bool _, _, h => by cases h
  | .list _, _, h => by cases h
  | .dict _, _, h => by cases h
def gGet : D → D → Sto → Option (D × Sto) := fun d i S => match dicD d S, i with
  | some ps, .pu p => (keyD p).bind fun _ => (dlook ps p).bind fun z => some (z, S)
  | _, _ => gIx d i S
end
end DL
/-! DLA: dicts: look up, stores. -/
namespace DL
open PySem PySem.Spec PyProof.Rows L2
section
variable {X : Cx} {G : Gx} {σ : L2.St} {H : Hp} {e : Envi} {S : Sto} {f : Nat → Addr}
theorem d_get {a b : Expr} {xa xb : Ex} {pos : Pos} (hK : X.K = G.K) (hu : X.A.units + 1 < cLine) (ha : DE X G a xa) (hb : DE X G b xb) (hs : PlainIx b) (hs2 : NoSl b) : DE X G (.Subscript a b pos) (x2 gGet xa xb) := by
  have h1 : PE X (.Subscript a b pos) _ := pe_gh (pe_ix ix_seq ha hb hs)
  have h2 := pe_dget (pos := pos) hu ha hb hs2
  refine ⟨fun pins s σ H Q I hw => ?_⟩
  obtain ⟨e, S, f, r, d, S', hx, q⟩ := hw
  obtain ⟨⟨d1, S1⟩, e1, hx⟩ := Option.bind_eq_some_iff.mp hx
  obtain ⟨⟨d2, S2⟩, e2, hx⟩ := Option.bind_eq_some_iff.mp hx
  have seq : gIx d1 d2 S2 = some (d, S') → wpAny (model X.prog X.w) X.A (eval (.Subscript a b pos) X.env) (fun v s' => ∃ x H', Inv X pins σ H' s' ∧ RelV x v ∧ Q x H') X.xe s := fun hg =>
    h1.run pins s σ H Q I (tE.b2 (v_ix hK) σ H Q ⟨e, S, f, r, d, S', by show (xa e S).bind _ = _; rw [e1]; show (xb e S1).bind _ = _; rw [show xb e S1 = some (d2, S2) from e2]; exact hg, q⟩)
  unfold gGet at hx
  dsimp only at hx
  cases hd : dicD d1 S2 with
  | none => rw [hd] at hx; exact seq hx
  | some ps =>
    rw [hd] at hx
    cases d2 with
    | pu p =>
      obtain ⟨ky, hk, hx⟩ := Option.bind_eq_some_iff.mp hx
      obtain ⟨z, hz, hx⟩ := Option.bind_eq_some_iff.mp hx
      cases hx
      refine h2.run pins s σ H Q I ⟨e, S, f, r, d1, S1, e1, fun v1 H1 f1 r1 n1 p1 => ⟨e, S1, f1, r1, _, _, e2, fun v2 H2 f2 r2 n2 p2 => ?_⟩⟩
      obtain ⟨a, ea, hc⟩ := dic_ok r2 (p1.nx n2) hd
      have rp : Rep H2 v2 p := p2
      rcases key_cases hk with ⟨k, ep, _⟩ | ⟨ks, ep, _⟩
      · subst ep
        rcases hc with ⟨kvs, hr, kp⟩ | ⟨kvs, hr, kp⟩
        · obtain ⟨v, hv, hF⟩ := kp.look.1 _ hz
          exact ⟨a, v, ea, .inl ⟨kvs, k, hr, rep_key rp, hv.symm⟩, q v H2 f2 r2 (n1.trans n2) hF.re⟩
        · rw [kp.no] at hz
          cases hz
      · subst ep
        rcases hc with ⟨kvs, hr, kp⟩ | ⟨kvs, hr, kp⟩
        · rw [kp.no] at hz
          cases hz
        · obtain ⟨v, hv, hF⟩ := kp.look.1 _ hz
          cases rp with
          | tup h3 h4 =>
            have e5 := rep_keys h4
            subst e5
            exact ⟨a, v, ea, .inr ⟨kvs, ks, _, hr, rfl, h3, hv.symm⟩, q v H2 f2 r2 (n1.trans n2) hF.re⟩
    | wr p => exact seq hx
    | rf n => exact seq hx
    | bo i c => exact seq hx
    | nw c => exact seq hx

/-! ### stores -/
theorem kt_empty {P : Program} {w : World} {H H' : Hp} {h : Heap} {a : Addr} (k : ObjOk P w H h a (.dK [])) : ObjOk P w H' h a (.dT []) := by
  obtain ⟨z, hd, vs, r, o, es, ep, h1, h2, h3, h4, h5, h6⟩ := k
  cases r
  have e0 : es.toList = [] := by
    generalize es.toList = l at h5
    cases h5
    rfl
  exact ⟨z, hd, [], .nil, o, es, ep, h1, h2, h3, e0, List.nodup_nil⟩
theorem tk_empty {P : Program} {w : World} {H H' : Hp} {h : Heap} {a : Addr} (k : ObjOk P w H h a (.dT [])) : ObjOk P w H' h a (.dK []) := by
  obtain ⟨z, hd, xs, r, o, es, ep, h1, h2, h3, h4, h5⟩ := k
  cases r
  have e0 : es = #[] := Array.toList_eq_nil_iff.mp h4
  subst e0
  exact ⟨z, hd, [], .nil, o, #[], ep, h1, h2, h3, (fun e he => by simp at he), .nil, List.nodup_nil⟩
/-- an empty dict is of either kind -/
def Kin (H : Hp) (a : Addr) (H1 : Hp) : Prop := H1 = H ∨ (H a = some (.dT []) ∧ H1 = upd H a (.dK [])) ∨ (H a = some (.dK []) ∧ H1 = upd H a (.dT []))
theorem Kin.inv {pins : List (Addr × Obj)} {s : Shared} {a : Addr} {H1 : Hp} (I : Inv X pins σ H s) (k : Kin H a H1) : Inv X pins σ H1 s := by
  rcases k with rfl | ⟨h, rfl⟩ | ⟨h, rfl⟩
  · exact I
  · have ok := I.hok _ _ h
    exact I.write (t' := s.toks) (h' := s.heap) (x := a) (e := a) (by rw [h]; trivial) (.inl rfl) (fun b u _ z => z) (by obtain ⟨_, _, _, _, o, _, _, h1, _⟩ := ok; exact ⟨o, h1⟩) (tk_empty ok)
  · have ok := I.hok _ _ h
    exact I.write (t' := s.toks) (h' := s.heap) (x := a) (e := a) (by rw [h]; trivial) (.inl rfl) (fun b u _ z => z) (by obtain ⟨_, _, _, _, o, _, _, h1, _⟩ := ok; exact ⟨o, h1⟩) (kt_empty ok)
def rSetD : V → V → V → Hp → (Hp → Prop) → Prop := fun o i v H Q => ∃ a H1 H2, o = .ref a ∧ Kin H a H1 ∧ DPut H1 a i v H2 ∧ Q H2
theorem set_dict (hu : X.A.units + 1 < cLine) : PSet X rSetD := by
  intro pins s σ H o i v ov iv u Q I ro ri rv h
  obtain ⟨a, H1, H2, rfl, hk, hp, q⟩ := h
  cases ro
  exact d_setItem hu (hk.inv I) hp ri rv fun s' I' => ⟨H2, I', q⟩
theorem set_any (hu : X.A.units + 1 < cLine) : PSet X (fun o i v H Q => rSetL o i v H Q ∨ rSetD o i v H Q) := by
  intro pins s σ H o i v ov iv u Q I ro ri rv h
  rcases h with h | h
  · exact set_list pins s σ H o i v ov iv u Q I ro ri rv h
  · exact set_dict hu pins s σ H o i v ov iv u Q I ro ri rv h
def isT : P → Bool
  | .tuple _ => true
  | _ => false
def kOk {α : Type} : List (P × α) → P → Bool
  | [], _ => true
  | q :: _, p => isT q.1 == isT p
def dput {α : Type} (ps : List (P × α)) (p : P) (z : α) : List (P × α) := if (ps.any fun q => PyData.eqv q.1 p) = true then ps.map (fun q => if PyData.eqv q.1 p = true then (q.1, z) else q) else ps ++ [(p, z)]
theorem isT_key (k : Key) : isT (keyP k) = false := by cases k <;> rfl
theorem KP.any {α : Type} {F : V → α → Prop} {k : Key} : ∀ {kvs : List (Key × V)} {ps : List (P × α)}, KP F kvs ps → (kvs.any fun kv => decide (kv.1 = k)) = ps.any fun q => PyData.eqv q.1 (keyP k)
  | [], [], .nil => rfl
  | kv :: kvs, q :: ps, .cons h t => by rw [List.any_cons, List.any_cons, KP.any t, h.1, eqv_key]
theorem TP'.any {α : Type} {F : V → α → Prop} {k : List Key} : ∀ {kvs : List (List Key × V)} {ps : List (P × α)}, TP' F kvs ps → (kvs.any fun kv => decide (kv.1 = k)) = ps.any fun q => PyData.eqv q.1 (.tuple (k.map keyP))
  | [], [], .nil => rfl
  | kv :: kvs, q :: ps, .cons h t => by rw [List.any_cons, List.any_cons, TP'.any t, h.1, eqv_tkeys]
theorem KP.map {α : Type} {F : V → α → Prop} {k : Key} {v : V} {d : α} (hv : F v d) : ∀ {kvs : List (Key × V)} {ps : List (P × α)}, KP F kvs ps → KP F (kvs.map fun kv => if kv.1 = k then (kv.1, v) else kv) (ps.map fun q => if PyData.eqv q.1 (keyP k) = true then (q.1, d) else q)
  | [], [], .nil => .nil
  | kv :: kvs, q :: ps, .cons h t => by
    refine .cons ?_ (KP.map hv t)
    dsimp only
    rw [h.1, eqv_key]
    by_cases e : kv.1 = k
    · rw [if_pos e, if_pos (decide_eq_true e)]
      exact ⟨rfl, hv⟩
    · rw [if_neg e, if_neg (by simpa using e)]
      exact h
theorem TP'.map {α : Type} {F : V → α → Prop} {k : List Key} {v : V} {d : α} (hv : F v d) : ∀ {kvs : List (List Key × V)} {ps : List (P × α)}, TP' F kvs ps → TP' F (kvs.map fun kv => if kv.1 = k then (kv.1, v) else kv) (ps.map fun q => if PyData.eqv q.1 (.tuple (k.map keyP)) = true then (q.1, d) else q)
  | [], [], .nil => .nil
  | kv :: kvs, q :: ps, .cons h t => by
    refine .cons ?_ (TP'.map hv t)
    dsimp only
    rw [h.1, eqv_tkeys]
    by_cases e : kv.1 = k
    · rw [if_pos e, if_pos (decide_eq_true e)]
      exact ⟨rfl, hv⟩
    · rw [if_neg e, if_neg (by simpa using e)]
      exact h
theorem KP.put {α : Type} {F : V → α → Prop} {k : Key} {v : V} {d : α} (hv : F v d) {kvs : List (Key × V)} {ps : List (P × α)} (h : KP F kvs ps) : KP F (putK kvs k v) (dput ps (keyP k) d) := by
  unfold putK dput
  rw [h.any]
  by_cases c : (ps.any fun q => PyData.eqv q.1 (keyP k)) = true
  · rw [if_pos c, if_pos c]
    exact h.map hv
  · rw [if_neg c, if_neg c]
    exact Paired.app h (.cons ⟨rfl, hv⟩ .nil)
theorem TP'.put {α : Type} {F : V → α → Prop} {k : List Key} {v : V} {d : α} (hv : F v d) {kvs : List (List Key × V)} {ps : List (P × α)} (h : TP' F kvs ps) : TP' F (putK kvs k v) (dput ps (.tuple (k.map keyP)) d) := by
  unfold putK dput
  rw [h.any]
  by_cases c : (ps.any fun q => PyData.eqv q.1 (.tuple (k.map keyP))) = true
  · rw [if_pos c, if_pos c]
    exact h.map hv
  · rw [if_neg c, if_neg c]
    exact Paired.app h (.cons ⟨rfl, hv⟩ .nil)
/-- a pair is put into a dict as it lies -/
theorem raw_put {α : Type} {F : V → α → Prop} {a : Addr} {qs : List (P × V)} {ps : List (P × α)} {p : P} {ky : Key ⊕ List Key} {y v : V} {d : α} (hraw : RawD H a qs) (h2 : Paired F (qs.map (·.2)) (ps.map (·.2))) (h3 : qs.map (·.1) = ps.map (·.1))
    (hk : keyD p = some ky) (ry : Rep H y p) (ok : kOk ps p = true) (hl : ps.length < sizeLine) (rv : F v d) :
    ∃ H1 o' qs', Kin H a H1 ∧ DPut H1 a y v (upd H a o') ∧ RawD (upd H a o') a qs' ∧ Paired F (qs'.map (·.2)) ((dput ps p d).map (·.2)) ∧ qs'.map (·.1) = (dput ps p d).map (·.1) := by
  rcases key_cases hk with ⟨k, ep, _⟩ | ⟨ks, ep, _⟩
  · subst ep
    have ey := rep_key ry
    subst ey
    rcases hraw with ⟨kvs, h, z⟩ | ⟨kvs, h, z⟩
    · subst z
      have kp := KP.of h2 h3
      have ll := Paired.length kp
      have kq := kp.put (k := k) rv
      exact ⟨H, .dK (putK kvs k v), qK (putK kvs k v), .inl rfl, DPut.k h (by omega), .inl ⟨_, upd_same, rfl⟩, kq.to.1, kq.to.2⟩
    · subst z
      have kp := TP'.of h2 h3
      cases kp with
      | cons h0 t0 =>
        exfalso
        simp only [kOk] at ok
        rw [h0.1, isT_key] at ok
        simp [isT] at ok
      | nil =>
        have kq : KP F (putK [] k v) (dput [] (keyP k) d) := KP.put (F := F) rv .nil
        have dp := DPut.k (H := upd H a (.dK [])) (a := a) (kvs := []) (k := k) (v := v) upd_same (by show 0 < sizeLine; rw [sizeLine_eq]; omega)
        rw [upd_upd] at dp
        exact ⟨upd H a (.dK []), .dK (putK [] k v), qK (putK [] k v), .inr (.inl ⟨h, rfl⟩), dp, .inl ⟨_, upd_same, rfl⟩, kq.to.1, kq.to.2⟩
  · subst ep
    cases ry with
    | tup hb hbs =>
      rename_i b vs
      have e5 := rep_keys hbs
      subst e5
      rcases hraw with ⟨kvs, h, z⟩ | ⟨kvs, h, z⟩
      · subst z
        have kp := KP.of h2 h3
        cases kp with
        | cons h0 t0 =>
          exfalso
          simp only [kOk] at ok
          rw [h0.1, isT_key] at ok
          simp [isT] at ok
        | nil =>
          have kq : TP' F (putK [] ks v) (dput [] (.tuple (ks.map keyP)) d) := TP'.put (F := F) rv .nil
          have nb : b ≠ a := ne_of hb h (fun z => by cases z)
          have dp := DPut.t (H := upd H a (.dT [])) (a := a) (b := b) (kvs := []) (k := ks) (v := v) upd_same (by rw [upd_ne nb]; exact hb) (by show 0 < sizeLine; rw [sizeLine_eq]; omega)
          rw [upd_upd] at dp
          exact ⟨upd H a (.dT []), .dT (putK [] ks v), qT (putK [] ks v), .inr (.inr ⟨h, rfl⟩), dp, .inr ⟨_, upd_same, rfl⟩, kq.to.1, kq.to.2⟩
      · subst z
        have kp := TP'.of h2 h3
        have ll := Paired.length kp
        have kq := kp.put (k := ks) rv
        exact ⟨H, .dT (putK kvs ks v), qT (putK kvs ks v), .inl rfl, DPut.t h hb (by omega), .inr ⟨_, upd_same, rfl⟩, kq.to.1, kq.to.2⟩
def putD (o : D) (p : P) (d : D) (e : Envi) (S : Sto) : Option (Envi × Sto) := match o with
  | .bo i (.dct _) => match e[i]?, d with
    | some (some (.ow (.dct ps))), .pu q => (keyD p).bind fun _ => if (kOk ps p && decide (ps.length < lim)) = true then some (e.set i (some (.ow (.dct (dput ps p q)))), S) else none
    | _, _ => none
  | .rf n => match S[n]? with
    | some (.dct ps) => (keyD p).bind fun _ => if (kOk ps p && decide (ps.length < lim)) = true then some (e, S.set n (.dct (dput ps p d))) else none
    | _ => none
  | _ => none
theorem RepL.pr : ∀ {vs : List V} {ps : List P}, RepL H vs ps → Paired (Rep H) vs ps
  | _, _, .nil => .nil
  | _, _, .cons h t => .cons h (RepL.pr t)
theorem RepL.un : ∀ {vs : List V} {ps : List P}, Paired (Rep H) vs ps → RepL H vs ps
  | _, _, .nil => .nil
  | _, _, .cons h t => .cons h (RepL.un t)
theorem putD_ok {x y v : V} {o d : D} {p : P} {e' : Envi} {S' : Sto} {Q : Hp → Prop} (r : R G σ H e S f) (po : RE G σ H e f S.length x o) (py : Rep H y p) (pd : RD G.K H f S.length v d) (hp : putD o p d e S = some (e', S'))
    (q : ∀ H', R G σ H' e' S' f → Ext0 H H' → Q H') : rSetD x y v H Q := by
  cases o with
  | pu _ => cases hp
  | wr _ => cases hp
  | nw _ => cases hp
  | rf n =>
    obtain ⟨e1, l⟩ := (show x = .ref (f n) ∧ n < S.length from po)
    subst e1
    unfold putD at hp
    dsimp only at hp
    cases hc : S[n]? with
    | none => rw [hc] at hp; cases hp
    | some c =>
      rw [hc] at hp
      cases c with
      | dct ps =>
        obtain ⟨ky, hk, hp⟩ := Option.bind_eq_some_iff.mp hp
        by_cases c : (kOk ps p && decide (ps.length < lim)) = true
        · rw [if_pos c] at hp
          cases hp
          rw [Bool.and_eq_true, decide_eq_true_eq] at c
          obtain ⟨qs, h1, h2, h3⟩ := r.cel n _ hc
          obtain ⟨H1, o', qs', k1, dp, raw, pr, ke⟩ := raw_put h1 h2 h3 hk py c.1 (by rw [← lim_eq]; exact c.2) pd
          obtain ⟨u, hu, mu⟩ := r.cell_mut hc rfl
          have x := raw_ext (o' := o') hu mu
          obtain ⟨r2, x2⟩ := r.cel_set (c := .dct (dput ps p d)) (o' := o') hc rfl ⟨qs', raw, Paired.mapP pr fun _ _ => RD.ext x, ke⟩
          exact ⟨f n, H1, _, rfl, k1, dp, q _ r2 x2⟩
        · rw [if_neg c] at hp
          cases hp
      | _ => cases hp
  | bo i c =>
    cases c with
    | lst _ => cases hp
    | dct ps0 =>
      obtain ⟨h1, h2⟩ := (show σ[i]? = some (some x) ∧ e[i]? = some (some (.ow (.dct ps0))) from po)
      unfold putD at hp
      dsimp only at hp
      rw [h2] at hp
      cases d with
      | pu pv =>
        obtain ⟨ky, hk, hp⟩ := Option.bind_eq_some_iff.mp hp
        by_cases c : (kOk ps0 p && decide (ps0.length < lim)) = true
        · rw [if_pos c] at hp
          cases hp
          rw [Bool.and_eq_true, decide_eq_true_eq] at c
          obtain ⟨a, h3, ⟨qs, h4, h5, h6⟩, _⟩ := r.own i _ h2
          have h1' := h1
          rw [h3] at h1
          cases h1
          obtain ⟨H1, o', qs', k1, dp, raw, pr, ke⟩ := raw_put h4 h5.pr h6 hk py c.1 (by rw [← lim_eq]; exact c.2) (show Rep H v pv from pd)
          obtain ⟨u, hu, mu⟩ := OCok.raw (c := .dct ps0) ⟨qs, h4, h5, h6⟩
          have x := raw_ext (o' := o') hu mu
          exact ⟨a, H1, _, rfl, k1, dp, q _ (r.own_set h2 h3 ⟨qs', raw, RepL.ext x (RepL.un pr), ke⟩) x⟩
        · rw [if_neg c] at hp
          cases hp
      | _ => cases hp
/-- o[i] = d -/
def putS (o i d : D) (e : Envi) (S : Sto) : Option (Envi × Sto) := match lstD o S, i with
  | some _, .pu (.int k) => putL o (fun ds => (ixN ds.length k).map fun j => ds.set j d) e S
  | _, .pu p => putD o p d e S
  | _, _ => none
def gSubT (xo xi : Ex) : Gt := fun d e S => (xo e S).bind fun o => (xi e o.2).bind fun i => if noBo [d] then putS o.1 i.1 d e i.2 else none
theorem putS_ok {x y v : V} {o i d : D} {e' : Envi} {S' : Sto} {Q : Hp → Prop} (r : R G σ H e S f) (po : RE G σ H e f S.length x o) (py : RE G σ H e f S.length y i) (pd : RD G.K H f S.length v d) (hp : putS o i d e S = some (e', S'))
    (q : ∀ H', R G σ H' e' S' f → Ext0 H H' → Q H') : rSetL x y v H Q ∨ rSetD x y v H Q := by
  unfold putS at hp
  split at hp
  · rename_i k hl
    cases (show Rep H y (.int k) from py)
    obtain ⟨a, vs, ds, ds', e1, h1, h2, h3, h4, h5⟩ := putL_ok r po hp
    cases hj : ixN ds.length k with
    | none => rw [hj] at h3; cases h3
    | some j =>
      rw [hj] at h3
      cases h3
      obtain ⟨r2, x2⟩ := h5 (vs.set j v) (Paired.setp pd j h2)
      exact .inl ⟨a, vs, k, j, e1, rfl, h1, by rw [Paired.length h2]; exact hj, q _ r2 x2⟩
  · exact .inr (putD_ok r po py pd hp q)
  · cases hp
theorem dg_sub {u : Nat → Bool} {o i : Expr} {xo xi : Ex} {pos : Pos} (hu : X.A.units + 1 < cLine) (ho : DE X G o xo) (hi : DE X G i xi)
    (ha : ∀ v, assign (.Subscript o i pos) X.env v = (do let ov ← holding [v] (eval o X.env); let iv ← holding [v, ov] (eval i X.env); standAt pos; holding [v, ov, iv] (setItem ov iv v); release [v, ov, iv] []) := by intro _; rfl) : DG X G u (.Subscript o i pos) (gSubT xo xi) :=
  pg_mono (pg_sub ho hi (set_any hu) ha) fun v σ H Q hw => by
    obtain ⟨e, S, f, d, r, p, e', S', hg, q⟩ := hw
    obtain ⟨⟨d1, S1⟩, e1, hg⟩ := Option.bind_eq_some_iff.mp hg
    obtain ⟨⟨d2, S2⟩, e2, hg⟩ := Option.bind_eq_some_iff.mp hg
    by_cases c : noBo [d] = true
    · rw [if_pos c] at hg
      refine ⟨e, S, f, r, d1, S1, e1, fun v1 H1 f1 r1 n1 p1 => ⟨e, S1, f1, r1, d2, S2, e2, fun v2 H2 f2 r2 n2 p2 => ?_⟩⟩
      have pd := RD.nx (n1.trans n2) (re_rd p c)
      exact putS_ok r2 (p1.nx n2) p2 pd hg fun H' r' x' => q σ H' f2 r' ((n1.trans n2).ext.trans x') (.refl _ _)
    · rw [if_neg c] at hg
      cases hg
end
end DL
/-! DLB: displays of dicts, defs. -/
namespace DL
open PySem PySem.Spec PyProof.Rows L2
section
variable {X : Cx} {G : Gx} {σ : L2.St} {H H1 : Hp} {e : Envi} {S S1 : Sto} {f f1 : Nat → Addr} {L L1 : Nat} {p : Addr}
/-! ### a thing that has been laid becomes a cell -/
theorem RD.putf {K : PySem.W.Frag} {v : V} : ∀ {d : D}, RD K H f L v d → RD K H (put1 f L p) (L + 1) v d
  | .pu _, h => h
  | .wr _, h => h
  | .rf n, ⟨h, l⟩ => ⟨by rw [put1_lt l]; exact h, Nat.lt_succ_of_lt l⟩
  | .bo _ _, h => h
  | .nw _, h => h
theorem MCok.putf {a : Addr} : ∀ {c : MC}, MCok G H f L a c → MCok G H (put1 f L p) (L + 1) a c
  | .lst _, ⟨vs, h, r⟩ => ⟨vs, h, Paired.mapP r fun _ _ => RD.putf⟩
  | .dct _, ⟨qs, h, r, e⟩ => ⟨qs, h, Paired.mapP r fun _ _ => RD.putf, e⟩
  | .obj _ _, ⟨C, dx, us, c, h, r, e⟩ => ⟨C, dx, us, c, h, Paired.mapP r fun _ _ => RD.putf, e⟩
  | .fz _, h => h
theorem Cells.adopt {o o' : HO} {c : MC} (k : Cells G H f S) (h : H p = some o) (mu : Mut (some o)) (hn : ∀ n, n < S.length → f n ≠ p) (hc : MCok G (upd H p o') (put1 f S.length p) (S.length + 1) p c) : Cells G (upd H p o') (put1 f S.length p) (S ++ [c]) := by
  have k2 := k.other (o' := o') h mu hn
  refine ⟨fun n d hd => ?_, fun n m hn' hm e => ?_⟩
  · rw [len1]
    by_cases l : n < S.length
    · rw [List.getElem?_append_left l] at hd
      rw [put1_lt l]
      exact MCok.putf (k2.cel n d hd)
    · have e : n = S.length := by
        have := (List.getElem?_eq_some_iff.mp hd).1
        rw [len1] at this
        omega
      subst e
      rw [List.getElem?_append_right (Nat.le_refl _), Nat.sub_self] at hd
      cases hd
      rw [put1_at]
      exact hc
  · rw [len1] at hn' hm
    by_cases h1 : n < S.length
    · by_cases h2 : m < S.length
      · rw [put1_lt h1, put1_lt h2] at e
        exact k.inj n m h1 h2 e
      · have e2 : m = S.length := by omega
        subst e2
        rw [put1_lt h1, put1_at] at e
        exact absurd e (hn n h1)
    · have e1 : n = S.length := by omega
      subst e1
      by_cases h2 : m < S.length
      · rw [put1_lt h2, put1_at] at e
        exact absurd e.symm (hn m h2)
      · omega
theorem Nx.adopt {o' : HO} (x : Nx H H1 f f1 L L1) (h : H p = none) : Nx H (upd H1 p o') f (put1 f1 L1 p) L (L1 + 1) where
  ext := (x.grown (o' := o') h).ext
  ag := fun n hn => by rw [put1_lt (Nat.lt_of_lt_of_le hn x.le)]; exact x.ag n hn
  le := Nat.le_succ_of_le x.le
  oth := (x.grown (o' := o') h).oth
  fr := fun n h1 h2 => by
    by_cases l : n < L1
    · rw [put1_lt l]
      exact x.fr n h1 l
    · have e : n = L1 := by omega
      subst e
      rw [put1_at]
      exact h
  th := (x.grown (o' := o') h).th

/-! ### displays of dicts -/
def dmerge {α : Type} (acc more : List (P × α)) : List (P × α) := more.foldl (fun acc q => dput acc q.1 q.2) acc
theorem KP.merge {α : Type} {F : V → α → Prop} : ∀ {more : List (Key × V)} {ms : List (P × α)} {kvs : List (Key × V)} {ps : List (P × α)}, KP F more ms → KP F kvs ps → KP F (mergeK kvs more) (dmerge ps ms)
  | [], [], _, _, .nil, k => k
  | kv :: more, q :: ms, kvs, ps, .cons h t, k => by
    show KP F (mergeK (putK kvs kv.1 kv.2) more) (dmerge (dput ps q.1 q.2) ms)
    rw [h.1]
    exact KP.merge t (k.put h.2)
def DPs (X : Cx) (G : Gx) (pos : Pos) (keys : List (Option Expr)) (values : List Expr) (ks : List Key) (xa : Ax) : Prop :=
  ∃ trs, PPs X pos keys values trs ∧ ∀ σ H Q, (∃ e S f, R G σ H e S f ∧ ∃ ds S', xa e S = some (ds, S') ∧ ∀ vs H' f', R G σ H' e S' f' → Nx H H' f f' S.length S'.length → Paired (RE G σ H' e f' S'.length) vs ds → Q (List.zip (ks.map kV) vs) H') → tPairs trs σ H Q
theorem dps_nil {pos : Pos} : DPs X G pos [] [] [] aNil := ⟨[], pps_nil, fun σ H Q hw => by
  obtain ⟨e, S, f, r, ds, S', hx, q⟩ := hw
  cases hx
  exact q [] H f r (.refl _ _ _) .nil⟩
theorem dps_cons {pos : Pos} {k v : Expr} {keys : List (Option Expr)} {values : List Expr} {ky : Key} {ks : List Key} {x : Ex} {xa : Ax} (hk : PE X k (tC (kV ky))) (hv : DE X G v x) (h : DPs X G pos keys values ks xa) : DPs X G pos (some k :: keys) (v :: values) (ky :: ks) (aCons x xa) := by
  obtain ⟨trs, hp, m⟩ := h
  refine ⟨_, pps_cons hk hv hp, fun σ H Q hw => ?_⟩
  obtain ⟨e, S, f, r, ds, S', hx, q⟩ := hw
  obtain ⟨⟨d1, S1⟩, h1, hx⟩ := Option.bind_eq_some_iff.mp hx
  obtain ⟨⟨ds2, S2⟩, h2, hx⟩ := Option.bind_eq_some_iff.mp hx
  cases hx
  refine ⟨e, S, f, r, d1, S1, h1, fun v1 H1 f1 r1 n1 p1 => ?_⟩
  refine m σ H1 _ ⟨e, S1, f1, r1, ds2, S2, h2, fun vs H2 f2 r2 n2 p2 => ?_⟩
  exact q (v1 :: vs) H2 f2 r2 (n1.trans n2) (.cons (p1.nx n2) p2)
theorem zip_kvs : ∀ (ks : List Key) (vs : List V), List.zip (ks.map kV) vs = (List.zip ks vs).map fun kv => (kV kv.1, kv.2)
  | [], _ => by simp
  | _ :: _, [] => by simp
  | k :: ks, v :: vs => by simp only [List.map_cons, List.zip_cons_cons, zip_kvs ks vs]
theorem KP.zip {α : Type} {F : V → α → Prop} : ∀ {ks : List Key} {vs : List V} {ds : List α}, Paired F vs ds → KP F (List.zip ks vs) (List.zip (ks.map keyP) ds)
  | [], _, _, _ => .nil
  | _ :: _, _, _, .nil => .nil
  | k :: ks, _, _, .cons h t => .cons ⟨rfl, h⟩ (KP.zip t)
def xDisp (ks : List Key) (xa : Ax) : Ex := fun e S => (xa e S).bind fun r => if (noBo r.1 && decide (ks.length ≤ 15)) = true then some (.rf r.2.length, r.2 ++ [.dct (dmerge [] (List.zip (ks.map keyP) r.1))]) else none
theorem d_disp {pos : Pos} {keys : List (Option Expr)} {values : List Expr} {ks : List Key} {xa : Ax} (h : DPs X G pos keys values ks xa) (hall : keys.all (·.isSome) = true := by rfl) (hl : keys.length = values.length := by rfl) (h0 : keys ≠ [] := by exact List.cons_ne_nil _ _) (h15 : keys.length ≤ 15 := by decide) : DE X G (.Dict keys values pos) (xDisp ks xa) := by
  obtain ⟨trs, hp, m⟩ := h
  refine pe_mono (pe_disp hp hall hl h0 h15) fun σ H Q hw => ?_
  obtain ⟨e, S, f, r, d, S', hx, q⟩ := hw
  obtain ⟨⟨ds, S1⟩, h1, hx⟩ := Option.bind_eq_some_iff.mp hx
  dsimp only at hx
  by_cases c : (noBo ds && decide (ks.length ≤ 15)) = true
  · rw [if_pos c] at hx
    cases hx
    rw [Bool.and_eq_true, decide_eq_true_eq] at c
    intro p np
    have s0 := upd_new (o := .dK []) np
    refine m σ _ _ ⟨e, S, f, r.same s0, ds, S1, h1, fun vs H2 f2 r2 n2 p2 => ?_⟩
    have fp : ∀ n, n < S.length → f n ≠ p := fun n hn z => by
      obtain ⟨u, hu, _⟩ := r.cell_at hn
      rw [z, np] at hu
      cases hu
    have hp2 : H2 p = some (.dK []) := n2.oth p _ upd_same fp
    have fp2 : ∀ n, n < S1.length → f2 n ≠ p := fun n hn z => by
      by_cases l : n < S.length
      · rw [n2.ag n l] at z
        exact fp n l z
      · have q0 := n2.fr n (Nat.le_of_not_lt l) hn
        rw [z, upd_same] at q0
        cases q0
    refine ⟨hp2, List.zip ks vs, zip_kvs ks vs, by rw [List.length_zip]; omega, ?_⟩
    have n0 : Nx H H2 f f2 S.length S1.length := (Nx.of s0 f S.length).trans n2
    have kp : KP (RD G.K H2 f2 S1.length) (mergeK [] (List.zip ks vs)) (dmerge [] (List.zip (ks.map keyP) ds)) := KP.merge (KP.zip (re_rds p2 c.1)) .nil
    have kp' : KP (RD G.K (upd H2 p (.dK (mergeK [] (List.zip ks vs)))) (put1 f2 S1.length p) (S1.length + 1)) (mergeK [] (List.zip ks vs)) (dmerge [] (List.zip (ks.map keyP) ds)) :=
      Paired.mapP kp fun a b h => ⟨h.1, RD.putf (RD.ext (raw_ext hp2 trivial) h.2)⟩
    have cc := r2.cells.adopt (o' := .dK (mergeK [] (List.zip ks vs))) (c := .dct (dmerge [] (List.zip (ks.map keyP) ds))) hp2 trivial fp2 ⟨qK _, .inl ⟨_, upd_same, rfl⟩, kp'.to.1, kp'.to.2⟩
    have nn := n0.adopt (o' := .dK (mergeK [] (List.zip ks vs))) np
    refine q _ _ (put1 f2 S1.length p) (r.nx (by rw [len1]; exact nn) cc) (by rw [len1]; exact nn) ⟨by rw [put1_at], by rw [len1]; exact Nat.lt_succ_self _⟩
  · rw [if_neg c] at hx
    cases hx
end
end DL
/-! DLC: defs as mirrors; the law's end. -/
namespace DL
open PySem PySem.Spec PyProof.Rows L2

/-- the slots at the entry -/
def env0 (l : Nat) (ds : List D) : Envi := ds.map (fun d => some (.val d)) ++ List.replicate (l - ds.length) none
def runF (n l : Nat) (b : Sx) (ds : List D) (S : Sto) : Option (D × Sto) := if ds.length = n ∧ n ≤ l then (b (env0 l ds) S).bind fun o => match o with
    | .nx _ S' => some (.pu .none, S')
    | .rt d _ S' => if noBo [d] then some (d, S') else none
    | _ => none
  else none
def runP (n l : Nat) (b : Sx) (ps : List P) : Option P := (runF n l b (ps.map .pu) []).bind fun r => match r.1 with
  | .pu p => some p
  | _ => none
theorem runF_len {n l : Nat} {b : Sx} {ds : List D} {S : Sto} {r : D × Sto} (h : runF n l b ds S = some r) : ds.length = n := by
  unfold runF at h
  by_cases c : ds.length = n ∧ n ≤ l
  · exact c.1
  · rw [if_neg c] at h
    cases h
theorem runP_len {n l : Nat} {b : Sx} {ps : List P} {p : P} (h : runP n l b ps = some p) : ps.length = n := by
  obtain ⟨r, h1, _⟩ := Option.bind_eq_some_iff.mp h
  have := runF_len h1
  rwa [List.length_map] at this
theorem env0_val {l : Nat} {ds : List D} {i : Nat} {s : Sl} (h : (env0 l ds)[i]? = some (some s)) : ∃ d, ds[i]? = some d ∧ s = .val d := by
  unfold env0 at h
  by_cases c : i < ds.length
  · rw [List.getElem?_append_left (by rw [List.length_map]; exact c), List.getElem?_map] at h
    rw [List.getElem?_eq_getElem c] at h ⊢
    cases h
    exact ⟨_, rfl, rfl⟩
  · rw [List.getElem?_append_right (by rw [List.length_map]; omega), List.getElem?_replicate] at h
    split at h
    · cases h
    · cases h
theorem start_val {N : List Str} {vs : List V} {i : Nat} {v : V} (h : vs[i]? = some v) : (L2.start N vs)[i]? = some (some v) := by
  unfold L2.start
  have c := (List.getElem?_eq_some_iff.mp h).1
  rw [List.getElem?_append_left (by rw [List.length_map]; exact c), List.getElem?_map, h]
  rfl
theorem Cells.nil {G : Gx} {H : Hp} {f : Nat → Addr} : Cells G H f [] := ⟨fun n c h => (by cases h), fun n m h => absurd h (Nat.not_lt_zero _)⟩
/-- the state at a def's entry -/
theorem R.entry {G : Gx} {N : List Str} {vs : List V} {ds : List D} {S : Sto} (hl : ds.length ≤ N.length) (hp : Paired (RD G.K G.H0 G.f0 G.n0) vs ds) (hn : G.n0 = S.length) (c : Cells G G.H0 G.f0 S) : R G (L2.start N vs) G.H0 (env0 N.length ds) S G.f0 where
  ln := by
    have := Paired.length hp
    unfold env0 L2.start
    simp only [List.length_append, List.length_map, List.length_replicate]
    omega
  val := fun i d h => by
    obtain ⟨d', h1, h2⟩ := env0_val h
    cases h2
    obtain ⟨v, h3, h4⟩ := Paired.get2 hp h1
    exact ⟨v, start_val h3, by rw [← hn]; exact h4⟩
  own := fun i c h => by
    obtain ⟨d', h1, h2⟩ := env0_val h
    cases h2
  sep := fun i j c c' a hij h => by
    obtain ⟨d', h1, h2⟩ := env0_val h
    cases h2
  cel := c.cel
  inj := c.inj
  frm := fun b o h _ => h
  new := fun n h1 h2 => absurd h2 (by omega)
  old := fun n h => rfl
  le := by omega
  ext := .refl _
section
variable {Pg : Program} {w : World} {K : PySem.W.Frag} {mg : Str → Option Value} {base : Heap} {x qual : Str} {st : Stmt} {f : Addr} {fd : FuncData} {N ps : List Str} {k n : Nat} {b : Sx}
/-- a def's body as an evaluator -/
def Body (Pg : Program) (w : World) (K : PySem.W.Frag) (mg : Str → Option Value) (base : Heap) (qual : Str) (st : Stmt) (f : Addr) (N : List Str) (k : Nat) (cl : Str → Option Addr) (b : Sx) : Prop :=
  ∀ (cdv : Value) (A : Around) (outer : List Env) (s : Shared) (H : Hp) (E : XK) (G : Gx), G.K = K → G.cl = cl → Room k (A.deeper (envOfC qual (defScope st) s.heap.objs.size f cdv)) →
    DSs (cxOf CX0 Pg w K mg base N qual (defScope st) f cdv A outer s H E).nox G (defBody st) b
theorem fnF {cl : Str → Option Addr} (F : Fun K x qual st f fd) (S : FnScope N ps (defScope st)) (hn : ps.length = n) (hb : Body Pg w K mg base qual st f N k cl b) : FnOk Pg w K mg base CX0 (k + 1) f fd ps (SpF K cl n (runF n N.length b)) := by
  refine F.ok S (fun vs H Q E h => h.1.trans hn.symm) fun cdv A outer s H vs Q E hr h => ?_
  obtain ⟨hl, f0, S0, ds, d, S', hp, hc, hm, q⟩ := h
  refine ⟨_, hb cdv A outer s H E ⟨K, cl, H, S0.length, f0⟩ rfl rfl hr, ?_⟩
  unfold runF at hm
  by_cases c : ds.length = n ∧ n ≤ N.length
  · rw [if_pos c] at hm
    obtain ⟨o, h1, h2⟩ := Option.bind_eq_some_iff.mp hm
    have r0 : R ⟨K, cl, H, S0.length, f0⟩ (L2.start N vs) H (env0 N.length ds) S0 f0 := R.entry (G := ⟨K, cl, H, S0.length, f0⟩) (by omega) hp rfl hc
    refine ⟨_, S0, f0, r0, o, h1, ?_⟩
    cases o with
    | nx e1 S1 =>
      cases h2
      exact fun σ' H' f' r' x' => q .non H' f' r'.cells (r'.back) .non
    | rt d1 e1 S1 =>
      dsimp only at h2
      by_cases c2 : noBo [d1] = true
      · rw [if_pos c2] at h2
        cases h2
        exact fun v σ' H' f' r' x' p' => q v H' f' r'.cells (r'.back) (re_rd p' c2)
      · rw [if_neg c2] at h2
        cases h2
    | bk _ _ => cases h2
    | ct _ _ => cases h2
  · rw [if_neg c] at hm
    cases hm
theorem fnP {cl : Str → Option Addr} (F : Fun K x qual st f fd) (S : FnScope N ps (defScope st)) (hn : ps.length = n) (hb : Body Pg w K mg base qual st f N k cl b) : FnOk Pg w K mg base CX0 (k + 1) f fd ps (SpP n (runP n N.length b)) :=
  (fnF F S hn hb).imp fun vs H Q E h => by
    obtain ⟨hl, as, p, hp, hm, q⟩ := h
    obtain ⟨⟨d, S'⟩, h1, h2⟩ := Option.bind_eq_some_iff.mp hm
    cases d with
    | pu p' =>
      cases h2
      refine ⟨hl, fun _ => 0, [], as.map .pu, .pu p, S', reps_rd hp, Cells.nil, h1, fun v H' f' c nx rd => q v H' (fun b o h => nx.oth b o h fun n hn => absurd hn (Nat.not_lt_zero _)) rd⟩
    | wr _ => cases h2
    | rf _ => cases h2
    | bo _ _ => cases h2
    | nw _ => cases h2
/-- a def that is never called -/
theorem fn_none {sp : Sp} (h : ∀ vs H Q E, ¬ sp vs H Q E) : FnOk Pg w K mg base CX0 k f fd ps sp := ⟨fun vs H Q E z => (h _ _ _ _ z).elim, fun A outer s H args us vs Q E _ _ _ _ z => (h _ _ _ _ z).elim⟩
end
/-- the script: True comes out of it -/
def scriptOk (m : List D → Sto → Option (D × Sto)) : Prop := ∀ ns : List Int, ns.length ≤ 63 → (∃ S, m [.pu (.list (ns.map .int))] [] = some (.pu (.bool true), S)) ∧ ∃ S, m [.wr (.list (ns.map .int))] [] = some (.pu (.bool true), S)
theorem repw_ints {K : PySem.W.Frag} : ∀ is : List Int, RepWL K (is.map V.int) (is.map .int)
  | [] => .nil
  | i :: is => .cons (.int i) (repw_ints is)
theorem sp_law {K : PySem.W.Frag} {cl : Str → Option Addr} {m : List D → Sto → Option (D × Sto)} (ok : scriptOk m) {H : Hp} {a : Addr} {ns : List Int} (hl : ns.length ≤ 63) (hO : Only H) (hS : SqL K H a (ns.map V.int)) : SpF K cl 1 m [.ref a] H (fun v _ => v = .bl true) fun _ _ _ => False := by
  obtain ⟨⟨S1, h1⟩, S2, h2⟩ := ok ns hl
  rcases hS with h | ⟨o, its, n, h3, h4, h5, h6, h7, h8⟩
  · have h' : FzL H a (ns.map V.int) := by
      rcases h with h | ⟨o, h⟩
      · rcases hO a with z | ⟨o, xs, z⟩
        · rw [h] at z; cases z
        · rw [h] at z; cases z
      · exact ⟨o, h⟩
    exact ⟨rfl, fun _ => 0, [], _, _, S1, .cons (show RD K H (fun _ => 0) 0 (.ref a) (.pu (.list (ns.map .int))) from Rep.lst h' (RepL.of_ints ns)) .nil, Cells.nil, h1, fun v H' f' c nx rd => by cases (show Rep H' v (.bool true) from rd); rfl⟩
  · exact ⟨rfl, fun _ => 0, [], _, _, S2, .cons (show RD K H (fun _ => 0) 0 (.ref a) (.wr (.list (ns.map .int))) from RepW.lst h3 h4 h5 h6 h7 h8 (repw_ints ns)) .nil, Cells.nil, h2, fun v H' f' c nx rd => by cases (show Rep H' v (.bool true) from rd); rfl⟩
end DL
/-! DLD: what a printed derivation names. -/
namespace DL
open PySem PySem.Spec PyProof.Rows L2
section
variable {X : Cx} {G : Gx}
/-- an own thing is frozen, if it is one -/
def sFq (i : Nat) (s : Sx) : Sx := fun e S => match e[i]? with
  | some (some (.ow c)) => s (e.set i (some (.val (.pu (frzP c))))) S
  | _ => s e S
theorem ds_fq (i : Nat) {sts : List Stmt} {s : Sx} (h : DSs X G sts s) : DSs X G sts (sFq i s) := by
  refine ⟨fun pins st σ H T I hw => ?_⟩
  obtain ⟨e, S, f, r, o, hx, q⟩ := hw
  unfold sFq at hx
  split at hx
  · rename_i c he
    obtain ⟨a, h1, h2, _⟩ := r.own i c he
    obtain ⟨u, hu, mu⟩ := h2.raw
    obtain ⟨od, I2⟩ := I.lock hu mu
    obtain ⟨r2, x2⟩ := r.freeze he h1 hu (od := od)
    exact h.run pins st σ _ T I2 ⟨_, S, f, r2, o, hx, q.pre x2⟩
  · exact h.run pins st σ H T I ⟨e, S, f, r, o, hx, q⟩
theorem relR (a : Addr) : RelV (.ref a) (.ref a) := rfl
theorem relI {i : Int} {t : Nat} : RelV (.int i) (.int i t) := ⟨_, rfl⟩
theorem relS {x : Str} {t : Nat} : RelV (.str x) (.str x t) := ⟨_, rfl⟩
theorem relB (b : Bool) : RelV (.bl b) (.bool b) := rfl
theorem relN : RelV .non .none := rfl
/-- a module's constant -/
structure KC (K : PySem.W.Frag) (mg : Str → Option Value) (x : Str) (p : P) : Prop where
  ex : ∃ v u, mg x = some u ∧ RelV v u ∧ RepW K v p
theorem d_kc {x : Str} {p : P} {pos : Pos} (hK : X.K = G.K) (c : KC X.K X.mg x p) (hg : Gl X x := by rfl) (hd : (x == ("__debug__" : Str)) = false := by decide) : DE X G (.Name x pos) (xD (wrD p)) := by
  obtain ⟨v, u, h1, h2, h3⟩ := c
  refine pe_mono (pe_glob hg h1 h2 hd) fun σ H Q hw => ?_
  obtain ⟨e, S, f, r, d, S', hx, q⟩ := hw
  cases hx
  exact q v H f r (.refl _ _ _) (wr_rd (by rw [← hK]; exact h3)).re
/-- a def of the text, as its callers see it -/
structure Callee (Pg : Program) (w : World) (K : PySem.W.Frag) (mg : Str → Option Value) (base : Heap) (k : Nat) (x : Str) (ps : List Str) (sp : Sp) : Prop where
  ex : ∃ g fd, FnOk Pg w K mg base CX0 k g fd ps sp ∧ mg x = some (.ref g) ∧ PySem.W.keepIn K (.ref g) = true ∧ Binds K fd ps []
section
variable {k n : Nat} {ps : List Str} {x : Str} {p pos : Pos} {a : Expr} {es : List Expr} {xa : Ax}
theorem d_cP {m : List P → Option P} (F : Callee X.prog X.w X.K X.mg X.base k x ps (SpP n m)) (hl : ∀ ps p, m ps = some p → ps.length = n) (hr : Room k X.A) 
    (ha : DA X G (a :: es) xa) (hg : Gl X x := by rfl) (hdb : (x == ("__debug__" : Str)) = false := by decide) (he : starEach (a :: es) X.env = (false, eval a X.env) :: starEach es X.env := by rfl) (hpl : (backTo pos (starEach es X.env)).any (·.1) = false := by rfl) : DE X G (.Call (.Name x p) (a :: es) [] pos) (xA (gCallP m) xa) := by
  obtain ⟨g, fd, F, hm, hk, hb⟩ := F
  exact d_callP F hl hr hg hm hk hb ha hdb he hpl
theorem d_cF {m : List D → Sto → Option (D × Sto)} (F : Callee X.prog X.w X.K X.mg X.base k x ps (SpF G.K G.cl n m)) (hl : ∀ ds S r, m ds S = some r → ds.length = n) (hr : Room k X.A)
    (ha : DA X G (a :: es) xa) (hg : Gl X x := by rfl) (hdb : (x == ("__debug__" : Str)) = false := by decide) (he : starEach (a :: es) X.env = (false, eval a X.env) :: starEach es X.env := by rfl) (hpl : (backTo pos (starEach es X.env)).any (·.1) = false := by rfl) : DE X G (.Call (.Name x p) (a :: es) [] pos) (xA (gCallF m) xa) := by
  obtain ⟨g, fd, F, hm, hk, hb⟩ := F
  exact d_callF F hl hr hg hm hk hb ha hdb he hpl
end
theorem Callee.mk' {Pg : Program} {w : World} {K : PySem.W.Frag} {mg : Str → Option Value} {base : Heap} {k : Nat} {x qual : Str} {ps : List Str} {sp : Sp} {st : Stmt} {g : Addr} {fd : FuncData} (F : Fun K x qual st g fd) (ok : FnOk Pg w K mg base CX0 k g fd ps sp) (hm : mg x = some (.ref g))
    (hb : ∀ (kV doc pm : Value) (an : Option Addr) (cdv ct : Value) (us : List Value), us.length = ps.length → bindArgs (PySem.W.fnOf x qual (defArgs st) (defBody st) (defScope st) .none kV doc pm an cdv ct) ⟨us, []⟩ = pure (ps.zip us)) : Callee Pg w K mg base k x ps sp :=
  ⟨g, fd, ok, hm, F.kp, F.binds hb⟩
end
end DL
/-! DLE: new things; defs that give them; a name's own thing lent for a moment. -/
namespace DL
open PySem PySem.Spec PyProof.Rows L2
section
variable {X : Cx} {G : Gx} {σ : L2.St} {H : Hp} {e : Envi} {S : Sto} {f : Nat → Addr}
theorem RE.fresh (r0 : R G σ H e S f) {H' : Hp} {a : Addr} {c : OC} (h : H a = none) (hc : OCok H' a c) : RE G σ H' e f S.length (.ref a) (.nw c) :=
  show ∃ b, V.ref a = .ref b ∧ OCok H' b c ∧ G.H0 b = none ∧ (∀ n, n < S.length → f n ≠ b) ∧ ∀ (j : Nat) (c' : OC), e[j]? = some (some (.ow c')) → σ[j]? ≠ some (some (.ref b)) from ⟨a, rfl, hc, r0.free0 h, fun n hn z => (by
    obtain ⟨u, hu, _⟩ := r0.cell_at hn
    rw [z, h] at hu
    cases hu), fun j c' hj z => by
    obtain ⟨b, h1, h2, _⟩ := r0.own j c' hj
    rw [z] at h1
    cases h1
    obtain ⟨u, hu, _⟩ := h2.raw
    rw [h] at hu
    cases hu⟩
theorem nw_fin {p : Addr} {vs : List V} {ps : List P} {Q : VK} (r0 : R G σ H e S f) (h : H p = none) (r : RepL H vs ps) (q : Fin G σ e H f S S (.nw (.lst ps)) Q) : GQ Q (.ref p) (upd H p (.lst vs)) :=
  .inl (q _ _ f (r0.same (upd_new h)) (.of (upd_new h) _ _) (RE.fresh r0 h ⟨vs, upd_same, RepL.ext (.of (upd_new h)) r⟩))
/-! ### list(x), [..], +, slices, comprehensions: new -/
def gListN : List D → Sto → Option (D × Sto)
  | [d], S => (seqD d S).bind fun q => (pusOf q.2).bind fun ps => some (.nw (.lst ps), S)
  | _, _ => none
theorem v_listN (hK : X.K = G.K) : VA G (fun xs H Q => ∃ p ys, xs = [.ref p] ∧ (SqL X.K H p ys ∨ SqT X.K H p ys) ∧ ∀ l, H l = none → Q (.ref l) (upd H l (.lst ys))) gListN := by
  intro σ H e S f vs ds d S' Q r0 rs hg q
  match ds, rs with
  | [dx], .cons (a := x) rx .nil =>
    obtain ⟨⟨k, is⟩, h1, hg⟩ := Option.bind_eq_some_iff.mp (show (seqD dx S).bind _ = _ from hg)
    obtain ⟨ps, h2, hg⟩ := Option.bind_eq_some_iff.mp hg
    cases hg
    have e2 := pusOf_eq h2
    dsimp only at e2
    subst e2
    obtain ⟨a, us, rfl, ht, hl, hp⟩ := seq_ok r0 rx h1
    rw [hK]
    exact ⟨a, us, rfl, sq_or ht hl, fun l nl => nw_fin r0 nl (rd_reps hp) q⟩
  | [], _ => cases hg
  | _ :: _ :: _, _ => simp [gListN] at hg
def gLstN (ds : List D) (S : Sto) : Option (D × Sto) := (pusOf ds).bind fun ps => if ps.length ≤ lim then some (.nw (.lst ps), S) else none
theorem d_lstN {es : List Expr} {xa : Ax} {pos : Pos} (h : DA X G es xa) : DE X G (.List es pos) (xA gLstN xa) := by
  refine pe_mono (pe_gh (pe_lst h)) fun σ H Q hh => ?_
  refine tE.bA (r := fun xs H Q => xs.length ≤ sizeLine ∧ ∀ p, H p = none → Q (.ref p) (upd H p (.lst xs))) ?_ σ H Q hh
  intro σ H e S f vs ds d S' Q r0 rs hg q
  obtain ⟨ps, h1, hg⟩ := Option.bind_eq_some_iff.mp hg
  by_cases c : ps.length ≤ lim
  · rw [if_pos c] at hg
    cases hg
    have e1 := pusOf_eq h1
    subst e1
    have rp := re_reps rs
    exact ⟨by rw [rp.length, ← lim_eq]; exact c, fun p hp => nw_fin r0 hp rp q⟩
  · rw [if_neg c] at hg
    cases hg
/-- list + list, new -/
def gCatN (a b : D) (S : Sto) : Option (D × Sto) := (lstD a S).bind fun xs => (lstD b S).bind fun ys => (pusOf xs).bind fun ps => (pusOf ys).bind fun qs => if ps.length + qs.length ≤ lim then some (.nw (.lst (ps ++ qs)), S) else none
theorem v_catN : V2 G rCatL gCatN := by
  intro σ H e S f x y dx dy d S' Q r0 rx ry h q
  obtain ⟨xs, h1, h⟩ := Option.bind_eq_some_iff.mp h
  obtain ⟨ys, h2, h⟩ := Option.bind_eq_some_iff.mp h
  obtain ⟨ps, h3, h⟩ := Option.bind_eq_some_iff.mp h
  obtain ⟨qs, h4, h⟩ := Option.bind_eq_some_iff.mp h
  by_cases c : ps.length + qs.length ≤ lim
  · rw [if_pos c] at h
    cases h
    have e3 := pusOf_eq h3
    have e4 := pusOf_eq h4
    subst e3 e4
    obtain ⟨a, vs, rfl, ha, pa⟩ := lst_rd r0 rx h1
    obtain ⟨b, ws, rfl, hb, pb⟩ := lst_rd r0 ry h2
    have la := Paired.length pa
    have lb := Paired.length pb
    rw [List.length_map] at la lb
    exact ⟨a, b, vs, ws, rfl, rfl, ha, hb, by rw [← lim_eq]; omega, fun p np => nw_fin r0 np (RepL.append (rd_reps pa) (rd_reps pb)) q⟩
  · rw [if_neg c] at h
    cases h
/-- a list's slice, new -/
def gSlN (d : D) (lo hi : Option Int) (S : Sto) : Option (D × Sto) := (lstD d S).bind fun q => (pusOf (cutL q lo hi)).bind fun ps => some (.nw (.lst ps), S)
def xSlN (a : Ex) (lo hi : Ox) : Ex := fun e S => (a e S).bind fun r => (lo e r.2).bind fun l => (hi e l.2).bind fun h => gSlN r.1 l.1 h.1 h.2
theorem d_sliceN {a : Expr} {xa : Ex} {lo hi : Option Expr} {xl xh : Ox} {pos p2 : Pos} (hK : X.K = G.K) (ha : DE X G a xa) (hl : PO X lo (tOx G xl)) (hh : PO X hi (tOx G xh)) : DE X G (.Subscript a (.Slice lo hi none p2) pos) (xSlN xa xl xh) := by
  refine pe_mono (pe_gh (pe_slice sl_list ha hl hh)) fun σ H Q hw => ?_
  obtain ⟨e, S, f, r0, d, S', hx, q⟩ := hw
  obtain ⟨⟨d1, S1⟩, h1, hx⟩ := Option.bind_eq_some_iff.mp hx
  obtain ⟨⟨o2, S2⟩, h2, hx⟩ := Option.bind_eq_some_iff.mp hx
  obtain ⟨⟨o3, S3⟩, h3, hx⟩ := Option.bind_eq_some_iff.mp hx
  refine ⟨e, S, f, r0, d1, S1, h1, fun v1 H1 f1 r1 n1 p1 => ⟨e, S1, f1, r1, o2, S2, h2, fun H2 f2 r2 n2 => ⟨e, S2, f2, r2, o3, S3, h3, fun H3 f3 r3 n3 => ?_⟩⟩⟩
  obtain ⟨is, h4, hx⟩ := Option.bind_eq_some_iff.mp (show (lstD d1 S3).bind _ = _ from hx)
  obtain ⟨ps, h5, hx⟩ := Option.bind_eq_some_iff.mp hx
  cases hx
  obtain ⟨a, us, rfl, hr, hp⟩ := lst_rd r3 (p1.nx (n2.trans n3)) h4
  have e5 := pusOf_eq h5
  have hc := cut_paired hp o2 o3
  rw [e5] at hc
  have nn := (n1.trans n2).trans n3
  refine ⟨a, us, rfl, .inl hr, fun p np => nw_fin r3 np (rd_reps hc) fun v H' f' r' n' p' => q v H' f' r' (nn.trans n') p'⟩
/-- a comprehension's list, new -/
def xLcN (it : Ix) (g : Gt) (t : Tx) (x : Ex) (vs : List Nat) : Ex := fun e S => (it e S).bind fun r => (compD g t x (wipeE e vs) r.1 r.2 []).bind fun q => some (.nw (.lst q.1), q.2)
theorem d_lcN {elt tg iter : Expr} {ifs : List Expr} {scope : Scope} {own : List (Str × Nat)} {pos : Pos} {it : Ix} {g : Gt} {t : Tx} {x : Ex} (kg : KeepS g) (hc : X.calm = true) (hN : X.N.Nodup) (hi : DI X G tg iter it) (ok : BlkOk X.N X.env.scope scope own)
    (hg : ∀ (s : Shared) (H : Hp) (C : Addr) (cl : List (Str × Addr)) (fp : List Addr), DN (X.blk s H scope (compEnvC scope cl C X.env) fp) G (fun i => (own.map (·.2)).contains i) tg g) (ht : ∀ (s : Shared) (H : Hp) (C : Addr) (cl : List (Str × Addr)) (fp : List Addr), DTs (X.blk s H scope (compEnvC scope cl C X.env) fp) G ifs t)
    (he : ∀ (s : Shared) (H : Hp) (C : Addr) (cl : List (Str × Addr)) (fp : List Addr), DE (X.blk s H scope (compEnvC scope cl C X.env) fp) G elt x) (hs : ∀ x, foldedSetIterable iter X.env x = pure x := by intro _; rfl) :
    DE X G (.ListComp elt [⟨tg, iter, ifs, 0⟩] scope pos) (xLcN it g t x (own.map (·.2))) := by
  refine pe_mono (pe_lc hc hN hi ok hg ht he hs) fun σ H Q hw => ?_
  obtain ⟨e, S, f, r, d, S', hx, q⟩ := hw
  obtain ⟨⟨ds, S1⟩, h1, hx⟩ := Option.bind_eq_some_iff.mp hx
  obtain ⟨⟨ps, S2⟩, h2, hx⟩ := Option.bind_eq_some_iff.mp hx
  cases hx
  refine ⟨e, S, f, r, ds, S1, h1, fun J H1 f1 r1 n1 wk Dl nD => ?_⟩
  refine comp_ok kg r1 wk h2 nD (fun H => Q (.ref Dl) H) fun H2 f2 us hD ra nx2 c2 nd2 => ?_
  refine q _ H2 f2 (r1.nx nx2 c2) (n1.trans nx2) ⟨Dl, rfl, ⟨us, hD, ra⟩, r1.free0 nD, nd2, fun j c' hj z => ?_⟩
  obtain ⟨b, q1, q2, _⟩ := r1.own j c' hj
  rw [z] at q1
  cases q1
  obtain ⟨u, hu, _⟩ := q2.raw
  rw [nD] at hu
  cases hu

def gTupleA : List D → Sto → Option (D × Sto) := fun ds S => match ds with
    | [.wr _] => none
    | ds => gTuple ds S
theorem v_tupleA (hK : X.K = G.K) : VA G (fun xs H Q => ∃ p ys, xs = [.ref p] ∧ ((SqL X.K H p ys ∧ ∀ l, H l = none → Q (.ref l) (upd H l (.tup ys))) ∨ (SqT X.K H p ys ∧ Q (.ref p) H))) gTupleA := v_tuple hK
/-! ### defs that give new things -/
theorem frz_rep {H : Hp} {a : Addr} {u : HO} {od : Obj} {c : OC} (h : OCok H a c) (hu : H a = some u) (mu : Mut (some u)) : Rep (upd H a (.frz od u)) (.ref a) (frzP c) := by
  have x := raw_ext (o' := .frz od u) hu mu
  cases c with
  | lst xs =>
    obtain ⟨vs, q1, q2⟩ := h
    rw [hu] at q1
    cases q1
    exact .lst ⟨od, upd_same⟩ (RepL.ext x q2)
  | dct ps =>
    obtain ⟨qs, q1, q2, q3⟩ := h
    refine .dct (qs := qs) ?_ rfl rfl (RepL.ext x q2) q3
    rcases q1 with ⟨kvs, q1, z⟩ | ⟨kvs, q1, z⟩
    · rw [hu] at q1
      cases q1
      exact .inl ⟨od, kvs, upd_same, z⟩
    · rw [hu] at q1
      cases q1
      exact .inr ⟨od, kvs, upd_same, z⟩
abbrev Rs := P ⊕ OC
def RsOk (H H' : Hp) (v : V) : Rs → Prop
  | .inl p => Rep H' v p
  | .inr c => ∃ a, v = .ref a ∧ H a = none ∧ OCok H' a c
def SpO (n : Nat) (m : List P → Option Rs) : Sp := fun vs H Q _ => vs.length = n ∧ ∃ ps r, RepL H vs ps ∧ m ps = some r ∧ ∀ v H', Same H H' → RsOk H H' v r → Q v H'
/-- what comes is new -/
def gCallO (m : List P → Option Rs) (ds : List D) (S : Sto) : Option (D × Sto) := (pusOf ds).bind fun ps => (m ps).bind fun r => some (match r with | .inl p => .pu p | .inr c => .nw c, S)
/-- what comes is data -/
def gCallZ (m : List P → Option Rs) (ds : List D) (S : Sto) : Option (D × Sto) := (pusOf ds).bind fun ps => (m ps).bind fun r => some (match r with | .inl p => .pu p | .inr c => .pu (frzP c), S)
theorem v_callO {n : Nat} {m : List P → Option Rs} {E : XK} (hl : ∀ ps p, m ps = some p → ps.length = n) : VA G (fun vs H Q => SpO n m (vs ++ []) H Q E) (gCallO m) := by
  intro σ H e S f vs ds d S' Q r0 rs hg q
  obtain ⟨ps, h1, hg⟩ := Option.bind_eq_some_iff.mp hg
  obtain ⟨p, h2, hg⟩ := Option.bind_eq_some_iff.mp hg
  have e1 := pusOf_eq h1
  subst e1
  have rp := re_reps rs
  rw [List.append_nil]
  refine ⟨by rw [rp.length]; exact hl _ _ h2, ps, p, rp, h2, fun v H' s rv => .inl ?_⟩
  cases p with
  | inl p => cases hg; exact q v H' f (r0.same s) (.of s _ _) rv
  | inr c =>
    cases hg
    obtain ⟨a, rfl, ha, hc⟩ := rv
    exact q _ H' f (r0.same s) (.of s _ _) (RE.fresh r0 ha hc)
theorem v_callZ {n : Nat} {m : List P → Option Rs} {E : XK} (hl : ∀ ps p, m ps = some p → ps.length = n) : VA G (fun vs H Q => SpO n m (vs ++ []) H Q E) (gCallZ m) := by
  intro σ H e S f vs ds d S' Q r0 rs hg q
  obtain ⟨ps, h1, hg⟩ := Option.bind_eq_some_iff.mp hg
  obtain ⟨p, h2, hg⟩ := Option.bind_eq_some_iff.mp hg
  have e1 := pusOf_eq h1
  subst e1
  have rp := re_reps rs
  rw [List.append_nil]
  refine ⟨by rw [rp.length]; exact hl _ _ h2, ps, p, rp, h2, fun v H' s rv => ?_⟩
  cases p with
  | inl p => cases hg; exact .inl (q v H' f (r0.same s) (.of s _ _) rv)
  | inr c =>
    cases hg
    obtain ⟨a, rfl, ha, hc⟩ := rv
    obtain ⟨u, hu, mu⟩ := hc.raw
    refine .inr ⟨a, u, rfl, hu, mu, fun od => ?_⟩
    have s' : Same H (upd H' a (.frz od u)) := fun b o z => by rw [upd_ne (ne_of_none z ha)]; exact s b o z
    exact q _ _ f (r0.same s') (.of s' _ _) (frz_rep hc hu mu)
section
variable {k n : Nat} {ps : List Str} {x : Str} {p pos : Pos} {a : Expr} {es : List Expr} {xa : Ax} {m : List P → Option Rs}
theorem d_cO (F : Callee X.prog X.w X.K X.mg X.base k x ps (SpO n m)) (hl : ∀ ps p, m ps = some p → ps.length = n) (hr : Room k X.A)
    (ha : DA X G (a :: es) xa) (hg : Gl X x := by rfl) (hdb : (x == ("__debug__" : Str)) = false := by decide) (he : starEach (a :: es) X.env = (false, eval a X.env) :: starEach es X.env := by rfl) (hpl : (backTo pos (starEach es X.env)).any (·.1) = false := by rfl) : DE X G (.Call (.Name x p) (a :: es) [] pos) (xA (gCallO m) xa) := by
  obtain ⟨g, fd, F, hm, hk, hb⟩ := F
  exact pe_mono (pe_gh (pe_call F hr hg hm hk hb .nil pass0 ha hdb he hpl)) (tE.bA (v_callO hl))
theorem d_cZ (F : Callee X.prog X.w X.K X.mg X.base k x ps (SpO n m)) (hl : ∀ ps p, m ps = some p → ps.length = n) (hr : Room k X.A)
    (ha : DA X G (a :: es) xa) (hg : Gl X x := by rfl) (hdb : (x == ("__debug__" : Str)) = false := by decide) (he : starEach (a :: es) X.env = (false, eval a X.env) :: starEach es X.env := by rfl) (hpl : (backTo pos (starEach es X.env)).any (·.1) = false := by rfl) : DE X G (.Call (.Name x p) (a :: es) [] pos) (xA (gCallZ m) xa) := by
  obtain ⟨g, fd, F, hm, hk, hb⟩ := F
  exact pe_mono (pe_gh (pe_call F hr hg hm hk hb .nil pass0 ha hdb he hpl)) (tE.bA (v_callZ hl))
end
def runO (n l : Nat) (b : Sx) (ps : List P) : Option Rs := if ps.length = n ∧ n ≤ l then (b (env0 l (ps.map .pu)) []).bind fun o => match o with
    | .nx _ _ => some (.inl .none)
    | .rt (.pu p) _ _ => some (.inl p)
    | .rt (.bo _ c) _ _ => some (.inr c)
    | .rt (.nw c) _ _ => some (.inr c)
    | _ => none
  else none
theorem runO_len {n l : Nat} {b : Sx} {ps : List P} {p : Rs} (h : runO n l b ps = some p) : ps.length = n := by
  unfold runO at h
  by_cases c : ps.length = n ∧ n ≤ l
  · exact c.1
  · rw [if_neg c] at h
    cases h
section
variable {Pg : Program} {w : World} {K : PySem.W.Frag} {mg : Str → Option Value} {base : Heap} {x qual : Str} {st : Stmt} {f : Addr} {fd : FuncData} {N ps : List Str} {k n : Nat} {b : Sx}
theorem fnO {cl : Str → Option Addr} (F : Fun K x qual st f fd) (S : FnScope N ps (defScope st)) (hn : ps.length = n) (hb : Body Pg w K mg base qual st f N k cl b) : FnOk Pg w K mg base CX0 (k + 1) f fd ps (SpO n (runO n N.length b)) := by
  refine F.ok S (fun vs H Q E h => h.1.trans hn.symm) fun cdv A outer s H vs Q E hr h => ?_
  obtain ⟨hl, as, rs, hp, hm, q⟩ := h
  refine ⟨_, hb cdv A outer s H E ⟨K, cl, H, 0, fun _ => 0⟩ rfl rfl hr, ?_⟩
  unfold runO at hm
  by_cases c : as.length = n ∧ n ≤ N.length
  · rw [if_pos c] at hm
    obtain ⟨o, h1, h2⟩ := Option.bind_eq_some_iff.mp hm
    have r0 : R ⟨K, cl, H, 0, fun _ => 0⟩ (L2.start N vs) H (env0 N.length (as.map .pu)) [] (fun _ => 0) := R.entry (G := ⟨K, cl, H, 0, fun _ => 0⟩) (by rw [List.length_map]; omega) (reps_rd hp) rfl Cells.nil
    refine ⟨_, [], _, r0, o, h1, ?_⟩
    have sm : ∀ {σ' : L2.St} {H' : Hp} {e : Envi} {S : Sto} {f : Nat → Addr}, R ⟨K, cl, H, 0, fun _ => 0⟩ σ' H' e S f → Same H H' := fun r b o z => r.frm b o z fun n hn => absurd hn (Nat.not_lt_zero _)
    cases o with
    | nx e1 S1 =>
      cases h2
      exact fun σ' H' f' r' x' => q .non H' (sm r') .non
    | rt d1 e1 S1 =>
      cases d1 with
      | pu p => cases h2; exact fun v σ' H' f' r' x' p' => q v H' (sm r') p'
      | bo i c =>
        cases h2
        intro v σ' H' f' r' x' p'
        obtain ⟨z1, z2⟩ := (show σ'[i]? = some (some v) ∧ e1[i]? = some (some (.ow c)) from p')
        obtain ⟨a, z3, z4, z5, _⟩ := r'.own i c z2
        rw [z1] at z3
        cases z3
        exact q _ H' (sm r') ⟨a, rfl, z5, z4⟩
      | nw c =>
        cases h2
        intro v σ' H' f' r' x' p'
        obtain ⟨a, z1, z4, z5, _⟩ := (show ∃ a, v = .ref a ∧ OCok H' a c ∧ H a = none ∧ _ from p')
        exact q _ H' (sm r') ⟨a, z1, z5, z4⟩
      | wr _ => cases h2
      | rf _ => cases h2
    | bk _ _ => cases h2
    | ct _ _ => cases h2
  · rw [if_neg c] at hm
    cases hm
end
/-! ### a name's own thing lent -/
def scal : P → Bool
  | .none => true
  | .bool _ => true
  | .int _ => true
  | .str _ => true
  | _ => false
def flatD : D → Bool
  | .pu p => scal p
  | .wr _ => true
  | .rf _ => true
  | _ => false
def flatM : MC → Bool
  | .lst ds => ds.all flatD
  | .dct ps => ps.all fun q => flatD q.2
  | .obj _ fs => fs.all fun q => flatD q.2
  | .fz _ => false
def flatS (S : Sto) : Bool := S.all flatM
theorem scal_rep {H H' : Hp} {v : V} : ∀ {p : P}, scal p = true → Rep H v p → Rep H' v p
  | .none, _, h => by cases h; exact .non
  | .bool b, _, h => by cases h; exact .bl b
  | .int i, _, h => by cases h; exact .int i
  | .str x, _, h => by cases h; exact .str x
  | .list _, z, _ => by cases z
  | .tuple _, z, _ => by cases z
  | .dict _, z, _ => by cases z
theorem flat_rd {K : PySem.W.Frag} {H H' : Hp} {L : Nat} {v : V} : ∀ {d : D}, flatD d = true → RD K H f L v d → RD K H' f L v d
  | .pu _, z, h => scal_rep z h
  | .wr _, _, h => h
  | .rf _, _, h => h
  | .bo _ _, _, h => h
  | .nw _, _, h => h
theorem flat_mc {H H' : Hp} {L : Nat} {a : Addr} (k : H' a = H a) : ∀ {c : MC}, flatM c = true → MCok G H f L a c → MCok G H' f L a c
  | .lst ds, z, ⟨vs, h, r⟩ => ⟨vs, by rw [k]; exact h, flat_pr (List.all_eq_true.mp z) r⟩
  | .dct ps, z, ⟨qs, h, r, e⟩ => ⟨qs, by
      rcases h with ⟨kvs, h, y⟩ | ⟨kvs, h, y⟩
      · exact .inl ⟨kvs, by rw [k]; exact h, y⟩
      · exact .inr ⟨kvs, by rw [k]; exact h, y⟩, flat_pr (fun d hd => by
      obtain ⟨q, h1, h2⟩ := List.mem_map.mp hd
      rw [← h2]
      exact List.all_eq_true.mp z q h1) r, e⟩
  | .obj _ fs, z, ⟨C, dx, us, c, h, r, e⟩ => ⟨C, dx, us, c, by rw [k]; exact h, flat_pr (fun d hd => by
      obtain ⟨q, h1, h2⟩ := List.mem_map.mp hd
      rw [← h2]
      exact List.all_eq_true.mp z q h1) r, e⟩
where flat_pr {H H' : Hp} {L : Nat} : ∀ {vs : List V} {ds : List D}, (∀ d ∈ ds, flatD d = true) → Paired (RD G.K H f L) vs ds → Paired (RD G.K H' f L) vs ds
  | _, _, _, .nil => .nil
  | _, _, z, .cons h t => .cons (flat_rd (z _ List.mem_cons_self) h) (flat_pr (fun d hd => z d (List.mem_cons_of_mem _ hd)) t)
open Classical in
noncomputable def xTf (i : Nat) (x : Ex) : Ex := fun e S => match e[i]? with
  | some (some (.ow c)) => (x (e.set i (some (.val (.pu (frzP c))))) S).bind fun r => match r.1 with
    | .pu p => if (scal p && flatS S) = true ∧ r.2 = S then some r else none
    | _ => none
  | _ => x e S
theorem d_tf (i : Nat) {a : Expr} {x : Ex} (h : DE X G a x) : DE X G a (xTf i x) := by
  refine ⟨fun pins s σ H Q I hw => ?_⟩
  obtain ⟨e, S, f, r, d, S', hx, q⟩ := hw
  unfold xTf at hx
  split at hx
  · rename_i c he
    obtain ⟨⟨d1, S1⟩, h1, hx⟩ := Option.bind_eq_some_iff.mp hx
    cases d1 with
    | pu p =>
      dsimp only at hx
      split at hx
      · rename_i cc
        cases hx
        obtain ⟨c1, c2⟩ := cc
        have c2 : S' = S := c2
        subst c2
        rw [Bool.and_eq_true] at c1
        obtain ⟨b, hσ, hoc, h0, hnc⟩ := r.own i c he
        obtain ⟨u, hu, mu⟩ := hoc.raw
        obtain ⟨od, I2⟩ := I.lock hu mu
        obtain ⟨r2, x2⟩ := r.freeze he hσ hu (od := od)
        refine thn (h.run pins s σ _ (fun v H2 => H2 b = some (.frz od u) ∧ Q v (upd H2 b u)) I2 ⟨_, S', f, r2, _, _, h1, fun v H2 f2 r3 n3 p3 => ⟨n3.ext.frzs b od u upd_same, ?_⟩⟩) fun w s2 hh => by
          obtain ⟨v, H2, I3, rv, hb, qq⟩ := hh
          exact ⟨v, _, I3.unlock hb (I.nofrz hu mu), rv, qq⟩
        have raw : ∀ c' o', H c' = some o' → c' ≠ b → (upd H b (.frz od u)) c' = some o' := fun c' o' z nb => by rw [upd_ne nb]; exact z
        have nx : Nx H (upd H2 b u) f f2 S'.length S'.length := by
          refine ⟨⟨fun c' xs z => ?_, fun c' o' w' z => ?_⟩, n3.ag, Nat.le_refl _, fun c' o' z nz => ?_, fun n l1 l2 => absurd l2 (Nat.not_lt.mpr l1), fun c' o' z => ?_⟩
          · have nb : c' ≠ b := fun y => by rw [y, hu] at z; cases z; exact mu
            rw [upd_ne nb]
            exact n3.ext.tups c' xs (raw c' _ z nb)
          · have nb : c' ≠ b := fun y => by rw [y, hu] at z; cases z; exact mu
            rw [upd_ne nb]
            exact n3.ext.frzs c' o' w' (raw c' _ z nb)
          · by_cases nb : c' = b
            · subst nb
              rw [upd_same, ← hu, z]
            · rw [upd_ne nb]
              exact n3.oth c' o' (raw c' o' z nb) nz
          · by_cases nb : c' = b
            · subst nb
              exact ⟨_, upd_same⟩
            · rw [upd_ne nb]
              exact n3.th c' o' (raw c' o' z nb)
        have fb : ∀ n, n < S'.length → f2 n ≠ b := fun n hn z => hnc n hn ((n3.ag n hn).symm.trans z)
        have cc : Cells G (upd H2 b u) f2 S' := ⟨fun n k hk => flat_mc (by rw [upd_ne (fb n (List.getElem?_eq_some_iff.mp hk).1)]) (List.all_eq_true.mp c1.2 k (List.mem_of_getElem? hk)) (r3.cel n k hk), r3.inj⟩
        exact q v _ f2 (r.nx nx cc) nx (scal_rep c1.1 p3)
      · cases hx
    | _ => cases hx
  · exact h.run pins s σ H Q I ⟨e, S, f, r, d, S', hx, q⟩
end
end DL
/-! DLF: t.index(x). -/
namespace DL
open PySem PySem.Spec PyProof.Rows L2
theorem hu65 {k : Nat} {A : Around} (r : Room k A) : A.units + 65 < cLine := by have := r.un; omega
section
variable {X : Cx} {G : Gx}
def rTIx (K : PySem.W.Frag) : V → List V → Hp → VK → Prop := fun x xs H Q => ∃ (a : Addr) (y : V) (d : P) (ds : List P) (j : Nat) (z : P), x = V.ref a ∧ xs = [y] ∧ Dp K H (V.ref a) (.tuple ds) ∧ Dp K H y d ∧
  SeqAt.shaped (.tuple ds) = true ∧ SeqAt.shaped d = true ∧ ds[j]? = some z ∧ PyData.eqv z d = true ∧ (∀ (m : Nat) (z' : P), m < j → ds[m]? = some z' → PyData.eqv z' d = false) ∧ Q (.int (j : Nat)) H
theorem mt_tix (hu : X.A.units + 65 < cLine) : MtR X "tuple.index" (rTIx X.K) := by
  intro pins s σ H x xs v us Q I rx rxs h
  obtain ⟨a, y, d, ds, j, z, rfl, rfl, hl, hy, sl, sd, hz, hzj, hno, q⟩ := h
  cases rx
  cases rxs with
  | cons ry rt =>
    rename_i uy ut
    cases rt
    obtain ⟨bs, r1⟩ := Dp.reads I d y uy hy ry
    have hxs : PyData.canLayAll0 ds = true := SeqAt.canLay_of_shaped sl
    have hroom : X.A.units + 1 + min (PyData.depthAll ds) d.depth < cLine := room_in_shaped sd hu
    cases hl with
    | tup hs ha =>
      obtain ⟨its, rv, ⟨⟨cls, dd, data, sls⟩, ho, hc, n, hdt⟩, hlen⟩ := I.tuple hs
      simp only at hc hdt
      subst hc hdt
      obtain ⟨as, h4⟩ := Dp.readsAll I ds _ its ha rv
      have hn : its.length = ds.length := SeqAt.ReadsAll.length ds its as h4
      have hmap : its.map (SeqAt.readOf s.heap) = ds := SeqAt.readsAll_map ds its as hxs h4
      have hvl := rv.length
      have hsl := sizeLine_eq
      obtain ⟨hjd, _⟩ := List.getElem?_eq_some_iff.mp hz
      have hj : j < its.toArray.size := by rw [List.size_toArray]; omega
      have at_ : ∀ (m : Nat) (hm : m < its.toArray.size) (z' : P), ds[m]? = some z' → SeqAt.readOf s.heap its.toArray[m] = z' := fun m hm z' hz' => by
        have hml : m < its.length := by simpa using hm
        rw [← hmap, List.getElem?_map, List.getElem?_eq_getElem hml] at hz'
        simpa using Option.some.inj hz'
      have p1 : PyData.eqv (SeqAt.readOf s.heap its.toArray[j]) d = true := by rw [at_ j hj z hz]; exact hzj
      have p2 : ∀ (m : Nat) (hm : m < its.toArray.size), m < j → PyData.eqv (SeqAt.readOf s.heap its.toArray[m]) d = false := fun m hm hmj => by
        have hmd : m < ds.length := by omega
        rw [at_ m hm _ (List.getElem?_eq_getElem hmd)]
        exact hno m _ hmj (List.getElem?_eq_getElem hmd)
      have p3 := SeqAt.items_eqAt (vs := its.toArray) (show ReadsAll s.heap its.toArray.toList ds as from h4) r1 hxs (SeqAt.canLay_of_shaped sd) hroom
      exact call_meets PySem.F.slot_tuple_index ⟨_, ho, rfl⟩ PySem.F.entry_tuple_index (PySem.F.args_tuple_index_2 _ _) (TI.tuple_indexAt a its.toArray n dd sls uy (fun u => PyData.eqv (SeqAt.readOf s.heap u) d) j hj p1 p2) ⟨ho, p3, ⟨.int (j : Nat), H, I.tok _, ⟨_, rfl⟩, q⟩⟩
def gTIx (a b : D) (S : Sto) : Option (D × Sto) := match a with
  | .wr (.tuple ds) => (datD b).bind fun d => if (shp 9 (.tuple ds) && shp 9 d) = true then (ds.findIdx? fun z => PyData.eqv z d).map fun j => (.pu (.int (j : Nat)), S) else none
  | _ => none
theorem gTIx_of {a b d : D} {S S' : Sto} (h : gTIx a b S = some (d, S')) : ∃ ds x j, a = .wr (.tuple ds) ∧ datD b = some x ∧ shp 9 (.tuple ds) = true ∧ shp 9 x = true ∧ (ds.findIdx? fun z => PyData.eqv z x) = some j ∧ d = .pu (.int (j : Nat)) ∧ S' = S := by
  have go : ∀ ds, ((datD b).bind fun d => if (shp 9 (.tuple ds) && shp 9 d) = true then (ds.findIdx? fun z => PyData.eqv z d).map fun j => (D.pu (.int (j : Nat)), S) else none) = some (d, S') → ∃ x j, datD b = some x ∧ shp 9 (.tuple ds) = true ∧ shp 9 x = true ∧ (ds.findIdx? fun z => PyData.eqv z x) = some j ∧ d = .pu (.int (j : Nat)) ∧ S' = S := fun ds h => by
    obtain ⟨x, h1, h⟩ := Option.bind_eq_some_iff.mp h
    by_cases c : (shp 9 (.tuple ds) && shp 9 x) = true
    · rw [if_pos c] at h
      obtain ⟨j, h2, h3⟩ := Option.map_eq_some_iff.mp h
      cases h3
      rw [Bool.and_eq_true] at c
      exact ⟨x, j, h1, c.1, c.2, h2, rfl, rfl⟩
    · rw [if_neg c] at h
      cases h
  unfold gTIx at h
  split at h
  · obtain ⟨x, j, h⟩ := go _ h
    exact ⟨_, x, j, rfl, h⟩
  · cases h
theorem d_tix {o a : Expr} {xo xa : Ex} {apos cpos : Pos} (hK : X.K = G.K) (hu : X.A.units + 65 < cLine) (ho : DE X G o xo) (ha : DE X G a xa)
    (hbase : attributeBase o "index" X.env (eval o X.env) = eval o X.env := by rfl)
    (hfew : ((backTo cpos (starEach [a] X.env)).all (fun x => !x.1) && (backToKw cpos (keywordEach [] X.env)).all (fun x => x.1.isSome) && decide (([a] : List Expr).length + ([] : List Keyword).length + (if ([] : List Keyword).isEmpty then 0 else 1) < 30)) = true := by rfl)
    (hline : (apos.endLine == cpos.line) = true := by rfl) (hs : starEach [a] X.env = (false, eval a X.env) :: starEach [] X.env := by rfl) (hplain : (backTo cpos (starEach [] X.env)).any (·.1) = false := by rfl) :
    DE X G (.Call (.Attribute o "index" apos) [a] [] cpos) (x2 gTIx xo xa) :=
  pe_mono (pe_bm PySem.F.plainAttrs_tuple PySem.F.slot_tuple_index PySem.F.type_tuple_index (mt_tix hu) ho (pa_cons ha pa_nil hs) hbase hfew hline hs hplain) fun σ H Q hw => by
    obtain ⟨e, S, f, r, d, S', hx, q⟩ := hw
    obtain ⟨⟨d0, S0⟩, h0, hx⟩ := Option.bind_eq_some_iff.mp hx
    obtain ⟨⟨d1, S1⟩, h1, hx⟩ := Option.bind_eq_some_iff.mp hx
    obtain ⟨ds, x, j, hd0, hx1, s1, s2, hj, rfl, rfl⟩ := gTIx_of hx
    refine ⟨e, S, f, r, d0, S0, h0, fun v0 H0 f0 r0 n0 p0 => ?_⟩
    have td : ∀ {H' : Hp} {f' : Nat → Addr} {L : Nat}, RE G σ H' e f' L v0 d0 → ∃ b, ∃ _ : Nat, v0 = .ref b ∧ (∃ o, X.K.lookup b = some o ∧ o.cls = .type "tuple" ∧ o.dict = none) ∧ Dp X.K H' v0 (.tuple ds) := fun {H' f' L} p => by
      rw [hK]
      subst hd0
      have p : RepW G.K v0 (.tuple ds) := p
      cases p with
      | tup k1 k2 k0 k3 k4 k5 k6 => exact ⟨_, 0, rfl, ⟨_, k1, k2, k0⟩, .tup (.inr ⟨_, _, _, k1, k2, k3, k4, k5⟩) (RepWL.dp k6)⟩
    refine ⟨?_, e, S0, f0, r0, d1, _, h1, fun v1 H1 f1 r1 n1 p1 => ?_⟩
    · obtain ⟨b, xs, e1, e2, _⟩ := td p0
      subst e1
      exact .inr (.inl ⟨rfl, e2⟩)
    · obtain ⟨b, xs, e1, e2, e3⟩ := td (p0.nx n1)
      subst e1
      have dx : Dp X.K H1 v1 x := by
        rw [hK]
        refine dat_dp r1 p1 (p := x) ?_ (shp_ok 9 _ s2).1
        cases d1 <;> first | exact hx1 | cases hx1
      obtain ⟨hlt, hp, hn⟩ := List.findIdx?_eq_some_iff_getElem.mp hj
      refine ⟨b, v1, x, ds, j, ds[j], rfl, rfl, e3, dx, shp_shaped s1, shp_shaped s2, List.getElem?_eq_getElem hlt, hp, fun m z' hm hz => ?_, q _ H1 f1 r1 (n0.trans n1) (.int _)⟩
      have hm' : m < ds.length := by omega
      rw [List.getElem?_eq_getElem hm'] at hz
      cases hz
      exact Bool.eq_false_iff.mpr (by simpa using hn m hm)
end
end DL
/-! DLG: extend, max and min of three, xs[::-1], chains of three. -/
namespace DL
open PySem PySem.Spec PyProof.Rows L2
section
variable {X : Cx} {G : Gx} {σ : L2.St} {H : Hp} {e : Envi} {S : Sto} {f : Nat → Addr}
/-- a list that stands as it lies: its items -/
def rawD : D → Sto → Option (List D)
  | .nw (.lst xs), _ => some (xs.map .pu)
  | .bo _ (.lst xs), _ => some (xs.map .pu)
  | _, _ => none
theorem raw_rd (r : R G σ H e S f) {v : V} {d : D} {ds : List D} (h : RE G σ H e f S.length v d) (hs : rawD d S = some ds) : ∃ a vs, v = .ref a ∧ H a = some (.lst vs) ∧ Paired (RD G.K H f S.length) vs ds := by
  unfold rawD at hs
  split at hs
  · cases hs
    obtain ⟨a, e1, ⟨vs, h1, h2⟩, _⟩ := (show ∃ a, v = .ref a ∧ OCok H a (.lst _) ∧ _ from h)
    exact ⟨a, vs, e1, h1, reps_rd h2⟩
  · cases hs
    rename_i i xs
    obtain ⟨h1, h2⟩ := (show σ[i]? = some (some v) ∧ e[i]? = some (some (.ow (.lst xs))) from h)
    obtain ⟨a, h3, ⟨vs, h4, h5⟩, _⟩ := r.own i _ h2
    rw [h1] at h3
    cases h3
    exact ⟨a, vs, rfl, h4, reps_rd h5⟩
  · cases hs
def sExt (a x : Ex) : Sx := fun e S => (a e S).bind fun r => (lstD r.1 r.2).bind fun _ => (x e r.2).bind fun q => (rawD q.1 q.2).bind fun ys => (putL r.1 (fun ds => some (ds ++ ys)) e q.2).bind fun w => some (.nx w.1 w.2)
theorem ds_ext {o a : Expr} {xo xa : Ex} {apos cpos pos : Pos} (ho : DE X G o xo) (ha : DE X G a xa)
    (hbase : attributeBase o "extend" X.env (eval o X.env) = eval o X.env := by rfl)
    (hfew : ((backTo cpos (starEach [a] X.env)).all (fun x => !x.1) && (backToKw cpos (keywordEach [] X.env)).all (fun x => x.1.isSome) && decide (([a] : List Expr).length + ([] : List Keyword).length + (if ([] : List Keyword).isEmpty then 0 else 1) < 30)) = true := by rfl)
    (hline : (apos.endLine == cpos.line) = true := by rfl) (hs : starEach [a] X.env = (false, eval a X.env) :: starEach [] X.env := by rfl) (hplain : (backTo cpos (starEach [] X.env)).any (·.1) = false := by rfl) (hsw : swapsWith (.Call (.Attribute o "extend" apos) [a] [] cpos) none pos.line X.env = pure false := by rfl) :
    DS X G (.Expr (.Call (.Attribute o "extend" apos) [a] [] cpos) pos) (sExt xo xa) :=
  ps_mono (ps_expr (pe_bm PySem.F.plainAttrs_list PySem.F.slot_list_extend PySem.F.type_list_extend mt_extend ho (pa_cons ha pa_nil hs) hbase hfew hline hs hplain) hsw) fun T σ H hw => by
    obtain ⟨e, S, f, r, o, hx, q⟩ := hw
    obtain ⟨⟨d0, S0⟩, h0, hx⟩ := Option.bind_eq_some_iff.mp hx
    obtain ⟨l0, hl0, hx⟩ := Option.bind_eq_some_iff.mp hx
    obtain ⟨⟨d1, S1⟩, h1, hx⟩ := Option.bind_eq_some_iff.mp hx
    obtain ⟨ys, hy, hx⟩ := Option.bind_eq_some_iff.mp hx
    obtain ⟨⟨e2, S2⟩, h2, hx⟩ := Option.bind_eq_some_iff.mp hx
    cases hx
    refine ⟨e, S, f, r, d0, S0, h0, fun v0 H0 f0 r0 n0 p0 => ?_⟩
    refine ⟨?_, e, S0, f0, r0, d1, S1, h1, fun v1 H1 f1 r1 n1 p1 => ?_⟩
    · obtain ⟨a, xs, e1, e2, _⟩ := lst_rd r0 p0 hl0
      subst e1
      exact .inl ⟨rfl, xs, .inl e2⟩
    · obtain ⟨a, vs, ds, ds', e1, hv, hp, hg, hz, k⟩ := putL_ok r1 (p0.nx n1) h2
      cases hg
      obtain ⟨b, ws, e3, hb, hpb⟩ := raw_rd r1 p1 hy
      obtain ⟨r2, x2⟩ := k (vs ++ ws) (Paired.app hp hpb)
      rw [List.length_append, ← Paired.length hp, ← Paired.length hpb] at hz
      rw [e3]
      exact ⟨a, b, vs, ws, e1, rfl, hv, hb, hz, q _ _ f1 r2 ((n0.trans n1).ext.trans x2)⟩
/-! ### three -/
def a3 (p : P → P → P → Option P) : List D → Sto → Option (D × Sto)
  | [.pu a, .pu b, .pu c], S => (p a b c).bind fun z => some (.pu z, S)
  | _, _ => none
def mx (i j : Int) : Int := if i < j then j else i
def mn (i j : Int) : Int := if j < i then j else i
def pMax3 : P → P → P → Option P
  | .int i, .int j, .int k => some (.int (mx (mx i j) k))
  | _, _, _ => none
def pMin3 : P → P → P → Option P
  | .int i, .int j, .int k => some (.int (mn (mn i j) k))
  | _, _, _ => none
theorem v_3 {nf : V → V → V → Option V} {p : P → P → P → Option P} (h : ∀ a b c z, p a b c = some z → ∃ i j k m, a = .int i ∧ b = .int j ∧ c = .int k ∧ z = .int m ∧ nf (.int i) (.int j) (.int k) = some (.int m)) : VA G (rNuC3 nf) (a3 p) := by
  intro σ H e S f vs ds d S' Q r0 rs hg q
  match ds, rs with
  | [.pu a, .pu b, .pu c], .cons (a := x) rx (.cons (a := y) ry (.cons (a := z) rz .nil)) =>
    obtain ⟨w, h1, hg⟩ := Option.bind_eq_some_iff.mp (show (p a b c).bind _ = _ from hg)
    cases hg
    obtain ⟨i, j, k, m, rfl, rfl, rfl, rfl, h2⟩ := h a b c w h1
    cases (show Rep H x (.int i) from rx)
    cases (show Rep H y (.int j) from ry)
    cases (show Rep H z (.int k) from rz)
    exact ⟨_, _, _, _, rfl, h2, .inl (q _ H f r0 (.refl _ _ _) (.int _))⟩
theorem nu2 (i j : Int) : nuMax2 (.int i) (.int j) = some (.int (mx i j)) ∧ nuMin2 (.int i) (.int j) = some (.int (mn i j)) := by
  have e : ∀ i j : Int, nuLt (.int i) (.int j) = some (decide (i < j)) := fun _ _ => rfl
  unfold nuMax2 nuMin2 mx mn
  rw [e, e]
  constructor
  · by_cases h : i < j
    · rw [decide_eq_true h, if_pos h]; rfl
    · rw [decide_eq_false h, if_neg h]; rfl
  · by_cases h : j < i
    · rw [decide_eq_true h, if_pos h]; rfl
    · rw [decide_eq_false h, if_neg h]; rfl
theorem v_max3 : VA G (rNuC3 nuMax3) (a3 pMax3) := v_3 fun a b c z h => by
  unfold pMax3 at h
  split at h
  · cases h
    refine ⟨_, _, _, _, rfl, rfl, rfl, rfl, ?_⟩
    unfold nuMax3
    rw [(nu2 _ _).1]
    exact (nu2 _ _).1
  · cases h
theorem v_min3 : VA G (rNuC3 nuMin3) (a3 pMin3) := v_3 fun a b c z h => by
  unfold pMin3 at h
  split at h
  · cases h
    refine ⟨_, _, _, _, rfl, rfl, rfl, rfl, ?_⟩
    unfold nuMin3
    rw [(nu2 _ _).2]
    exact (nu2 _ _).2
  · cases h
/-! ### backward -/
theorem rep_rev : ∀ {vs : List V} {ps : List P}, RepL H vs ps → RepL H vs.reverse ps.reverse
  | _, _, .nil => .nil
  | _, _, .cons h t => by
    rw [List.reverse_cons, List.reverse_cons]
    exact RepL.append (rep_rev t) (.cons h .nil)
def gRev (d : D) (S : Sto) : Option (D × Sto) := (seqD d S).bind fun q => if q.1 then none else (pusOf q.2).bind fun ps => some (.pu (.list ps.reverse), S)
def gRevN (d : D) (S : Sto) : Option (D × Sto) := (seqD d S).bind fun q => if q.1 then none else (pusOf q.2).bind fun ps => some (.nw (.lst ps.reverse), S)
theorem d_rev {a : Expr} {xa : Ex} {k : Nat} {p1 p2 p3 pos : Pos} (hK : X.K = G.K) (ha : DE X G a xa) : DE X G (.Subscript a (.Slice none none (some (.UnaryOp .USub (.Constant (.int 1) k p1) p2)) p3) pos) (x1 gRev xa) :=
  pe_mono (pe_gh (pe_revL ha)) fun σ H Q hw => by
    obtain ⟨e, S, f, r, d, S', hx, q⟩ := hw
    obtain ⟨⟨d1, S1⟩, h1, hx⟩ := Option.bind_eq_some_iff.mp hx
    obtain ⟨⟨b, is⟩, h2, hx⟩ := Option.bind_eq_some_iff.mp (show (seqD d1 S1).bind _ = _ from hx)
    cases b with
    | true => cases hx
    | false =>
      obtain ⟨ps, h3, hx⟩ := Option.bind_eq_some_iff.mp (show (pusOf is).bind _ = _ from hx)
      cases hx
      have e3 := pusOf_eq h3
      subst e3
      refine ⟨e, S, f, r, d1, _, h1, fun v H1 f1 r1 n1 p1 => ?_⟩
      obtain ⟨a, us, rfl, _, hl, hp⟩ := seq_ok r1 p1 h2
      rw [hK]
      exact ⟨a, us, rfl, hl rfl, fun p np => lst_fin np (rep_rev (rd_reps hp)) fun v H' s rv => q v H' f1 (r1.same s) (n1.trans (.of s _ _)) rv⟩
theorem d_revN {a : Expr} {xa : Ex} {k : Nat} {p1 p2 p3 pos : Pos} (hK : X.K = G.K) (ha : DE X G a xa) : DE X G (.Subscript a (.Slice none none (some (.UnaryOp .USub (.Constant (.int 1) k p1) p2)) p3) pos) (x1 gRevN xa) :=
  pe_mono (pe_gh (pe_revL ha)) fun σ H Q hw => by
    obtain ⟨e, S, f, r, d, S', hx, q⟩ := hw
    obtain ⟨⟨d1, S1⟩, h1, hx⟩ := Option.bind_eq_some_iff.mp hx
    obtain ⟨⟨b, is⟩, h2, hx⟩ := Option.bind_eq_some_iff.mp (show (seqD d1 S1).bind _ = _ from hx)
    cases b with
    | true => cases hx
    | false =>
      obtain ⟨ps, h3, hx⟩ := Option.bind_eq_some_iff.mp (show (pusOf is).bind _ = _ from hx)
      cases hx
      have e3 := pusOf_eq h3
      subst e3
      refine ⟨e, S, f, r, d1, _, h1, fun v H1 f1 r1 n1 p1 => ?_⟩
      obtain ⟨a, us, rfl, _, hl, hp⟩ := seq_ok r1 p1 h2
      rw [hK]
      exact ⟨a, us, rfl, hl rfl, fun p np => nw_fin r1 np (rep_rev (rd_reps hp)) fun v H' f' r' n' p' => q v H' f' r' (n1.trans n') p'⟩
/-! ### a op b op c op d -/
def tChain3 (r r' r'' : R2) (ta tb tc td : TE) : TE := fun σ H Q => ta σ H fun x H1 => tb σ H1 fun y H2 => r x y H2 fun z H3 => ∃ k, z = .bl k ∧
  (if k = true then tc σ H3 fun w H4 => r' y w H4 fun z H5 => ∃ k, z = .bl k ∧ (if k = true then td σ H5 fun u H6 => r'' w u H6 Q else Q (.bl false) H5) else Q (.bl false) H3)
theorem pe_chain3 {a b c d : Expr} {ta tb tc td : TE} {pos : Pos} {op op' op'' : CmpOp} {r r' r'' : R2} (ho : OpR X (compareOp op) r) (ho' : OpR X (compareOp op') r') (ho'' : OpR X (compareOp op'') r'') (ha : PE X a ta) (hb : PE X b tb) (hc : PE X c tc) (hd : PE X d td)
    (hm : lastMarks [op, op', op''] [b, c, d] = false := by with_unfolding_all rfl) : PE X (.Compare a [op, op', op''] [b, c, d] pos) (tChain3 r r' r'' ta tb tc td) := by
  refine ⟨fun pins s σ H Q I h => ?_⟩
  refine Compare_chain (thn (ha.run pins s σ H _ I h) fun v s1 ⟨x, H1, I1, r1, q1⟩ => chain_link (thn (hb.run pins s1 σ H1 _ I1 q1) fun u s2 ⟨y, H2, I2, r2, q2⟩ => thn (ho pins s2 σ H2 x y v u _ I2 r1 r2 q2) fun d s3 ⟨z, H3, I3, r3, k, e, q3⟩ => ?_)) hm
  subst e
  cases r3
  refine wpAny_truthy_bool ?_
  cases k with
  | false => exact ite_ff ⟨.bl false, H3, I3, rfl, q3⟩
  | true =>
    refine ite_tt (chain_link (thn (hc.run pins s3 σ H3 _ I3 q3) fun w' s4 ⟨z', H4, I4, r4, q4⟩ => thn (ho' pins s4 σ H4 y z' u w' _ I4 r2 r4 q4) fun d5 s5 ⟨z5, H5, I5, r5, k5, e5, q5⟩ => ?_))
    subst e5
    cases r5
    refine wpAny_truthy_bool ?_
    cases k5 with
    | false => exact ite_ff ⟨.bl false, H5, I5, rfl, q5⟩
    | true => exact ite_tt (chain_last (thn (hd.run pins s5 σ H5 _ I5 q5) fun w6 s6 ⟨z6, H6, I6, r6, q6⟩ => ho'' pins s6 σ H6 z' z6 w' w6 Q I6 r4 r6 q6))
def xChain3 (g g' g'' : D → D → Sto → Option (D × Sto)) (a b c d : Ex) : Ex := fun e S => (a e S).bind fun r => (b e r.2).bind fun q => (g r.1 q.1 q.2).bind fun z => match z.1 with
  | .pu (.bool k) => if k then (c e z.2).bind fun w => (g' q.1 w.1 w.2).bind fun y => match y.1 with
      | .pu (.bool k) => if k then (d e y.2).bind fun u => g'' w.1 u.1 u.2 else some (.pu (.bool false), y.2)
      | _ => none
    else some (.pu (.bool false), z.2)
  | _ => none
theorem tE.bC3 {g g' g'' : D → D → Sto → Option (D × Sto)} {r r' r'' : R2} {xa xb xc xd : Ex} (h : V2 G r g) (h' : V2 G r' g') (h'' : V2 G r'' g'') : ∀ σ H Q, tE G (xChain3 g g' g'' xa xb xc xd) σ H Q → tChain3 (fun x y H Q => r x y H (GQ Q)) (fun x y H Q => r' x y H (GQ Q)) (fun x y H Q => r'' x y H (GQ Q)) (tE G xa) (tE G xb) (tE G xc) (tE G xd) σ H Q := by
  intro σ H Q ⟨e, S, f, r0, d, S', hx, q⟩
  obtain ⟨⟨d1, S1⟩, h1, hx⟩ := Option.bind_eq_some_iff.mp hx
  obtain ⟨⟨d2, S2⟩, h2, hx⟩ := Option.bind_eq_some_iff.mp hx
  obtain ⟨⟨d3, S3⟩, h3, hx⟩ := Option.bind_eq_some_iff.mp hx
  refine ⟨e, S, f, r0, d1, S1, h1, fun v1 H1 f1 r1 n1 p1 => ⟨e, S1, f1, r1, d2, S2, h2, fun v2 H2 f2 r2 n2 p2 => ?_⟩⟩
  match d3, hx with
  | .pu (.bool k), hx =>
    refine h σ H2 e S2 f2 v1 v2 d1 d2 _ S3 _ r2 (p1.nx n2) p2 h3 fun v3 H3 f3 r3 n3 p3 => ?_
    cases (show Rep H3 v3 (.bool k) from p3)
    refine ⟨k, rfl, ?_⟩
    dsimp only at hx
    cases k with
    | true =>
      rw [if_pos rfl] at hx ⊢
      obtain ⟨⟨d4, S4⟩, h4, hx⟩ := Option.bind_eq_some_iff.mp hx
      obtain ⟨⟨d5, S5⟩, h5, hx⟩ := Option.bind_eq_some_iff.mp hx
      refine ⟨e, S3, f3, r3, d4, S4, h4, fun v4 H4 f4 r4 n4 p4 => ?_⟩
      match d5, hx with
      | .pu (.bool k), hx =>
        refine h' σ H4 e S4 f4 v2 v4 d2 d4 _ S5 _ r4 (p2.nx (n3.trans n4)) p4 h5 fun v5 H5 f5 r5 n5 p5 => ?_
        cases (show Rep H5 v5 (.bool k) from p5)
        refine ⟨k, rfl, ?_⟩
        dsimp only at hx
        cases k with
        | true =>
          rw [if_pos rfl] at hx ⊢
          obtain ⟨⟨d6, S6⟩, h6, hx⟩ := Option.bind_eq_some_iff.mp hx
          refine ⟨e, S5, f5, r5, d6, S6, h6, fun v6 H6 f6 r6 n6 p6 => ?_⟩
          exact h'' σ H6 e S6 f6 v4 v6 d4 d6 d S' Q r6 (p4.nx (n5.trans n6)) p6 hx fun v7 H7 f7 r7 n7 p7 => q v7 H7 f7 r7 ((((((n1.trans n2).trans n3).trans n4).trans n5).trans n6).trans n7) p7
        | false =>
          rw [if_neg Bool.false_ne_true] at hx ⊢
          cases hx
          exact q _ H5 f5 r5 ((((n1.trans n2).trans n3).trans n4).trans n5) (.bl false)
    | false =>
      rw [if_neg Bool.false_ne_true] at hx ⊢
      cases hx
      exact q _ H3 f3 r3 ((n1.trans n2).trans n3) (.bl false)
theorem d_chain3 {op op' op'' : CmpOp} {r r' r'' : R2} {g g' g'' : D → D → Sto → Option (D × Sto)} {a b c d : Expr} {xa xb xc xd : Ex} {pos : Pos} (ho : OpR X (compareOp op) r) (h : V2 G r g) (ho' : OpR X (compareOp op') r') (h' : V2 G r' g') (ho'' : OpR X (compareOp op'') r'') (h'' : V2 G r'' g'')
    (ha : DE X G a xa) (hb : DE X G b xb) (hc : DE X G c xc) (hd : DE X G d xd) (hm : lastMarks [op, op', op''] [b, c, d] = false := by with_unfolding_all rfl) : DE X G (.Compare a [op, op', op''] [b, c, d] pos) (xChain3 g g' g'' xa xb xc xd) :=
  pe_mono (pe_chain3 (opG ho) (opG ho') (opG ho'') ha hb hc hd hm) (tE.bC3 h h' h'')
/-! ### x is True -/
def rIsB (g : Bool → Bool → Bool) : R2 := fun x y H Q => ∃ c d, x = .bl c ∧ y = .bl d ∧ Q (.bl (g c d)) H
theorem op_isB : OpR X (compareOp .Is) (rIsB fun c d => c == d) := by
  intro pins s σ H x y v u Q I rx ry h
  obtain ⟨c, d, rfl, rfl, q⟩ := h
  cases rx
  cases ry
  exact PyProof.Rows.is_bool ⟨.bl _, H, I, rfl, q⟩
theorem op_notB : OpR X (compareOp .IsNot) (rIsB fun c d => c != d) := by
  intro pins s σ H x y v u Q I rx ry h
  obtain ⟨c, d, rfl, rfl, q⟩ := h
  cases rx
  cases ry
  exact PyProof.Rows.isnot_bool ⟨.bl _, H, I, rfl, q⟩
def pBB (g : Bool → Bool → Bool) : P → P → Option P
  | .bool c, .bool d => some (.bool (g c d))
  | _, _ => none
theorem vp_BB {g : Bool → Bool → Bool} : VP2 (rIsB g) (pBB g) := by
  intro H x y a b c Q rx ry h q
  cases rx with
  | bl i =>
    cases ry with
    | bl j =>
      cases h
      exact ⟨i, j, rfl, rfl, .inl (q _ H (.refl _) (.bl _))⟩
    | _ => cases h
  | _ => cases h
/-- {} as data -/
theorem d_dict0 {pos : Pos} : DE X G (.Dict [] [] pos) (xP (.dict [])) := pe_mono (pe_gh pe_dnewT) fun σ H Q hw => by
  obtain ⟨e, S, f, r, d, S', hx, q⟩ := hw
  cases hx
  refine fun p np => .inr ⟨p, .dT [], rfl, upd_same, trivial, fun od => ?_⟩
  have s' := fz_new (u := .dT []) (od := od) np
  exact q _ _ f (r.same s') (.of s' _ _) (.dct (qs := []) (.inr ⟨od, [], upd_same, rfl⟩) rfl rfl .nil rfl)
end
end DL
/-! LW: what an evaluator comes to, from its head. -/
namespace DL
open PySem PySem.Spec PyProof.Rows L2
def W {α : Type} (o : Option α) (Q : α → Prop) : Prop := ∃ a, o = some a ∧ Q a
theorem W.imp {α : Type} {o : Option α} {Q R : α → Prop} (h : W o R) (k : ∀ a, R a → Q a) : W o Q := let ⟨a, h1, h2⟩ := h; ⟨a, h1, k a h2⟩
theorem W.and {α : Type} {o : Option α} {Q R : α → Prop} (h : W o Q) (k : W o R) : W o fun a => Q a ∧ R a := by
  obtain ⟨a, h1, h2⟩ := h
  obtain ⟨b, h3, h4⟩ := k
  rw [h1] at h3
  cases h3
  exact ⟨a, h1, h2, h4⟩
theorem w_some {α : Type} {a : α} {Q : α → Prop} : W (some a) Q ↔ Q a := ⟨fun ⟨_, h1, h2⟩ => (by cases h1; exact h2), fun h => ⟨a, rfl, h⟩⟩
theorem w_none {α : Type} {Q : α → Prop} : W none Q ↔ False := ⟨fun ⟨_, h1, _⟩ => (by cases h1), fun h => h.elim⟩
theorem w_bind {α β : Type} {o : Option α} {f : α → Option β} {Q : β → Prop} : W (o.bind f) Q ↔ W o fun a => W (f a) Q := by
  constructor
  · rintro ⟨b, h1, h2⟩
    obtain ⟨a, h3, h4⟩ := Option.bind_eq_some_iff.mp h1
    exact ⟨a, h3, b, h4, h2⟩
  · rintro ⟨a, rfl, b, h1, h2⟩
    exact ⟨b, h1, h2⟩
theorem w_map {α β : Type} {o : Option α} {f : α → β} {Q : β → Prop} : W (o.map f) Q ↔ W o fun a => Q (f a) := by
  cases o with
  | none => simp [w_none]
  | some a => simp [w_some]
theorem w_ite {α : Type} {c : Prop} [Decidable c] {a b : Option α} {Q : α → Prop} : W (if c then a else b) Q ↔ if c then W a Q else W b Q := by
  by_cases h : c
  · rw [if_pos h, if_pos h]
  · rw [if_neg h, if_neg h]
/-- a test's two ways -/
theorem both {c : Prop} [Decidable c] {A B : Prop} (h1 : c → A) (h2 : ¬c → B) : if c then A else B := by
  by_cases h : c
  · rw [if_pos h]; exact h1 h
  · rw [if_neg h]; exact h2 h
section
variable {e : Envi} {S : Sto} {G : Gx}
/-! ### expressions -/
def slv (i : Nat) (S : Sto) : Option (Option Sl) → Option (D × Sto)
  | some (some (.val d)) => some (d, S)
  | some (some (.ow c)) => some (.bo i c, S)
  | _ => none
theorem w_var {i : Nat} {Q : D × Sto → Prop} : W (xVar i e S) Q ↔ W (slv i S e[i]?) Q := by
  unfold xVar
  cases h : e[i]? with
  | none => exact Iff.rfl
  | some s => cases s with
    | none => exact Iff.rfl
    | some s => cases s <;> exact Iff.rfl
theorem w_slv {i : Nat} {d : D} {Q : D × Sto → Prop} : W (slv i S (some (some (.val d)))) Q ↔ Q (d, S) := w_some
theorem w_slo {i : Nat} {c : OC} {Q : D × Sto → Prop} : W (slv i S (some (some (.ow c)))) Q ↔ Q (.bo i c, S) := w_some
theorem w_P {p : P} {Q : D × Sto → Prop} : W (xP p e S) Q ↔ Q (.pu p, S) := w_some
theorem w_D {d : D} {Q : D × Sto → Prop} : W (xD d e S) Q ↔ Q (d, S) := w_some
theorem w_x1 {g : D → Sto → Option (D × Sto)} {a : Ex} {Q : D × Sto → Prop} : W (x1 g a e S) Q ↔ W (a e S) fun r => W (g r.1 r.2) Q := w_bind
theorem w_x2 {g : D → D → Sto → Option (D × Sto)} {a b : Ex} {Q : D × Sto → Prop} : W (x2 g a b e S) Q ↔ W (a e S) fun r => W (b e r.2) fun q => W (g r.1 q.1 q.2) Q := w_bind.trans (by simp only [w_bind])
theorem w_xA {g : List D → Sto → Option (D × Sto)} {a : Ax} {Q : D × Sto → Prop} : W (xA g a e S) Q ↔ W (a e S) fun r => W (g r.1 r.2) Q := w_bind
theorem w_nil {Q : List D × Sto → Prop} : W (aNil e S) Q ↔ Q ([], S) := w_some
theorem w_cons {a : Ex} {r : Ax} {Q : List D × Sto → Prop} : W (aCons a r e S) Q ↔ W (a e S) fun q => W (r e q.2) fun t => Q (q.1 :: t.1, t.2) := w_bind.trans (by simp only [w_bind, w_some])
theorem w_ite_x {t : Tx} {a b : Ex} {Q : D × Sto → Prop} : W (xIte t a b e S) Q ↔ W (t e S) fun r => if r.1 = true then W (a e r.2) Q else W (b e r.2) Q := w_bind.trans (by simp only [w_ite])
theorem w_isi {a : Ex} {Ts : List Ty} {Q : D × Sto → Prop} : W (xIsi a Ts e S) Q ↔ W (a e S) fun r => W (tyD r.1 r.2) fun t => Q (.pu (.bool (Ts.any t.is)), r.2) := w_bind.trans (by simp only [w_bind, w_some])
def boolD (Q : Bool → Sto → Prop) (S : Sto) : D → Prop
  | .pu (.bool b) => Q b S
  | _ => False
theorem w_tOfE {x : Ex} {Q : Bool × Sto → Prop} : W (tOfE x e S) Q ↔ W (x e S) fun r => boolD (fun b S => Q (b, S)) r.2 r.1 := by
  refine w_bind.trans ?_
  constructor
  · rintro ⟨⟨d, S1⟩, h, h2⟩
    refine ⟨_, h, ?_⟩
    cases d with
    | pu p => cases p with
      | bool b => obtain ⟨_, k1, k2⟩ := h2; cases k1; exact k2
      | _ => obtain ⟨_, k1, _⟩ := h2; cases k1
    | _ => obtain ⟨_, k1, _⟩ := h2; cases k1
  · rintro ⟨⟨d, S1⟩, h, h2⟩
    refine ⟨_, h, ?_⟩
    cases d with
    | pu p => cases p with
      | bool b => exact ⟨_, rfl, h2⟩
      | _ => exact h2.elim
    | _ => exact h2.elim
theorem w_bD {Q : Bool → Sto → Prop} {b : Bool} : boolD Q S (.pu (.bool b)) ↔ Q b S := Iff.rfl
theorem w_tNot {t : Tx} {Q : Bool × Sto → Prop} : W (tNotX t e S) Q ↔ W (t e S) fun r => Q (!r.1, r.2) := w_bind.trans (by simp only [w_some])
theorem w_tAnd {t u : Tx} {Q : Bool × Sto → Prop} : W (tAndX t u e S) Q ↔ W (t e S) fun r => if r.1 = true then W (u e r.2) Q else Q (false, r.2) := w_bind.trans (by simp only [w_ite, w_some])
theorem w_tOr {t u : Tx} {Q : Bool × Sto → Prop} : W (tOrX t u e S) Q ↔ W (t e S) fun r => if r.1 = true then Q (true, r.2) else W (u e r.2) Q := w_bind.trans (by simp only [w_ite, w_some])
theorem w_xBool {x : Ex} {f : Bool → Sto → Option (D × Sto)} {Q : D × Sto → Prop} : W ((x e S).bind fun r => match r.1 with | .pu (.bool c) => f c r.2 | _ => none) Q ↔ W (x e S) fun r => boolD (fun b S => W (f b S) Q) r.2 r.1 := by
  refine w_bind.trans ?_
  constructor
  · rintro ⟨⟨d, S1⟩, h, h2⟩
    refine ⟨_, h, ?_⟩
    cases d with
    | pu p => cases p with
      | bool b => exact h2
      | _ => obtain ⟨_, k1, _⟩ := h2; cases k1
    | _ => obtain ⟨_, k1, _⟩ := h2; cases k1
  · rintro ⟨⟨d, S1⟩, h, h2⟩
    refine ⟨_, h, ?_⟩
    cases d with
    | pu p => cases p with
      | bool b => exact h2
      | _ => exact h2.elim
    | _ => exact h2.elim
theorem w_and {a b : Ex} {Q : D × Sto → Prop} : W (xAndX a b e S) Q ↔ W (a e S) fun r => boolD (fun c S => if c = true then W (b e S) Q else Q (.pu (.bool false), S)) r.2 r.1 := (w_xBool (f := fun c S => if c then b e S else some (.pu (.bool false), S))).trans (by simp only [w_ite, w_some])
theorem w_or {a b : Ex} {Q : D × Sto → Prop} : W (xOrX a b e S) Q ↔ W (a e S) fun r => boolD (fun c S => if c = true then Q (.pu (.bool true), S) else W (b e S) Q) r.2 r.1 := (w_xBool (f := fun c S => if c then some (.pu (.bool true), S) else b e S)).trans (by simp only [w_ite, w_some])
/-! ### statements -/
def seqQ (b : Sx) (Q : Out → Prop) : Out → Prop
  | .nx e S => W (b e S) Q
  | .rt d e S => Q (.rt d e S)
  | .bk e S => Q (.bk e S)
  | .ct e S => Q (.ct e S)
theorem w_seq {a b : Sx} {Q : Out → Prop} : W (sSeq a b e S) Q ↔ W (a e S) (seqQ b Q) := by
  refine w_bind.trans ?_
  constructor
  · rintro ⟨o, h, h2⟩
    refine ⟨o, h, ?_⟩
    cases o with
    | nx e S => exact h2
    | _ => obtain ⟨_, k1, k2⟩ := h2; cases k1; exact k2
  · rintro ⟨o, h, h2⟩
    refine ⟨o, h, ?_⟩
    cases o with
    | nx e S => exact h2
    | _ => exact ⟨_, rfl, h2⟩
theorem w_qnx {b : Sx} {Q : Out → Prop} : seqQ b Q (.nx e S) ↔ W (b e S) Q := Iff.rfl
theorem w_qrt {b : Sx} {Q : Out → Prop} {d : D} : seqQ b Q (.rt d e S) ↔ Q (.rt d e S) := Iff.rfl
theorem w_qbk {b : Sx} {Q : Out → Prop} : seqQ b Q (.bk e S) ↔ Q (.bk e S) := Iff.rfl
theorem w_qct {b : Sx} {Q : Out → Prop} : seqQ b Q (.ct e S) ↔ Q (.ct e S) := Iff.rfl
theorem w_sNil {Q : Out → Prop} : W (sNil e S) Q ↔ Q (.nx e S) := w_some
theorem w_sBreak {Q : Out → Prop} : W (sBreak e S) Q ↔ Q (.bk e S) := w_some
theorem w_sCont {Q : Out → Prop} : W (sCont e S) Q ↔ Q (.ct e S) := w_some
theorem w_sDrop {x : Ex} {Q : Out → Prop} : W (sDrop x e S) Q ↔ W (x e S) fun r => Q (.nx e r.2) := w_bind.trans (by simp only [w_some])
theorem w_asg {x : Ex} {g : Gt} {Q : Out → Prop} : W (sAsg x g e S) Q ↔ W (x e S) fun r => W (g r.1 e r.2) fun q => Q (.nx q.1 q.2) := w_bind.trans (by simp only [w_bind, w_some])
theorem w_set {i : Nat} {x : Ex} {Q : Out → Prop} : W (sSet i x e S) Q ↔ W (x e S) fun r => W (gNm i r.1 e r.2) fun q => Q (.nx q.1 q.2) := w_asg
theorem w_ret {x : Ex} {Q : Out → Prop} : W (sRet x e S) Q ↔ W (x e S) fun r => Q (.rt r.1 e r.2) := w_bind.trans (by simp only [w_some])
theorem w_retN {Q : Out → Prop} : W (sRetN e S) Q ↔ Q (.rt (.pu .none) e S) := w_some
theorem w_if {t : Tx} {a b : Sx} {Q : Out → Prop} : W (sIf t a b e S) Q ↔ W (t e S) fun r => if r.1 = true then W (a e r.2) Q else W (b e r.2) Q := w_bind.trans (by simp only [w_ite])
theorem w_for {it : Ix} {g : Gt} {b : Sx} {Q : Out → Prop} : W (sFor it g b e S) Q ↔ W (it e S) fun r => W (forD (fun d e S => (g d e S).bind fun q => b q.1 q.2) r.1 e r.2) Q := w_bind
def fqE (i : Nat) (e : Envi) : Option (Option Sl) → Envi
  | some (some (.ow c)) => e.set i (some (.val (.pu (frzP c))))
  | _ => e
theorem w_fq {i : Nat} {s : Sx} {Q : Out → Prop} : W (sFq i s e S) Q ↔ W (s (fqE i e e[i]?) S) Q := by
  unfold sFq
  cases h : e[i]? with
  | none => exact Iff.rfl
  | some z => cases z with
    | none => exact Iff.rfl
    | some z => cases z <;> exact Iff.rfl
theorem w_fqo {i : Nat} {c : OC} : fqE i e (some (some (.ow c))) = e.set i (some (.val (.pu (frzP c)))) := rfl
theorem w_fqv {i : Nat} {d : D} : fqE i e (some (some (.val d))) = e := rfl
theorem w_nmP {i : Nat} {p : P} {Q : Envi × Sto → Prop} : W (gNm i (.pu p) e S) Q ↔ Q (e.set i (some (.val (.pu p))), S) := w_some
theorem w_nmW {i : Nat} {p : P} {Q : Envi × Sto → Prop} : W (gNm i (.wr p) e S) Q ↔ Q (e.set i (some (.val (.wr p))), S) := w_some
theorem w_nmR {i n : Nat} {Q : Envi × Sto → Prop} : W (gNm i (.rf n) e S) Q ↔ Q (e.set i (some (.val (.rf n))), S) := w_some
theorem w_gnNil {Q : Envi × Sto → Prop} : W (gnNil [] e S) Q ↔ Q (e, S) := w_some
theorem w_gtNil {Q : Envi × Sto → Prop} : W (gtNil [] e S) Q ↔ Q (e, S) := w_some
theorem w_gnCons {g : Gt} {r : Gts} {d : D} {ds : List D} {Q : Envi × Sto → Prop} : W (gnCons g r (d :: ds) e S) Q ↔ W (g d e S) fun q => W (r ds q.1 S) Q := by
  show W ((g d e S).bind fun q => r ds q.1 S) Q ↔ _
  exact w_bind
theorem w_gtCons {g : Gt} {r : Gts} {d : D} {ds : List D} {Q : Envi × Sto → Prop} : W (gtCons g r (d :: ds) e S) Q ↔ W (gtCons.pusW ds) fun _ => W (g d e S) fun q => W (r ds q.1 q.2) Q := w_bind.trans (by simp only [w_bind])
theorem w_pwN {Q : Unit → Prop} : W (gtCons.pusW []) Q ↔ Q () := w_some
theorem w_pwP {p : P} {ds : List D} {Q : Unit → Prop} : W (gtCons.pusW (.pu p :: ds)) Q ↔ W (gtCons.pusW ds) Q := Iff.rfl
theorem w_pwW {p : P} {ds : List D} {Q : Unit → Prop} : W (gtCons.pusW (.wr p :: ds)) Q ↔ W (gtCons.pusW ds) Q := Iff.rfl
theorem w_gtLst {n : Nat} {g : Gts} {d : D} {Q : Envi × Sto → Prop} : W (gtLst n g d e S) Q ↔ W (seqD d S) fun q => q.2.length = n ∧ W (g q.2 e S) Q := by
  unfold gtLst
  cases h : seqD d S with
  | none => simp only [w_none]
  | some q =>
    obtain ⟨k, ds⟩ := q
    dsimp only
    rw [w_ite, w_some]
    by_cases c : ds.length = n
    · rw [if_pos c]
      exact ⟨fun h => ⟨c, h⟩, fun h => h.2⟩
    · rw [if_neg c]
      exact ⟨fun h => (w_none.mp h).elim, fun h => (c h.1).elim⟩
theorem w_gSubT {xo xi : Ex} {d : D} {Q : Envi × Sto → Prop} : W (gSubT xo xi d e S) Q ↔ W (xo e S) fun o => W (xi e o.2) fun i => noBo [d] = true ∧ W (putS o.1 i.1 d e i.2) Q := by
  refine w_bind.trans ?_
  simp only [w_bind, w_ite, w_none]
  constructor
  · exact fun h => h.imp fun a h => h.imp fun b h => by
      by_cases c : noBo [d] = true
      · rw [if_pos c] at h; exact ⟨c, h⟩
      · rw [if_neg c] at h; exact h.elim
  · exact fun h => h.imp fun a h => h.imp fun b h => by rw [if_pos h.1]; exact h.2
/-! ### operations -/
theorem w_s1 {p : P → Option P} {a : P} {Q : D × Sto → Prop} : W (s1 p (.pu a) S) Q ↔ W (p a) fun c => Q (.pu c, S) := w_bind.trans (by simp only [w_some])
theorem w_s2 {p : P → P → Option P} {a b : P} {Q : D × Sto → Prop} : W (s2 p (.pu a) (.pu b) S) Q ↔ W (p a b) fun c => Q (.pu c, S) := w_bind.trans (by simp only [w_some])
theorem w_pI {C : Int → Int → Bool} {g : Int → Int → Int} {i j : Int} {Q : P → Prop} : W (pI C g (.int i) (.int j)) Q ↔ C i j = true ∧ Q (.int (g i j)) := by
  show W (if C i j = true then some (PyData.int (g i j)) else none) Q ↔ _
  rw [w_ite, w_some, w_none]
  by_cases c : C i j = true
  · rw [if_pos c]; exact ⟨fun h => ⟨c, h⟩, fun h => h.2⟩
  · rw [if_neg c]; exact ⟨fun h => h.elim, fun h => (c h.1).elim⟩
theorem w_pIB {g : Int → Int → Bool} {i j : Int} {Q : P → Prop} : W (pIB g (.int i) (.int j)) Q ↔ Q (.bool (g i j)) := w_some
theorem w_pNeg {i : Int} {Q : P → Prop} : W (pNeg (.int i)) Q ↔ Q (.int (-i)) := w_some
theorem w_pAbs {i : Int} {Q : P → Prop} : W (pAbs (.int i)) Q ↔ Q (.int (i.natAbs : Nat)) := by
  rw [show ((i.natAbs : Nat) : Int) = if i < 0 then -i else i by split <;> omega]
  exact w_some
theorem w_pDm {i j : Int} {Q : P → Prop} : W (pDivmod (.int i) (.int j)) Q ↔ (0 < j ∧ j < 1073741824) ∧ Q (.tuple [.int (i / j), .int (i % j)]) := by
  show W (if 0 < j ∧ j < 1073741824 then _ else none) Q ↔ _
  rw [w_ite, w_some, w_none]
  by_cases c : 0 < j ∧ j < 1073741824
  · rw [if_pos c]; exact ⟨fun h => ⟨c, h⟩, fun h => h.2⟩
  · rw [if_neg c]; exact ⟨fun h => h.elim, fun h => (c h.1).elim⟩
theorem w_a1 {p : P → Option P} {a : P} {Q : D × Sto → Prop} : W (a1 p [.pu a] S) Q ↔ W (p a) fun c => Q (.pu c, S) := w_bind.trans (by simp only [w_some])
theorem w_a2 {p : P → P → Option P} {a b : P} {Q : D × Sto → Prop} : W (a2 p [.pu a, .pu b] S) Q ↔ W (p a b) fun c => Q (.pu c, S) := w_bind.trans (by simp only [w_some])
theorem w_add {i j : Int} {Q : D × Sto → Prop} : W (gAdd (.pu (.int i)) (.pu (.int j)) S) Q ↔ Q (.pu (.int (i + j)), S) := w_some
theorem w_not {c : Bool} {Q : D × Sto → Prop} : W (gNot (.pu (.bool c)) S) Q ↔ Q (.pu (.bool (!c)), S) := w_some
theorem w_ixL {xs : List P} {k : Int} {Q : D × Sto → Prop} : W (gIx (.pu (.list xs)) (.pu (.int k)) S) Q ↔ W (atI (xs.map D.pu) k) fun z => Q (z, S) := w_bind.trans (by simp only [seqD, w_some, w_bind])
theorem w_ixT {xs : List P} {k : Int} {Q : D × Sto → Prop} : W (gIx (.pu (.tuple xs)) (.pu (.int k)) S) Q ↔ W (atI (xs.map D.pu) k) fun z => Q (z, S) := w_bind.trans (by simp only [seqD, w_some, w_bind])
theorem w_ixB {i : Nat} {xs : List P} {k : Int} {Q : D × Sto → Prop} : W (gIx (.bo i (.lst xs)) (.pu (.int k)) S) Q ↔ W (atI (xs.map D.pu) k) fun z => Q (z, S) := w_bind.trans (by simp only [seqD, w_some, w_bind])
theorem w_ixWL {xs : List P} {k : Int} {Q : D × Sto → Prop} : W (gIx (.wr (.list xs)) (.pu (.int k)) S) Q ↔ W (atI (xs.map wrD) k) fun z => Q (z, S) := w_bind.trans (by simp only [seqD, w_some, w_bind])
theorem w_ixWT {xs : List P} {k : Int} {Q : D × Sto → Prop} : W (gIx (.wr (.tuple xs)) (.pu (.int k)) S) Q ↔ W (atI (xs.map wrD) k) fun z => Q (z, S) := w_bind.trans (by simp only [seqD, w_some, w_bind])
theorem w_getT {xs : List P} {i : D} {Q : D × Sto → Prop} : W (gGet (.pu (.tuple xs)) i S) Q ↔ W (gIx (.pu (.tuple xs)) i S) Q := Iff.rfl
theorem w_getL {xs : List P} {i : D} {Q : D × Sto → Prop} : W (gGet (.pu (.list xs)) i S) Q ↔ W (gIx (.pu (.list xs)) i S) Q := Iff.rfl
theorem w_getB {k : Nat} {xs : List P} {i : D} {Q : D × Sto → Prop} : W (gGet (.bo k (.lst xs)) i S) Q ↔ W (gIx (.bo k (.lst xs)) i S) Q := Iff.rfl
theorem w_getW {p : P} {i : D} {Q : D × Sto → Prop} : W (gGet (.wr p) i S) Q ↔ W (gIx (.wr p) i S) Q := Iff.rfl
theorem w_getD {n : Nat} {ps : List (P × D)} {p : P} {Q : D × Sto → Prop} (h : S[n]? = some (.dct ps)) : W (gGet (.rf n) (.pu p) S) Q ↔ W (keyD p) fun _ => W (dlook ps p) fun z => Q (z, S) := by
  have hd : dicD (.rf n) S = some ps := by
    show (match S[n]? with | some (.dct ps) => some ps | _ => none) = _
    rw [h]
  unfold gGet
  rw [hd]
  exact w_bind.trans (by simp only [w_bind, w_some])
theorem w_getR {n : Nat} {ds : List D} {k : Int} {Q : D × Sto → Prop} (h : S[n]? = some (.lst ds)) : W (gGet (.rf n) (.pu (.int k)) S) Q ↔ W (atI ds k) fun z => Q (z, S) := by
  have hd : dicD (.rf n) S = none := by
    show (match S[n]? with | some (.dct ps) => some ps | _ => none) = _
    rw [h]
  unfold gGet
  rw [hd]
  show W (gIx (.rf n) (.pu (.int k)) S) Q ↔ _
  refine w_bind.trans ?_
  simp only [seqD, h, w_some, w_bind]
theorem w_ixR {n : Nat} {ds : List D} {k : Int} {Q : D × Sto → Prop} (h : S[n]? = some (.lst ds)) : W (gIx (.rf n) (.pu (.int k)) S) Q ↔ W (atI ds k) fun z => Q (z, S) := by
  refine w_bind.trans ?_
  simp only [seqD, h, w_some, w_bind]
theorem w_keyS {x : Str} {Q : Key ⊕ List Key → Prop} : W (keyD (.str x)) Q ↔ Q (.inl (.inr x)) := w_some
theorem w_keyI {x : Int} {Q : Key ⊕ List Key → Prop} : W (keyD (.int x)) Q ↔ Q (.inl (.inl x)) := w_some
theorem w_lkN {α : Type} {p : P} {Q : α → Prop} : W (dlook [] p) Q ↔ False := w_none
theorem w_lkC {α : Type} {q : P × α} {ps : List (P × α)} {p : P} {Q : α → Prop} : W (dlook (q :: ps) p) Q ↔ if PyData.eqv q.1 p = true then Q q.2 else W (dlook ps p) Q := by rw [dlook_cons, w_ite, w_some]
theorem w_lenL {xs : List P} {Q : D × Sto → Prop} : W (gLen [.pu (.list xs)] S) Q ↔ Q (.pu (.int xs.length), S) := by
  show W ((seqD (.pu (.list xs)) S).bind fun q => some (D.pu (.int q.2.length), S)) Q ↔ _
  simp only [w_bind, seqD, w_some, List.length_map]
theorem w_lenT {xs : List P} {Q : D × Sto → Prop} : W (gLen [.pu (.tuple xs)] S) Q ↔ Q (.pu (.int xs.length), S) := by
  show W ((seqD (.pu (.tuple xs)) S).bind fun q => some (D.pu (.int q.2.length), S)) Q ↔ _
  simp only [w_bind, seqD, w_some, List.length_map]
theorem w_lenB {i : Nat} {xs : List P} {Q : D × Sto → Prop} : W (gLen [.bo i (.lst xs)] S) Q ↔ Q (.pu (.int xs.length), S) := by
  show W ((seqD (.bo i (.lst xs)) S).bind fun q => some (D.pu (.int q.2.length), S)) Q ↔ _
  simp only [w_bind, seqD, w_some, List.length_map]
theorem w_lenR {n : Nat} {ds : List D} {Q : D × Sto → Prop} (h : S[n]? = some (.lst ds)) : W (gLen [.rf n] S) Q ↔ Q (.pu (.int ds.length), S) := by
  refine w_bind.trans ?_
  simp only [seqD, h, w_some]
theorem w_puN {Q : List P → Prop} : W (pusOf []) Q ↔ Q [] := w_some
theorem w_puC {p : P} {ds : List D} {Q : List P → Prop} : W (pusOf (.pu p :: ds)) Q ↔ W (pusOf ds) fun ps => Q (p :: ps) := w_bind.trans (by simp only [w_some])
theorem pus_map : ∀ ps : List P, pusOf (ps.map D.pu) = some ps
  | [] => rfl
  | p :: ps => by
    show (pusOf (ps.map D.pu)).bind _ = _
    rw [pus_map ps]
    rfl
theorem w_puM {ps : List P} {Q : List P → Prop} : W (pusOf (ps.map D.pu)) Q ↔ Q ps := by rw [pus_map]; exact w_some
theorem w_limQ {n : Nat} {r : D × Sto} {Q : D × Sto → Prop} : W (if n ≤ lim then some r else none) Q ↔ n ≤ lim ∧ Q r := by
  rw [w_ite, w_some, w_none]
  by_cases c : n ≤ lim
  · rw [if_pos c]; exact ⟨fun h => ⟨c, h⟩, fun h => h.2⟩
  · rw [if_neg c]; exact ⟨fun h => h.elim, fun h => (c h.1).elim⟩
theorem w_tup {ds : List D} {Q : D × Sto → Prop} : W (gTup ds S) Q ↔ W (pusOf ds) fun ps => ps.length ≤ lim ∧ Q (.pu (.tuple ps), S) := w_bind.trans (by simp only [w_limQ])
theorem w_lst {ds : List D} {Q : D × Sto → Prop} : W (gLst ds S) Q ↔ W (pusOf ds) fun ps => ps.length ≤ lim ∧ Q (.pu (.list ps), S) := w_bind.trans (by simp only [w_limQ])
theorem w_list {d : D} {Q : D × Sto → Prop} : W (gList [d] S) Q ↔ W (seqD d S) fun q => W (pusOf q.2) fun ps => Q (.pu (.list ps), S) := w_bind.trans (by simp only [w_bind, w_some])
theorem w_listC {d : D} {Q : D × Sto → Prop} : W (gListC [d] S) Q ↔ W (seqD d S) fun q => Q (.rf S.length, S ++ [.lst q.2]) := w_bind.trans (by simp only [w_some])
theorem w_lstC {ds : List D} {Q : D × Sto → Prop} : W (gLstC ds S) Q ↔ (noBo ds && decide (ds.length ≤ lim)) = true ∧ Q (.rf S.length, S ++ [.lst ds]) := by
  unfold gLstC
  rw [w_ite, w_some, w_none]
  by_cases c : (noBo ds && decide (ds.length ≤ lim)) = true
  · rw [if_pos c]; exact ⟨fun h => ⟨c, h⟩, fun h => h.2⟩
  · rw [if_neg c]; exact ⟨fun h => h.elim, fun h => (c h.1).elim⟩
theorem w_seL {xs : List P} {Q : Bool × List D → Prop} : W (seqD (.pu (.list xs)) S) Q ↔ Q (false, xs.map .pu) := w_some
theorem w_seT {xs : List P} {Q : Bool × List D → Prop} : W (seqD (.pu (.tuple xs)) S) Q ↔ Q (true, xs.map .pu) := w_some
theorem w_seWL {xs : List P} {Q : Bool × List D → Prop} : W (seqD (.wr (.list xs)) S) Q ↔ Q (false, xs.map wrD) := w_some
theorem w_seWT {xs : List P} {Q : Bool × List D → Prop} : W (seqD (.wr (.tuple xs)) S) Q ↔ Q (true, xs.map wrD) := w_some
theorem w_seB {i : Nat} {xs : List P} {Q : Bool × List D → Prop} : W (seqD (.bo i (.lst xs)) S) Q ↔ Q (false, xs.map .pu) := w_some
theorem w_eq {n : Bool} {a b : P} {Q : D × Sto → Prop} : W (gEq n (.pu a) (.pu b) S) Q ↔ (shp 9 a && shp 9 b) = true ∧ Q (.pu (.bool (if n = true then !PyData.eqv a b else PyData.eqv a b)), S) := by
  show W (if (shp 9 a && shp 9 b) = true then _ else none) Q ↔ _
  rw [w_ite, w_some, w_none]
  by_cases c : (shp 9 a && shp 9 b) = true
  · rw [if_pos c]; exact ⟨fun h => ⟨c, h⟩, fun h => h.2⟩
  · rw [if_neg c]; exact ⟨fun h => h.elim, fun h => (c h.1).elim⟩
theorem w_callF {m : List D → Sto → Option (D × Sto)} {ds : List D} {Q : D × Sto → Prop} : W (gCallF m ds S) Q ↔ noBo ds = true ∧ W (m ds S) Q := by
  unfold gCallF
  rw [w_ite, w_none]
  by_cases c : noBo ds = true
  · rw [if_pos c]; exact ⟨fun h => ⟨c, h⟩, fun h => h.2⟩
  · rw [if_neg c]; exact ⟨fun h => h.elim, fun h => (c h.1).elim⟩
theorem w_callP {m : List P → Option P} {ds : List D} {Q : D × Sto → Prop} : W (gCallP m ds S) Q ↔ W (pusOf ds) fun ps => W (m ps) fun p => Q (.pu p, S) := w_bind.trans (by simp only [w_bind, w_some])
/-! ### defs -/
def endQ (Q : D × Sto → Prop) : Out → Prop
  | .nx _ S => Q (.pu .none, S)
  | .rt d _ S => noBo [d] = true ∧ Q (d, S)
  | _ => False
theorem w_runF {n l : Nat} {b : Sx} {ds : List D} {Q : D × Sto → Prop} : W (runF n l b ds S) Q ↔ (ds.length = n ∧ n ≤ l) ∧ W (b (env0 l ds) S) (endQ Q) := by
  unfold runF
  rw [w_ite, w_none]
  by_cases c : ds.length = n ∧ n ≤ l
  · rw [if_pos c, w_bind]
    refine ⟨fun h => ⟨c, h.imp fun o h => ?_⟩, fun h => h.2.imp fun o h => ?_⟩
    · cases o with
      | nx e S => obtain ⟨_, k1, k2⟩ := h; cases k1; exact k2
      | rt d e S =>
        dsimp only at h
        rw [w_ite, w_some, w_none] at h
        by_cases c2 : noBo [d] = true
        · rw [if_pos c2] at h; exact ⟨c2, h⟩
        · rw [if_neg c2] at h; exact h.elim
      | _ => obtain ⟨_, k1, _⟩ := h; cases k1
    · cases o with
      | nx e S => exact ⟨_, rfl, h⟩
      | rt d e S =>
        dsimp only
        rw [if_pos h.1]
        exact ⟨_, rfl, h.2⟩
      | _ => exact h.elim
  · rw [if_neg c]; exact ⟨fun h => h.elim, fun h => (c h.1).elim⟩
theorem w_eqn {Q : D × Sto → Prop} : endQ Q (.nx e S) ↔ Q (.pu .none, S) := Iff.rfl
theorem w_eqr {Q : D × Sto → Prop} {d : D} : endQ Q (.rt d e S) ↔ noBo [d] = true ∧ Q (d, S) := Iff.rfl
def endP (Q : P → Prop) : Out → Prop
  | .nx _ _ => Q .none
  | .rt (.pu p) _ _ => Q p
  | _ => False
theorem w_runP {n l : Nat} {b : Sx} {ps : List P} {Q : P → Prop} : W (runP n l b ps) Q ↔ (ps.length = n ∧ n ≤ l) ∧ W (b (env0 l (ps.map .pu)) []) (endP Q) := by
  unfold runP
  rw [w_bind, w_runF, List.length_map]
  refine and_congr_right fun _ => ⟨fun h => h.imp fun o h => ?_, fun h => h.imp fun o h => ?_⟩
  · cases o with
    | nx e S => obtain ⟨_, k1, k2⟩ := h; cases k1; exact k2
    | rt d e S =>
      cases d with
      | pu p => obtain ⟨_, _, k1, k2⟩ := h; cases k1; exact k2
      | _ => obtain ⟨_, _, k1, _⟩ := h; cases k1
    | _ => exact h
  · cases o with
    | nx e S => exact ⟨_, rfl, h⟩
    | rt d e S =>
      cases d with
      | pu p => exact ⟨rfl, _, rfl, h⟩
      | _ => exact h.elim
    | _ => exact h
theorem w_epn {Q : P → Prop} : endP Q (.nx e S) ↔ Q .none := Iff.rfl
theorem w_epr {Q : P → Prop} {p : P} : endP Q (.rt (.pu p) e S) ↔ Q p := Iff.rfl
/-! ### loops -/
def loopQ (I : Envi → Sto → Prop) (Q : Out → Prop) : Out → Prop
  | .nx e S => I e S
  | .ct e S => I e S
  | .bk e S => Q (.nx e S)
  | .rt d e S => Q (.rt d e S)
theorem w_lqn {I : Envi → Sto → Prop} {Q : Out → Prop} : loopQ I Q (.nx e S) ↔ I e S := Iff.rfl
theorem w_lqc {I : Envi → Sto → Prop} {Q : Out → Prop} : loopQ I Q (.ct e S) ↔ I e S := Iff.rfl
theorem w_lqb {I : Envi → Sto → Prop} {Q : Out → Prop} : loopQ I Q (.bk e S) ↔ Q (.nx e S) := Iff.rfl
theorem w_lqr {I : Envi → Sto → Prop} {Q : Out → Prop} {d : D} : loopQ I Q (.rt d e S) ↔ Q (.rt d e S) := Iff.rfl
theorem for_step {b : D → Envi → Sto → Option Out} {d : D} {ds : List D} {Q : Out → Prop} : W (forD b (d :: ds) e S) Q ↔ W (b d e S) (loopQ (fun e S => W (forD b ds e S) Q) Q) := by
  refine w_bind.trans ?_
  refine ⟨fun h => h.imp fun o h => ?_, fun h => h.imp fun o h => ?_⟩
  · cases o with
    | nx e S => exact h
    | ct e S => exact h
    | _ => obtain ⟨_, k1, k2⟩ := h; cases k1; exact k2
  · cases o with
    | nx e S => exact h
    | ct e S => exact h
    | _ => exact ⟨_, rfl, h⟩
theorem for_nil {b : D → Envi → Sto → Option Out} {Q : Out → Prop} : W (forD b [] e S) Q ↔ Q (.nx e S) := w_some
/-- an invariant, turn by turn -/
theorem for_inv {b : D → Envi → Sto → Option Out} {Q : Out → Prop} (I : Nat → Envi → Sto → Prop) : ∀ (ds : List D) (j : Nat) (e : Envi) (S : Sto), I j e S → (∀ i d e S, ds[i]? = some d → I (j + i) e S → W (b d e S) (loopQ (I (j + i + 1)) Q)) → (∀ e S, I (j + ds.length) e S → Q (.nx e S)) → W (forD b ds e S) Q
  | [], j, e, S, h, _, q => for_nil.mpr (q e S h)
  | d :: ds, j, e, S, h, st, q => for_step.mpr ((st 0 d e S rfl h).imp fun o h => by
    have next : ∀ e S, I (j + 1) e S → W (forD b ds e S) Q := fun e S h => for_inv I ds (j + 1) e S h (fun i d e S hd hi => by
      have e1 : j + 1 + i = j + (i + 1) := by omega
      rw [e1] at hi ⊢
      exact st (i + 1) d e S (by simpa using hd) hi) fun e S hi => q e S (by
      have e1 : j + (d :: ds).length = j + 1 + ds.length := by rw [List.length_cons]; omega
      rw [e1]; exact hi)
    cases o with
    | nx e S => exact next e S h
    | ct e S => exact next e S h
    | bk e S => exact h
    | rt d e S => exact h)
theorem rng_get {lo : Int} {n i : Nat} {d : D} (h : (rngD lo n)[i]? = some d) : i < n ∧ d = .pu (.int (lo + i)) := by
  unfold rngD at h
  rw [List.getElem?_map] at h
  by_cases c : i < n
  · rw [List.getElem?_range c] at h
    cases h
    exact ⟨c, rfl⟩
  · rw [List.getElem?_eq_none (by rw [List.length_range]; omega)] at h
    cases h
theorem rng_len {lo : Int} {n : Nat} : (rngD lo n).length = n := by unfold rngD; rw [List.length_map, List.length_range]
theorem w_range1 {a : Ax} {Q : List D × Sto → Prop} (j : Int) (S' : Sto) (h : W (a e S) fun r => r = ([.pu (.int j)], S')) (hj : rOk j = true) (q : Q (rngD 0 j.toNat, S')) : W (iRange1 a e S) Q := by
  obtain ⟨_, h1, rfl⟩ := h
  refine w_bind.mpr ⟨_, h1, ?_⟩
  dsimp only
  rw [if_pos hj]
  exact w_some.mpr q
def rgQ (Q : List D × Sto → Prop) (S : Sto) : List D → Prop
  | [.pu (.int j)] => rOk j = true ∧ Q (rngD 0 j.toNat, S)
  | _ => False
theorem w_rg {Q : List D × Sto → Prop} {j : Int} : rgQ Q S [.pu (.int j)] ↔ rOk j = true ∧ Q (rngD 0 j.toNat, S) := Iff.rfl
theorem w_rng1 {a : Ax} {Q : List D × Sto → Prop} : W (iRange1 a e S) Q ↔ W (a e S) fun r => rgQ Q r.2 r.1 := by
  refine w_bind.trans ⟨fun h => h.imp fun r h => ?_, fun h => h.imp fun r h => ?_⟩
  · obtain ⟨ds, S1⟩ := r
    dsimp only at h ⊢
    split at h
    · rw [w_ite, w_none, w_some] at h
      rename_i j
      by_cases c : rOk j = true
      · rw [if_pos c] at h; exact ⟨c, h⟩
      · rw [if_neg c] at h; exact h.elim
    · exact (w_none.mp h).elim
  · obtain ⟨ds, S1⟩ := r
    dsimp only at h ⊢
    unfold rgQ at h
    split at h
    · try dsimp only
      rw [if_pos h.1]; exact ⟨_, rfl, h.2⟩
    · exact h.elim
end
section
variable {e : Envi} {S : Sto} {G : Gx}
/-! ### slices, displays, comprehensions -/
theorem w_sl {a : Ex} {lo hi : Ox} {Q : D × Sto → Prop} : W (xSl a lo hi e S) Q ↔ W (a e S) fun r => W (lo e r.2) fun l => W (hi e l.2) fun h => W (gSl r.1 l.1 h.1 h.2) Q := by
  show W ((a e S).bind fun r => (lo e r.2).bind fun l => (hi e l.2).bind fun h => gSl r.1 l.1 h.1 h.2) Q ↔ _
  rw [w_bind]
  refine ⟨fun h => h.imp fun r h => ?_, fun h => h.imp fun r h => ?_⟩
  · exact (w_bind.mp h).imp fun l h => w_bind.mp h
  · exact w_bind.mpr (h.imp fun l h => w_bind.mpr h)
theorem w_oN {Q : Option Int × Sto → Prop} : W (oNone e S) Q ↔ Q (none, S) := w_some
def intQ (Q : Int → Sto → Prop) (S : Sto) : D → Prop
  | .pu (.int i) => Q i S
  | _ => False
theorem w_iQ {Q : Int → Sto → Prop} {i : Int} : intQ Q S (.pu (.int i)) ↔ Q i S := Iff.rfl
theorem w_oS {x : Ex} {Q : Option Int × Sto → Prop} : W (oSome x e S) Q ↔ W (x e S) fun r => intQ (fun i S => Q (some i, S)) r.2 r.1 := by
  refine w_bind.trans ⟨fun h => h.imp fun r h => ?_, fun h => h.imp fun r h => ?_⟩
  · obtain ⟨d, S1⟩ := r
    dsimp only at h ⊢
    split at h
    · obtain ⟨_, k1, k2⟩ := h; cases k1; exact k2
    · obtain ⟨_, k1, _⟩ := h; cases k1
  · obtain ⟨d, S1⟩ := r
    dsimp only at h ⊢
    unfold intQ at h
    split at h
    · exact ⟨_, rfl, h⟩
    · exact h.elim
theorem cutL_map {α β : Type} (f : α → β) (xs : List α) (lo hi : Option Int) : cutL (xs.map f) lo hi = (cutL xs lo hi).map f := by
  unfold cutL
  rw [List.length_map, List.map_take, List.map_drop]
theorem w_gSlL {xs : List P} {lo hi : Option Int} {Q : D × Sto → Prop} : W (gSl (.pu (.list xs)) lo hi S) Q ↔ Q (.pu (.list (cutL xs lo hi)), S) := by
  show W ((some (false, xs.map D.pu)).bind fun q : Bool × List D => _) Q ↔ _
  show W ((pusOf (cutL (xs.map D.pu) lo hi)).bind fun ps => some (D.pu (.list ps), S)) Q ↔ _
  rw [cutL_map, pus_map]
  exact w_some
theorem w_gSlB {i : Nat} {xs : List P} {lo hi : Option Int} {Q : D × Sto → Prop} : W (gSl (.bo i (.lst xs)) lo hi S) Q ↔ Q (.pu (.list (cutL xs lo hi)), S) := by
  show W ((pusOf (cutL (xs.map D.pu) lo hi)).bind fun ps => some (D.pu (.list ps), S)) Q ↔ _
  rw [cutL_map, pus_map]
  exact w_some
theorem wrD_ints (ns : List Int) : (ns.map PyData.int).map wrD = (ns.map PyData.int).map D.pu := by
  rw [List.map_map, List.map_map]
  rfl
theorem w_gSlW {ns : List Int} {lo hi : Option Int} {Q : D × Sto → Prop} : W (gSl (.wr (.list (ns.map .int))) lo hi S) Q ↔ Q (.pu (.list (cutL (ns.map .int) lo hi)), S) := by
  show W ((pusOf (cutL ((ns.map PyData.int).map wrD) lo hi)).bind fun ps => some (D.pu (.list ps), S)) Q ↔ _
  rw [wrD_ints, cutL_map, pus_map]
  exact w_some
theorem w_disp {ks : List Key} {xa : Ax} {Q : D × Sto → Prop} : W (xDisp ks xa e S) Q ↔ W (xa e S) fun r => (noBo r.1 && decide (ks.length ≤ 15)) = true ∧ Q (.rf r.2.length, r.2 ++ [.dct (dmerge [] (List.zip (ks.map keyP) r.1))]) := by
  refine w_bind.trans ⟨fun h => h.imp fun r h => ?_, fun h => h.imp fun r h => ?_⟩
  · by_cases c : (noBo r.1 && decide (ks.length ≤ 15)) = true
    · rw [if_pos c] at h; exact ⟨c, w_some.mp h⟩
    · rw [if_neg c] at h; exact (w_none.mp h).elim
  · rw [if_pos h.1]; exact w_some.mpr h.2
theorem w_lc {it : Ix} {g : Gt} {t : Tx} {x : Ex} {vs : List Nat} {Q : D × Sto → Prop} : W (xLc it g t x vs e S) Q ↔ W (it e S) fun r => W (compD g t x (wipeE e vs) r.1 r.2 []) fun q => Q (.pu (.list q.1), q.2) := by
  refine w_bind.trans ⟨fun h => h.imp fun r h => ?_, fun h => h.imp fun r h => ?_⟩
  · exact (w_bind.mp h).imp fun q h => w_some.mp h
  · exact w_bind.mpr (h.imp fun q h => w_some.mpr h)
theorem w_setLc {i : Nat} {it : Ix} {g : Gt} {t : Tx} {x : Ex} {vs : List Nat} {Q : Out → Prop} : W (sSetLc i it g t x vs e S) Q ↔ W (it e S) fun r => W (compD g t x (wipeE e vs) r.1 r.2 []) fun q => Q (.nx (e.set i (some (.ow (.lst q.1)))) q.2) := by
  refine w_bind.trans ⟨fun h => h.imp fun r h => ?_, fun h => h.imp fun r h => ?_⟩
  · exact (w_bind.mp h).imp fun q h => w_some.mp h
  · exact w_bind.mpr (h.imp fun q h => w_some.mpr h)
def puQ (Q : P → Sto → Prop) (S : Sto) : D → Prop
  | .pu p => Q p S
  | _ => False
theorem w_puQ {Q : P → Sto → Prop} {p : P} : puQ Q S (.pu p) ↔ Q p S := Iff.rfl
section
variable {g : Gt} {t : Tx} {x : Ex} {acc : List P}
theorem comp_nil {Q : List P × Sto → Prop} : W (compD g t x e [] S acc) Q ↔ Q (acc, S) := w_some
theorem comp_cons {d : D} {ds : List D} {Q : List P × Sto → Prop} : W (compD g t x e (d :: ds) S acc) Q ↔ W (g d e S) fun q => W (t q.1 q.2) fun b => if b.1 = true then W (x q.1 b.2) fun r => puQ (fun p S => acc.length < lim ∧ W (compD g t x e ds S (acc ++ [p])) Q) r.2 r.1 else W (compD g t x e ds b.2 acc) Q := by
  rw [compD]
  refine w_bind.trans ⟨fun h => h.imp fun q h => ?_, fun h => h.imp fun q h => ?_⟩
  · refine (w_bind.mp h).imp fun b h => ?_
    by_cases c : b.1 = true
    · rw [if_pos c] at h ⊢
      refine (w_bind.mp h).imp fun r h => ?_
      obtain ⟨d, S1⟩ := r
      cases d with
      | pu p =>
        dsimp only at h
        by_cases c2 : acc.length < lim
        · rw [if_pos c2] at h; exact ⟨c2, h⟩
        · rw [if_neg c2] at h; exact (w_none.mp h).elim
      | _ => exact (w_none.mp h).elim
    · rw [if_neg c] at h ⊢
      exact h
  · refine w_bind.mpr (h.imp fun b h => ?_)
    by_cases c : b.1 = true
    · rw [if_pos c] at h ⊢
      refine w_bind.mpr (h.imp fun r h => ?_)
      obtain ⟨d, S1⟩ := r
      cases d with
      | pu p =>
        dsimp only
        rw [if_pos h.1]
        exact h.2
      | _ => exact h.elim
    · rw [if_neg c] at h ⊢
      exact h
/-- a comprehension of data: by a list function -/
theorem comp_map {f : D → Option P} : ∀ (ds : List D) (acc : List P), (∀ d ∈ ds, ∀ Q : P → Sto → Prop, (∀ p, f d = some p → Q p S) → (f d = none → False) → W (g d e S) fun q => W (t q.1 q.2) fun b => b.1 = true ∧ W (x q.1 b.2) fun r => puQ Q r.2 r.1) → acc.length + ds.length ≤ lim →
    ∀ (ps : List P) (Q : List P × Sto → Prop), ds.map f = ps.map some → Q (acc ++ ps, S) → W (compD g t x e ds S acc) Q
  | [], acc, _, _, ps, Q, hm, q => by
    cases ps with
    | nil => rw [List.append_nil] at q; exact comp_nil.mpr q
    | cons p ps => cases hm
  | d :: ds, acc, st, hl, ps, Q, hm, q => by
    cases ps with
    | nil => cases hm
    | cons p ps =>
      rw [List.map_cons, List.map_cons] at hm
      injection hm with h1 h2
      rw [List.length_cons] at hl
      rw [comp_cons]
      refine (st d List.mem_cons_self (fun p' S' => acc.length < lim ∧ W (compD g t x e ds S' (acc ++ [p'])) Q) (fun p' hp => ?_) (fun z => by rw [h1] at z; cases z)).imp fun q' h => h.imp fun b h => by rw [if_pos h.1]; exact h.2
      rw [h1] at hp
      cases hp
      refine ⟨by omega, comp_map ds (acc ++ [p]) (fun d hd => st d (List.mem_cons_of_mem _ hd)) (by rw [List.length_append, List.length_singleton]; omega) ps Q h2 (by rw [List.append_assoc]; exact q)⟩
end
theorem w_yes {Q : Bool × Sto → Prop} : W (tYesX e S) Q ↔ Q (true, S) := w_some
theorem w_itN {x : Ex} {Q : List D × Sto → Prop} : W (iSeq x e S) Q ↔ W (x e S) fun r => W (itemsD r.1) fun q => Q (q.2, r.2) := w_bind.trans (by simp only [w_bind, w_some])
theorem w_imL {xs : List P} {Q : Bool × List D → Prop} : W (itemsD (.pu (.list xs))) Q ↔ Q (false, xs.map .pu) := w_some
theorem w_imT {xs : List P} {Q : Bool × List D → Prop} : W (itemsD (.pu (.tuple xs))) Q ↔ Q (true, xs.map .pu) := w_some
theorem w_imWL {xs : List P} {Q : Bool × List D → Prop} : W (itemsD (.wr (.list xs))) Q ↔ Q (false, xs.map wrD) := w_some
theorem w_imWT {xs : List P} {Q : Bool × List D → Prop} : W (itemsD (.wr (.tuple xs))) Q ↔ Q (true, xs.map wrD) := w_some
def zpQ (Q : List D × Sto → Prop) (S : Sto) : List D → Prop
  | [.pu (.tuple xs), .pu (.tuple ys)] => Q (zipD xs ys, S)
  | [.pu (.list xs), .pu (.list ys)] => Q (zipD xs ys, S)
  | _ => False
theorem w_zqT {Q : List D × Sto → Prop} {xs ys : List P} : zpQ Q S [.pu (.tuple xs), .pu (.tuple ys)] ↔ Q (zipD xs ys, S) := Iff.rfl
theorem w_zqL {Q : List D × Sto → Prop} {xs ys : List P} : zpQ Q S [.pu (.list xs), .pu (.list ys)] ↔ Q (zipD xs ys, S) := Iff.rfl
theorem zip_of {a : Ax} {Q : List D × Sto → Prop} (h : W (a e S) fun r => zpQ Q r.2 r.1) : W (iZipX a e S) Q := by
  refine w_bind.mpr (h.imp fun r h => ?_)
  obtain ⟨ds, S1⟩ := r
  dsimp only at h ⊢
  unfold zpQ at h
  split at h
  · dsimp only [itemsD]
    rw [if_pos rfl, pus_map, Option.bind_some, pus_map, Option.bind_some]
    exact ⟨_, rfl, h⟩
  · dsimp only [itemsD]
    rw [if_pos rfl, pus_map, Option.bind_some, pus_map, Option.bind_some]
    exact ⟨_, rfl, h⟩
  · exact h.elim
theorem w_bls {g : List Bool → Bool} {xs : List P} {Q : D × Sto → Prop} : W (gBls g [.pu (.list xs)] S) Q ↔ W (blsOf (xs.map D.pu)) fun bs => Q (.pu (.bool (g bs)), S) := by
  show W ((blsOf (xs.map D.pu)).bind fun is => some (D.pu (.bool (g is)), S)) Q ↔ _
  exact w_bind.trans (by simp only [w_some])
theorem bls_map : ∀ bs : List Bool, blsOf ((bs.map PyData.bool).map D.pu) = some bs
  | [] => rfl
  | b :: bs => by
    show (blsOf ((bs.map PyData.bool).map D.pu)).bind _ = _
    rw [bls_map bs]
    rfl
theorem ints_map : ∀ is : List Int, intsOf ((is.map PyData.int).map D.pu) = some is
  | [] => rfl
  | i :: is => by
    show (intsOf ((is.map PyData.int).map D.pu)).bind _ = _
    rw [ints_map is]
    rfl
theorem w_tyN {Q : Ty → Prop} : W (tyD (.pu .none) S) Q ↔ Q .non := w_some
theorem w_tyB {b : Bool} {Q : Ty → Prop} : W (tyD (.pu (.bool b)) S) Q ↔ Q .bool := w_some
theorem w_tyI {i : Int} {Q : Ty → Prop} : W (tyD (.pu (.int i)) S) Q ↔ Q .int := w_some
theorem w_tyS {x : Str} {Q : Ty → Prop} : W (tyD (.pu (.str x)) S) Q ↔ Q .str := w_some
theorem w_tyL {xs : List P} {Q : Ty → Prop} : W (tyD (.pu (.list xs)) S) Q ↔ Q .list := w_some
theorem w_tyT {xs : List P} {Q : Ty → Prop} : W (tyD (.pu (.tuple xs)) S) Q ↔ Q .tuple := w_some
theorem w_tyD {xs : List (P × P)} {Q : Ty → Prop} : W (tyD (.pu (.dict xs)) S) Q ↔ Q .dict := w_some
theorem w_isNN {n : Bool} {Q : D × Sto → Prop} : W (gIsN n (.pu .none) (.pu .none) S) Q ↔ Q (.pu (.bool (!n)), S) := w_some
theorem w_isNI {n : Bool} {i : Int} {Q : D × Sto → Prop} : W (gIsN n (.pu (.int i)) (.pu .none) S) Q ↔ Q (.pu (.bool n), S) := w_some
theorem w_isNB {n : Bool} {i : Bool} {Q : D × Sto → Prop} : W (gIsN n (.pu (.bool i)) (.pu .none) S) Q ↔ Q (.pu (.bool n), S) := w_some
theorem w_isNS {n : Bool} {i : Str} {Q : D × Sto → Prop} : W (gIsN n (.pu (.str i)) (.pu .none) S) Q ↔ Q (.pu (.bool n), S) := w_some
theorem w_isNT {n : Bool} {i : List P} {Q : D × Sto → Prop} : W (gIsN n (.pu (.tuple i)) (.pu .none) S) Q ↔ Q (.pu (.bool n), S) := w_some
theorem w_isNL {n : Bool} {i : List P} {Q : D × Sto → Prop} : W (gIsN n (.pu (.list i)) (.pu .none) S) Q ↔ Q (.pu (.bool n), S) := w_some
theorem eqR {n : Bool} {k : Nat} {ps : List P} {b : P} {Q : D × Sto → Prop} (h : S[k]? = some (.lst (ps.map D.pu))) : W (gEq n (.rf k) (.pu b) S) Q ↔ (shp 9 (.list ps) && shp 9 b) = true ∧ Q (.pu (.bool (if n = true then !PyData.eqv (.list ps) b else PyData.eqv (.list ps) b)), S) := by
  have e1 : datS (.rf k) S = some (.list ps) := by
    unfold datS
    dsimp only
    rw [h]
    dsimp only
    rw [pus_map]
    rfl
  unfold gEq
  rw [e1]
  show W (if (shp 9 (.list ps) && shp 9 b) = true then _ else none) Q ↔ _
  rw [w_ite, w_some, w_none]
  by_cases c : (shp 9 (.list ps) && shp 9 b) = true
  · rw [if_pos c]; exact ⟨fun h => ⟨c, h⟩, fun h => h.2⟩
  · rw [if_neg c]; exact ⟨fun h => h.elim, fun h => (c h.1).elim⟩
end
theorem w_evB {a b : Bool} : PyData.eqv (.bool a) (.bool b) = (a == b) := by simp [PyData.eqv]
theorem w_evI {a b : Int} : PyData.eqv (.int a) (.int b) = decide (a = b) := by simp only [PyData.eqv]; rfl
theorem w_shI {i : Int} : shp 9 (.int i) = true := rfl
theorem w_shB {i : Bool} : shp 9 (.bool i) = true := rfl
theorem w_shN : shp 9 .none = true := rfl
theorem w_wrI {i : Int} : wrD (.int i) = .pu (.int i) := rfl
theorem w_wrT {xs : List P} : wrD (.tuple xs) = .wr (.tuple xs) := rfl
theorem w_wrL {xs : List P} : wrD (.list xs) = .wr (.list xs) := rfl
theorem w_at0 {α : Type} {a : α} {r : List α} {Q : α → Prop} : W (atI (a :: r) 0) Q ↔ Q a := by
  have e : atI (a :: r) 0 = some a := by
    unfold atI ixN
    rw [if_pos (by decide), if_pos (by rw [List.length_cons]; omega)]
    rfl
  rw [e, w_some]
theorem w_at1 {α : Type} {a b : α} {r : List α} {Q : α → Prop} : W (atI (a :: b :: r) 1) Q ↔ Q b := by
  have e : atI (a :: b :: r) 1 = some b := by
    unfold atI ixN
    rw [if_pos (by decide), if_pos (by rw [List.length_cons, List.length_cons]; omega)]
    rfl
  rw [e, w_some]
theorem w_at2 {α : Type} {a b c : α} {r : List α} {Q : α → Prop} : W (atI (a :: b :: c :: r) 2) Q ↔ Q c := by
  have e : atI (a :: b :: c :: r) 2 = some c := by
    unfold atI ixN
    rw [if_pos (by decide), if_pos (by rw [List.length_cons, List.length_cons, List.length_cons]; omega)]
    rfl
  rw [e, w_some]
section
variable {e : Envi} {S : Sto} {G : Gx}
/-! ### new things -/
theorem w_nmN {i : Nat} {c : OC} {Q : Envi × Sto → Prop} : W (gNm i (.nw c) e S) Q ↔ i < e.length ∧ Q (e.set i (some (.ow c)), S) := by
  show W (if i < e.length then some (e.set i (some (.ow c)), S) else none) Q ↔ _
  rw [w_ite, w_some, w_none]
  by_cases c : i < e.length
  · rw [if_pos c]; exact ⟨fun h => ⟨c, h⟩, fun h => h.2⟩
  · rw [if_neg c]; exact ⟨fun h => h.elim, fun h => (c h.1).elim⟩
theorem w_listN {d : D} {Q : D × Sto → Prop} : W (gListN [d] S) Q ↔ W (seqD d S) fun q => W (pusOf q.2) fun ps => Q (.nw (.lst ps), S) := by
  show W ((seqD d S).bind fun q => (pusOf q.2).bind fun ps => some (D.nw (.lst ps), S)) Q ↔ _
  rw [w_bind]
  exact ⟨fun h => h.imp fun q h => (w_bind.mp h).imp fun p h => w_some.mp h, fun h => h.imp fun q h => w_bind.mpr (h.imp fun p h => w_some.mpr h)⟩
theorem w_limR {n : Nat} {r : D × Sto} {Q : D × Sto → Prop} : W (if n ≤ lim then some r else none) Q ↔ n ≤ lim ∧ Q r := w_limQ
theorem w_lstN {ds : List D} {Q : D × Sto → Prop} : W (gLstN ds S) Q ↔ W (pusOf ds) fun ps => ps.length ≤ lim ∧ Q (.nw (.lst ps), S) := by
  refine w_bind.trans ⟨fun h => h.imp fun q h => w_limQ.mp h, fun h => h.imp fun q h => w_limQ.mpr h⟩
theorem w_seN {xs : List P} {Q : Bool × List D → Prop} : W (seqD (.nw (.lst xs)) S) Q ↔ Q (false, xs.map .pu) := w_some
theorem w_lsL {xs : List P} {Q : List D → Prop} : W (lstD (.pu (.list xs)) S) Q ↔ Q (xs.map .pu) := w_some
theorem w_lsB {i : Nat} {xs : List P} {Q : List D → Prop} : W (lstD (.bo i (.lst xs)) S) Q ↔ Q (xs.map .pu) := w_some
theorem w_lsN {xs : List P} {Q : List D → Prop} : W (lstD (.nw (.lst xs)) S) Q ↔ Q (xs.map .pu) := w_some
theorem w_catN {a b : D} {Q : D × Sto → Prop} : W (gCatN a b S) Q ↔ W (lstD a S) fun xs => W (lstD b S) fun ys => W (pusOf xs) fun ps => W (pusOf ys) fun qs => ps.length + qs.length ≤ lim ∧ Q (.nw (.lst (ps ++ qs)), S) := by
  unfold gCatN
  rw [w_bind]
  refine ⟨fun h => h.imp fun q h => (w_bind.mp h).imp fun p h => (w_bind.mp h).imp fun p h => (w_bind.mp h).imp fun p h => w_limQ.mp h, fun h => h.imp fun q h => w_bind.mpr (h.imp fun p h => w_bind.mpr (h.imp fun p h => w_bind.mpr (h.imp fun p h => w_limQ.mpr h)))⟩
theorem w_addL {xs ys : List P} {Q : D × Sto → Prop} : W (gAdd (.pu (.list xs)) (.pu (.list ys)) S) Q ↔ xs.length + ys.length ≤ lim ∧ Q (.pu (.list (xs ++ ys)), S) := by
  show W ((lstD (.pu (.list xs)) S).bind fun xs => (lstD (.pu (.list ys)) S).bind fun ys => (pusOf xs).bind fun ps => (pusOf ys).bind fun qs => if ps.length + qs.length ≤ lim then some (D.pu (.list (ps ++ qs)), S) else none) Q ↔ _
  rw [w_bind, w_lsL, w_bind, w_lsL, pus_map, Option.bind_some, pus_map, Option.bind_some, w_limQ]
theorem w_addT {xs ys : List P} {Q : D × Sto → Prop} : W (gAdd (.pu (.tuple xs)) (.pu (.tuple ys)) S) Q ↔ (xs ≠ [] ∧ ys ≠ [] ∧ xs.length + ys.length ≤ lim) ∧ Q (.pu (.tuple (xs ++ ys)), S) := by
  show W (if xs ≠ [] ∧ ys ≠ [] ∧ xs.length + ys.length ≤ lim then _ else none) Q ↔ _
  rw [w_ite, w_some, w_none]
  by_cases c : xs ≠ [] ∧ ys ≠ [] ∧ xs.length + ys.length ≤ lim
  · rw [if_pos c]; exact ⟨fun h => ⟨c, h⟩, fun h => h.2⟩
  · rw [if_neg c]; exact ⟨fun h => h.elim, fun h => (c h.1).elim⟩
theorem w_slN {a : Ex} {lo hi : Ox} {Q : D × Sto → Prop} : W (xSlN a lo hi e S) Q ↔ W (a e S) fun r => W (lo e r.2) fun l => W (hi e l.2) fun h => W (gSlN r.1 l.1 h.1 h.2) Q := by
  show W ((a e S).bind fun r => (lo e r.2).bind fun l => (hi e l.2).bind fun h => gSlN r.1 l.1 h.1 h.2) Q ↔ _
  rw [w_bind]
  refine ⟨fun h => h.imp fun r h => ?_, fun h => h.imp fun r h => ?_⟩
  · exact (w_bind.mp h).imp fun l h => w_bind.mp h
  · exact w_bind.mpr (h.imp fun l h => w_bind.mpr h)
theorem w_gSlN {d : D} {lo hi : Option Int} {Q : D × Sto → Prop} : W (gSlN d lo hi S) Q ↔ W (lstD d S) fun q => W (pusOf (cutL q lo hi)) fun ps => Q (.nw (.lst ps), S) := by
  refine w_bind.trans ⟨fun h => h.imp fun q h => (w_bind.mp h).imp fun p h => w_some.mp h, fun h => h.imp fun q h => w_bind.mpr (h.imp fun p h => w_some.mpr h)⟩
theorem w_lcN {it : Ix} {g : Gt} {t : Tx} {x : Ex} {vs : List Nat} {Q : D × Sto → Prop} : W (xLcN it g t x vs e S) Q ↔ W (it e S) fun r => W (compD g t x (wipeE e vs) r.1 r.2 []) fun q => Q (.nw (.lst q.1), q.2) := by
  refine w_bind.trans ⟨fun h => h.imp fun r h => ?_, fun h => h.imp fun r h => ?_⟩
  · exact (w_bind.mp h).imp fun q h => w_some.mp h
  · exact w_bind.mpr (h.imp fun q h => w_some.mpr h)
def rsN : Rs → D
  | .inl p => .pu p
  | .inr c => .nw c
def rsZ : Rs → D
  | .inl p => .pu p
  | .inr c => .pu (frzP c)
theorem w_rsN1 {p : P} : rsN (.inl p) = .pu p := rfl
theorem w_rsN2 {c : OC} : rsN (.inr c) = .nw c := rfl
theorem w_rsZ1 {p : P} : rsZ (.inl p) = .pu p := rfl
theorem w_rsZ2 {xs : List P} : rsZ (.inr (.lst xs)) = .pu (.list xs) := rfl
theorem w_callO {m : List P → Option Rs} {ds : List D} {Q : D × Sto → Prop} : W (gCallO m ds S) Q ↔ W (pusOf ds) fun ps => W (m ps) fun r => Q (rsN r, S) := by
  refine w_bind.trans ⟨fun h => h.imp fun q h => (w_bind.mp h).imp fun p h => ?_, fun h => h.imp fun q h => w_bind.mpr (h.imp fun p h => ?_)⟩
  · cases p <;> exact w_some.mp h
  · cases p <;> exact w_some.mpr h
theorem w_callZ {m : List P → Option Rs} {ds : List D} {Q : D × Sto → Prop} : W (gCallZ m ds S) Q ↔ W (pusOf ds) fun ps => W (m ps) fun r => Q (rsZ r, S) := by
  refine w_bind.trans ⟨fun h => h.imp fun q h => (w_bind.mp h).imp fun p h => ?_, fun h => h.imp fun q h => w_bind.mpr (h.imp fun p h => ?_)⟩
  · cases p <;> exact w_some.mp h
  · cases p <;> exact w_some.mpr h
def endO (Q : Rs → Prop) : Out → Prop
  | .nx _ _ => Q (.inl .none)
  | .rt (.pu p) _ _ => Q (.inl p)
  | .rt (.bo _ c) _ _ => Q (.inr c)
  | .rt (.nw c) _ _ => Q (.inr c)
  | _ => False
theorem w_eO1 {Q : Rs → Prop} : endO Q (.nx e S) ↔ Q (.inl .none) := Iff.rfl
theorem w_eO2 {Q : Rs → Prop} {p : P} : endO Q (.rt (.pu p) e S) ↔ Q (.inl p) := Iff.rfl
theorem w_eO3 {Q : Rs → Prop} {i : Nat} {c : OC} : endO Q (.rt (.bo i c) e S) ↔ Q (.inr c) := Iff.rfl
theorem w_eO4 {Q : Rs → Prop} {c : OC} : endO Q (.rt (.nw c) e S) ↔ Q (.inr c) := Iff.rfl
theorem w_runO {n l : Nat} {b : Sx} {ps : List P} {Q : Rs → Prop} : W (runO n l b ps) Q ↔ (ps.length = n ∧ n ≤ l) ∧ W (b (env0 l (ps.map .pu)) []) (endO Q) := by
  unfold runO
  rw [w_ite, w_none]
  by_cases c : ps.length = n ∧ n ≤ l
  · rw [if_pos c, w_bind]
    refine ⟨fun h => ⟨c, h.imp fun o h => ?_⟩, fun h => h.2.imp fun o h => ?_⟩
    · cases o with
      | nx e S => (obtain ⟨_, k1, k2⟩ := h; cases k1; exact k2)
      | rt d e S =>
        cases d with
        | pu p => (obtain ⟨_, k1, k2⟩ := h; cases k1; exact k2)
        | bo i c => (obtain ⟨_, k1, k2⟩ := h; cases k1; exact k2)
        | nw c => (obtain ⟨_, k1, k2⟩ := h; cases k1; exact k2)
        | _ => (obtain ⟨_, k1, _⟩ := h; cases k1)
      | _ => (obtain ⟨_, k1, _⟩ := h; cases k1)
    · cases o with
      | nx e S => exact ⟨_, rfl, h⟩
      | rt d e S =>
        cases d with
        | pu p => exact ⟨_, rfl, h⟩
        | bo i c => exact ⟨_, rfl, h⟩
        | nw c => exact ⟨_, rfl, h⟩
        | _ => exact h.elim
      | _ => exact h.elim
  · rw [if_neg c]; exact ⟨fun h => h.elim, fun h => (c h.1).elim⟩
theorem tf_own {i : Nat} {c : OC} {x : Ex} {Q : D × Sto → Prop} (h : e[i]? = some (some (.ow c))) (hS : flatS S = true) (hx : W (x (e.set i (some (.val (.pu (frzP c))))) S) fun r => ∃ p, r = (.pu p, S) ∧ scal p = true ∧ Q r) : W (xTf i x e S) Q := by
  unfold xTf
  rw [h]
  refine w_bind.mpr (hx.imp fun r hr => ?_)
  obtain ⟨p, rfl, h1, h2⟩ := hr
  dsimp only
  rw [if_pos ⟨by rw [h1, hS]; rfl, rfl⟩]
  exact w_some.mpr h2
theorem tf_val {i : Nat} {d : D} {x : Ex} {Q : D × Sto → Prop} (h : e[i]? = some (some (.val d))) : W (xTf i x e S) Q ↔ W (x e S) Q := by
  unfold xTf
  rw [h]
/-! ### append, op=, pairs, while, more -/
theorem w_app {a x : Ex} {Q : Out → Prop} : W (sApp a x e S) Q ↔ W (a e S) fun r => W (lstD r.1 r.2) fun _ => W (x e r.2) fun q => noBo [q.1] = true ∧ W (putL r.1 (fun ds => some (ds ++ [q.1])) e q.2) fun w => Q (.nx w.1 w.2) := by
  refine w_bind.trans ⟨fun h => h.imp fun q h => (w_bind.mp h).imp fun p h => (w_bind.mp h).imp fun p h => ?_, fun h => h.imp fun q h => w_bind.mpr (h.imp fun p h => w_bind.mpr (h.imp fun p h => ?_))⟩
  · by_cases c : noBo [p.1] = true
    · rw [if_pos c] at h; exact ⟨c, (w_bind.mp h).imp fun _ h => w_some.mp h⟩
    · rw [if_neg c] at h; exact (w_none.mp h).elim
  · rw [if_pos h.1]; exact w_bind.mpr (h.2.imp fun _ h => w_some.mpr h)
def plE (i : Nat) (f : List D → Option (List D)) (e : Envi) (S : Sto) : Option (Option Sl) → Option (Envi × Sto)
  | some (some (.ow (.lst xs))) => (f (xs.map .pu)).bind fun ds => (pusOf ds).bind fun ps => if ps.length ≤ lim then some (e.set i (some (.ow (.lst ps))), S) else none
  | _ => none
theorem w_putB {i : Nat} {ys : List P} {f : List D → Option (List D)} {Q : Envi × Sto → Prop} : W (putL (.bo i (.lst ys)) f e S) Q ↔ W (plE i f e S e[i]?) Q := by
  have h : putL (.bo i (.lst ys)) f e S = plE i f e S e[i]? := by
    unfold putL plE
    rfl
  rw [h]
theorem w_plA {i : Nat} {xs : List P} {p : P} {Q : Envi × Sto → Prop} : W (plE i (fun ds => some (ds ++ [.pu p])) e S (some (some (.ow (.lst xs))))) Q ↔ xs.length + 1 ≤ lim ∧ Q (e.set i (some (.ow (.lst (xs ++ [p])))), S) := by
  show W ((some (xs.map D.pu ++ [D.pu p])).bind fun ds => (pusOf ds).bind fun ps => if ps.length ≤ lim then some (e.set i (some (.ow (.lst ps))), S) else none) Q ↔ _
  rw [Option.bind_some, show xs.map D.pu ++ [D.pu p] = (xs ++ [p]).map D.pu by rw [List.map_append]; rfl, pus_map, Option.bind_some, List.length_append, List.length_singleton]
  rw [w_ite, w_some, w_none]
  by_cases c : xs.length + 1 ≤ lim
  · rw [if_pos c]; exact ⟨fun h => ⟨c, h⟩, fun h => h.2⟩
  · rw [if_neg c]; exact ⟨fun h => h.elim, fun h => (c h.1).elim⟩
theorem w_aug {i : Nat} {g : D → D → Sto → Option (D × Sto)} {x : Ex} {Q : Out → Prop} : W (sAug i g x e S) Q ↔ W (xVar i e S) fun r => W (x e r.2) fun q => W (g r.1 q.1 q.2) fun z => W (gNm i z.1 e z.2) fun w => Q (.nx w.1 w.2) := by
  refine w_bind.trans ⟨fun h => h.imp fun q h => (w_bind.mp h).imp fun p h => (w_bind.mp h).imp fun p h => (w_bind.mp h).imp fun _ h => w_some.mp h, fun h => h.imp fun q h => w_bind.mpr (h.imp fun p h => w_bind.mpr (h.imp fun p h => w_bind.mpr (h.imp fun _ h => w_some.mpr h)))⟩
def parQ (i j : Nat) (e : Envi) (Q : Out → Prop) (S : Sto) : List D → Prop
  | [d, d'] => noBo [d, d'] = true ∧ Q (.nx ((e.set i (some (.val d))).set j (some (.val d'))) S)
  | _ => False
theorem w_pq {i j : Nat} {Q : Out → Prop} {d d' : D} : parQ i j e Q S [d, d'] ↔ noBo [d, d'] = true ∧ Q (.nx ((e.set i (some (.val d))).set j (some (.val d'))) S) := Iff.rfl
theorem w_par {i j : Nat} {a : Ax} {Q : Out → Prop} : W (sPar i j a e S) Q ↔ W (a e S) fun r => parQ i j e Q r.2 r.1 := by
  refine w_bind.trans ⟨fun h => h.imp fun r h => ?_, fun h => h.imp fun r h => ?_⟩
  · obtain ⟨ds, S1⟩ := r
    match ds, h with
    | [d, d'], h =>
      dsimp only at h
      by_cases c : noBo [d, d'] = true
      · rw [if_pos c] at h; exact ⟨c, w_some.mp h⟩
      · rw [if_neg c] at h; exact (w_none.mp h).elim
    | [], h => exact (w_none.mp h).elim
    | [_], h => exact (w_none.mp h).elim
    | _ :: _ :: _ :: _, h => exact (w_none.mp h).elim
  · obtain ⟨ds, S1⟩ := r
    match ds, h with
    | [d, d'], h =>
      dsimp only
      rw [if_pos h.1]; exact w_some.mpr h.2
/-- turns that bring a measure down -/
theorem while_inv {t : Tx} {b : Sx} {Q : Out → Prop} (I : Nat → Envi → Sto → Prop) (st : ∀ k e S, I k e S → W (t e S) fun r => if r.1 = true then W (b e r.2) (loopQ (fun e S => ∃ j, j < k ∧ I j e S) Q) else Q (.nx e r.2)) (k : Nat) (e : Envi) (S : Sto) (h : I k e S) : W (sWhile t b e S) Q := by
  suffices hh : ∀ k e S, I k e S → ∃ n, W (whN t b n e S) Q by
    obtain ⟨n, o, h1, h2⟩ := hh k e S h
    exact ⟨o, sWhile_of h1, h2⟩
  intro k
  induction k using Nat.strongRecOn with
  | ind k ih =>
    intro e S h
    obtain ⟨⟨c, S1⟩, h1, h2⟩ := st k e S h
    dsimp only at h2
    cases c with
    | false =>
      rw [if_neg Bool.false_ne_true] at h2
      refine ⟨1, .nx e S1, ?_, h2⟩
      show (t e S).bind _ = _
      rw [h1]
      rfl
    | true =>
      rw [if_pos rfl] at h2
      obtain ⟨o, h3, h4⟩ := h2
      have go : ∀ {e' : Envi} {S' : Sto}, (∃ j, j < k ∧ I j e' S') → (∀ n, whN t b (n + 1) e S = whN t b n e' S') → ∃ n, W (whN t b n e S) Q := fun {e' S'} hj hn => by
        obtain ⟨j, hj, hI⟩ := hj
        obtain ⟨n, hw⟩ := ih j hj _ _ hI
        exact ⟨n + 1, by rw [hn n]; exact hw⟩
      cases o with
      | nx e' S' => exact go h4 fun n => by rw [whN, h1]; simp only [Option.bind_some, if_true, h3]
      | ct e' S' => exact go h4 fun n => by rw [whN, h1]; simp only [Option.bind_some, if_true, h3]
      | bk e' S' => exact ⟨1, .nx e' S', by rw [whN, h1]; simp only [Option.bind_some, if_true, h3], h4⟩
      | rt d e' S' => exact ⟨1, .rt d e' S', by rw [whN, h1]; simp only [Option.bind_some, if_true, h3], h4⟩
theorem w_chain {g g' : D → D → Sto → Option (D × Sto)} {a b c : Ex} {Q : D × Sto → Prop} : W (xChain g g' a b c e S) Q ↔ W (a e S) fun r => W (b e r.2) fun q => W (g r.1 q.1 q.2) fun z => boolD (fun k S => if k = true then W (c e S) fun y => W (g' q.1 y.1 y.2) Q else Q (.pu (.bool false), S)) z.2 z.1 := by
  refine w_bind.trans ⟨fun h => h.imp fun q h => (w_bind.mp h).imp fun p h => (w_bind.mp h).imp fun z h => ?_, fun h => h.imp fun q h => w_bind.mpr (h.imp fun p h => w_bind.mpr (h.imp fun z h => ?_))⟩
  · obtain ⟨d, S1⟩ := z
    cases d with
    | pu p => cases p with
      | bool k =>
        cases k with
        | true => exact w_bind.mp h
        | false => obtain ⟨_, k1, k2⟩ := h; cases k1; exact k2
      | _ => exact (w_none.mp h).elim
    | _ => exact (w_none.mp h).elim
  · obtain ⟨d, S1⟩ := z
    cases d with
    | pu p => cases p with
      | bool k =>
        cases k with
        | true => exact w_bind.mpr h
        | false => exact ⟨_, rfl, h⟩
      | _ => exact h.elim
    | _ => exact h.elim
theorem w_ints {C : List Int → Bool} {g : List Int → Int} {xs : List P} {Q : D × Sto → Prop} : W (gInts C g [.pu (.list xs)] S) Q ↔ W (intsOf (xs.map D.pu)) fun is => C is = true ∧ Q (.pu (.int (g is)), S) := by
  show W ((intsOf (xs.map D.pu)).bind fun is => if C is then some (D.pu (.int (g is)), S) else none) Q ↔ _
  refine w_bind.trans ⟨fun h => h.imp fun q h => ?_, fun h => h.imp fun q h => ?_⟩
  · by_cases c : C q = true
    · rw [if_pos c] at h; exact ⟨c, w_some.mp h⟩
    · rw [if_neg c] at h; exact (w_none.mp h).elim
  · rw [if_pos h.1]; exact w_some.mpr h.2
theorem w_inN {Q : List Int → Prop} : W (intsOf []) Q ↔ Q [] := w_some
theorem w_inC {i : Int} {ds : List D} {Q : List Int → Prop} : W (intsOf (.pu (.int i) :: ds)) Q ↔ W (intsOf ds) fun is => Q (i :: is) := by
  show W ((intsOf ds).bind fun is => some (i :: is)) Q ↔ _
  exact w_bind.trans ⟨fun h => h.imp fun q h => w_some.mp h, fun h => h.imp fun q h => w_some.mpr h⟩
theorem w_inM {is : List Int} {Q : List Int → Prop} : W (intsOf ((is.map PyData.int).map D.pu)) Q ↔ Q is := by rw [ints_map]; exact w_some
theorem w_pIntI {i : Int} {Q : P → Prop} : W (pInt (.int i)) Q ↔ Q (.int i) := w_some
theorem w_pIntB {b : Bool} {Q : P → Prop} : W (pInt (.bool b)) Q ↔ Q (.int (if b then 1 else 0)) := w_some
theorem w_tupL {xs : List P} {Q : D × Sto → Prop} : W (gTupleA [.pu (.list xs)] S) Q ↔ Q (.pu (.tuple xs), S) := by
  show W ((seqD (.pu (.list xs)) S).bind fun q => (pusOf q.2).bind fun ps => some (D.pu (.tuple ps), S)) Q ↔ _
  rw [w_bind, w_seL, pus_map, Option.bind_some, w_some]
theorem w_tupT {xs : List P} {Q : D × Sto → Prop} : W (gTupleA [.pu (.tuple xs)] S) Q ↔ Q (.pu (.tuple xs), S) := by
  show W ((seqD (.pu (.tuple xs)) S).bind fun q => (pusOf q.2).bind fun ps => some (D.pu (.tuple ps), S)) Q ↔ _
  rw [w_bind, w_seT, pus_map, Option.bind_some, w_some]
theorem w_tupB {i : Nat} {xs : List P} {Q : D × Sto → Prop} : W (gTupleA [.bo i (.lst xs)] S) Q ↔ Q (.pu (.tuple xs), S) := by
  show W ((seqD (.bo i (.lst xs)) S).bind fun q => (pusOf q.2).bind fun ps => some (D.pu (.tuple ps), S)) Q ↔ _
  rw [w_bind, w_seB, pus_map, Option.bind_some, w_some]
def rg2Q (Q : List D × Sto → Prop) (S : Sto) : List D → Prop
  | [.pu (.int i), .pu (.int j)] => (rOk i && rOk j) = true ∧ Q (rngD i (j - i).toNat, S)
  | _ => False
theorem w_rg2 {Q : List D × Sto → Prop} {i j : Int} : rg2Q Q S [.pu (.int i), .pu (.int j)] ↔ (rOk i && rOk j) = true ∧ Q (rngD i (j - i).toNat, S) := Iff.rfl
theorem w_rng2 {a : Ax} {Q : List D × Sto → Prop} : W (iRange2 a e S) Q ↔ W (a e S) fun r => rg2Q Q r.2 r.1 := by
  refine w_bind.trans ⟨fun h => h.imp fun r h => ?_, fun h => h.imp fun r h => ?_⟩
  · obtain ⟨ds, S1⟩ := r
    dsimp only at h ⊢
    split at h
    · rename_i i j
      by_cases c : (rOk i && rOk j) = true
      · rw [if_pos c] at h; exact ⟨c, w_some.mp h⟩
      · rw [if_neg c] at h; exact (w_none.mp h).elim
    · exact (w_none.mp h).elim
  · obtain ⟨ds, S1⟩ := r
    dsimp only at h ⊢
    unfold rg2Q at h
    split at h
    · try dsimp only
      rw [if_pos h.1]; exact ⟨_, rfl, h.2⟩
    · exact h.elim
end
theorem w_evT {xs ys : List P} : PyData.eqv (.tuple xs) (.tuple ys) = PyData.eqvAll xs ys := by simp only [PyData.eqv]
theorem w_evL {xs ys : List P} : PyData.eqv (.list xs) (.list ys) = PyData.eqvAll xs ys := by simp only [PyData.eqv]
theorem w_evA0 : PyData.eqvAll [] [] = true := by simp only [PyData.eqvAll]
theorem w_evA1 {x y : P} {xs ys : List P} : PyData.eqvAll (x :: xs) (y :: ys) = (PyData.eqv x y && PyData.eqvAll xs ys) := by simp only [PyData.eqvAll]
/-- a comprehension over data: each item by its turn -/
theorem comp_on' {e : Envi} {S : Sto} {g : Gt} {t : Tx} {x : Ex} {α : Type} {gg hh : α → P} : ∀ (xs : List α) (acc : List P), (∀ a ∈ xs, ∀ Q : P → Sto → Prop, Q (hh a) S → W (g (.pu (gg a)) e S) fun q => W (t q.1 q.2) fun b => b.1 = true ∧ W (x q.1 b.2) fun r => puQ Q r.2 r.1) → acc.length + xs.length ≤ lim →
    ∀ Q : List P × Sto → Prop, Q (acc ++ xs.map hh, S) → W (compD g t x e ((xs.map gg).map .pu) S acc) Q
  | [], acc, _, _, Q, q => by rw [List.map_nil, List.append_nil] at q; exact comp_nil.mpr q
  | a :: xs, acc, st, hl, Q, q => by
    rw [List.length_cons] at hl
    rw [List.map_cons, List.map_cons, comp_cons]
    refine (st a List.mem_cons_self (fun p' S' => acc.length < lim ∧ W (compD g t x e ((xs.map gg).map .pu) S' (acc ++ [p'])) Q) ⟨by omega, ?_⟩).imp fun q' h => h.imp fun b h => by rw [if_pos h.1]; exact h.2
    refine comp_on' xs (acc ++ [hh a]) (fun d hd => st d (List.mem_cons_of_mem _ hd)) (by rw [List.length_append, List.length_singleton]; omega) Q ?_
    rw [List.append_assoc]
    exact q
theorem comp_on {e : Envi} {S : Sto} {g : Gt} {t : Tx} {x : Ex} {α : Type} (gg hh : α → P) (xs : List α) (st : ∀ a ∈ xs, ∀ Q : P → Sto → Prop, Q (hh a) S → W (g (.pu (gg a)) e S) fun q => W (t q.1 q.2) fun b => b.1 = true ∧ W (x q.1 b.2) fun r => puQ Q r.2 r.1) (hl : xs.length ≤ lim) {Q : List P × Sto → Prop} (q : Q (xs.map hh, S)) : W (compD g t x e ((xs.map gg).map .pu) S []) Q :=
  comp_on' xs [] st (by simpa using hl) Q q
/-- the same with a test: the items that pass -/
theorem comp_if' {e : Envi} {S : Sto} {g : Gt} {t : Tx} {x : Ex} {α : Type} {gg hh : α → P} {c : α → Bool} : ∀ (xs : List α) (acc : List P), (∀ a ∈ xs, ∀ Q : P → Sto → Prop, ∀ N : Sto → Prop, (c a = true → Q (hh a) S) → (c a = false → N S) → W (g (.pu (gg a)) e S) fun q => W (t q.1 q.2) fun b => if b.1 = true then W (x q.1 b.2) fun r => puQ Q r.2 r.1 else N b.2) → acc.length + xs.length ≤ lim →
    ∀ Q : List P × Sto → Prop, Q (acc ++ (xs.filter c).map hh, S) → W (compD g t x e ((xs.map gg).map .pu) S acc) Q
  | [], acc, _, _, Q, q => by rw [List.filter_nil, List.map_nil, List.append_nil] at q; exact comp_nil.mpr q
  | a :: xs, acc, st, hl, Q, q => by
    rw [List.length_cons] at hl
    rw [List.map_cons, List.map_cons, comp_cons]
    have rest := fun d hd => st d (List.mem_cons_of_mem a hd)
    refine st a List.mem_cons_self (fun p' S' => acc.length < lim ∧ W (compD g t x e ((xs.map gg).map .pu) S' (acc ++ [p'])) Q) (fun S' => W (compD g t x e ((xs.map gg).map .pu) S' acc) Q) (fun hc => ⟨by omega, ?_⟩) fun hc => ?_
    · refine comp_if' xs (acc ++ [hh a]) rest (by rw [List.length_append, List.length_singleton]; omega) Q ?_
      rw [List.filter_cons, if_pos hc, List.map_cons] at q
      rw [List.append_assoc]
      exact q
    · refine comp_if' xs acc rest (by omega) Q ?_
      rw [List.filter_cons, if_neg (by rw [hc]; decide)] at q
      exact q
theorem comp_if {e : Envi} {S : Sto} {g : Gt} {t : Tx} {x : Ex} {α : Type} (gg hh : α → P) (c : α → Bool) (xs : List α) (st : ∀ a ∈ xs, ∀ Q : P → Sto → Prop, ∀ N : Sto → Prop, (c a = true → Q (hh a) S) → (c a = false → N S) → W (g (.pu (gg a)) e S) fun q => W (t q.1 q.2) fun b => if b.1 = true then W (x q.1 b.2) fun r => puQ Q r.2 r.1 else N b.2) (hl : xs.length ≤ lim) {Q : List P × Sto → Prop} (q : Q ((xs.filter c).map hh, S)) : W (compD g t x e ((xs.map gg).map .pu) S []) Q :=
  comp_if' xs [] st (by simpa using hl) Q q
theorem w_tix {ds : List P} {d : P} {S : Sto} {Q : D × Sto → Prop} : W (gTIx (.wr (.tuple ds)) (.pu d) S) Q ↔ (shp 9 (.tuple ds) && shp 9 d) = true ∧ W (ds.findIdx? fun z => PyData.eqv z d) fun j => Q (.pu (.int (j : Nat)), S) := by
  show W (if (shp 9 (.tuple ds) && shp 9 d) = true then (ds.findIdx? fun z => PyData.eqv z d).map fun j => (D.pu (.int (j : Nat)), S) else none) Q ↔ _
  rw [w_ite, w_none, w_map]
  by_cases c : (shp 9 (.tuple ds) && shp 9 d) = true
  · rw [if_pos c]; exact ⟨fun h => ⟨c, h⟩, fun h => h.2⟩
  · rw [if_neg c]; exact ⟨fun h => h.elim, fun h => (c h.1).elim⟩
theorem all_tr {α : Type} (xs : List α) : (xs.map fun _ => true).all id = true := List.all_eq_true.mpr fun x hx => by
  obtain ⟨_, _, h⟩ := List.mem_map.mp hx
  rw [← h]
  rfl
theorem bls_tr {α : Type} (xs : List α) : blsOf ((xs.map fun _ => PyData.bool true).map D.pu) = some (xs.map fun _ => true) := by
  rw [show (xs.map fun _ => PyData.bool true) = (xs.map fun _ => true).map PyData.bool by rw [List.map_map]; rfl, bls_map]
/-- all([..]) of what is true at each item -/
theorem comp_all {e : Envi} {S : Sto} {g : Gt} {t : Tx} {x : Ex} (xs : List P) (st : ∀ p ∈ xs, ∀ Q : P → Sto → Prop, Q (.bool true) S → W (g (.pu p) e S) fun q => W (t q.1 q.2) fun b => b.1 = true ∧ W (x q.1 b.2) fun r => puQ Q r.2 r.1) (hl : xs.length ≤ lim) {Q : List P × Sto → Prop} (q : Q (xs.map fun _ => .bool true, S)) : W (compD g t x e (xs.map .pu) S []) Q := by
  have h := comp_on (g := g) (t := t) (x := x) (e := e) (S := S) (fun p : P => p) (fun _ => .bool true) xs st hl q
  rwa [List.map_id'] at h
section
variable {e : Envi} {S : Sto}
theorem w_a3 {p : P → P → P → Option P} {a b c : P} {Q : D × Sto → Prop} : W (a3 p [.pu a, .pu b, .pu c] S) Q ↔ W (p a b c) fun z => Q (.pu z, S) := by
  show W ((p a b c).bind fun z => some (D.pu z, S)) Q ↔ _
  exact w_bind.trans ⟨fun h => h.imp fun _ h => w_some.mp h, fun h => h.imp fun _ h => w_some.mpr h⟩
theorem w_pMax3 {i j k : Int} {Q : P → Prop} : W (pMax3 (.int i) (.int j) (.int k)) Q ↔ Q (.int (mx (mx i j) k)) := w_some
theorem w_pMin3 {i j k : Int} {Q : P → Prop} : W (pMin3 (.int i) (.int j) (.int k)) Q ↔ Q (.int (mn (mn i j) k)) := w_some
theorem w_rev {xs : List P} {Q : D × Sto → Prop} : W (gRev (.pu (.list xs)) S) Q ↔ Q (.pu (.list xs.reverse), S) := by
  show W ((pusOf (xs.map D.pu)).bind fun ps => some (D.pu (.list ps.reverse), S)) Q ↔ _
  rw [pus_map, Option.bind_some, w_some]
theorem w_revN {xs : List P} {Q : D × Sto → Prop} : W (gRevN (.pu (.list xs)) S) Q ↔ Q (.nw (.lst xs.reverse), S) := by
  show W ((pusOf (xs.map D.pu)).bind fun ps => some (D.nw (.lst ps.reverse), S)) Q ↔ _
  rw [pus_map, Option.bind_some, w_some]
theorem w_revB {i : Nat} {xs : List P} {Q : D × Sto → Prop} : W (gRev (.bo i (.lst xs)) S) Q ↔ Q (.pu (.list xs.reverse), S) := by
  show W ((pusOf (xs.map D.pu)).bind fun ps => some (D.pu (.list ps.reverse), S)) Q ↔ _
  rw [pus_map, Option.bind_some, w_some]
theorem w_ext {a x : Ex} {Q : Out → Prop} : W (sExt a x e S) Q ↔ W (a e S) fun r => W (lstD r.1 r.2) fun _ => W (x e r.2) fun q => W (rawD q.1 q.2) fun ys => W (putL r.1 (fun ds => some (ds ++ ys)) e q.2) fun w => Q (.nx w.1 w.2) := by
  refine w_bind.trans ⟨fun h => h.imp fun q h => (w_bind.mp h).imp fun p h => (w_bind.mp h).imp fun p h => (w_bind.mp h).imp fun p h => (w_bind.mp h).imp fun p h => w_some.mp h, fun h => h.imp fun q h => w_bind.mpr (h.imp fun p h => w_bind.mpr (h.imp fun p h => w_bind.mpr (h.imp fun p h => w_bind.mpr (h.imp fun p h => w_some.mpr h))))⟩
theorem w_rawN {xs : List P} {Q : List D → Prop} : W (rawD (.nw (.lst xs)) S) Q ↔ Q (xs.map .pu) := w_some
theorem w_rawB {i : Nat} {xs : List P} {Q : List D → Prop} : W (rawD (.bo i (.lst xs)) S) Q ↔ Q (xs.map .pu) := w_some
theorem w_plE {i : Nat} {xs ys : List P} {Q : Envi × Sto → Prop} : W (plE i (fun ds => some (ds ++ ys.map D.pu)) e S (some (some (.ow (.lst xs))))) Q ↔ xs.length + ys.length ≤ lim ∧ Q (e.set i (some (.ow (.lst (xs ++ ys)))), S) := by
  show W ((some (xs.map D.pu ++ ys.map D.pu)).bind fun ds => (pusOf ds).bind fun ps => if ps.length ≤ lim then some (e.set i (some (.ow (.lst ps))), S) else none) Q ↔ _
  rw [Option.bind_some, ← List.map_append, pus_map, Option.bind_some, List.length_append]
  rw [w_ite, w_some, w_none]
  by_cases c : xs.length + ys.length ≤ lim
  · rw [if_pos c]; exact ⟨fun h => ⟨c, h⟩, fun h => h.2⟩
  · rw [if_neg c]; exact ⟨fun h => h.elim, fun h => (c h.1).elim⟩
end
section
variable {e : Envi} {S : Sto} {g : Gt} {t : Tx} {x : Ex}
theorem w_intsB {i : Nat} {C : List Int → Bool} {f : List Int → Int} {xs : List P} {Q : D × Sto → Prop} : W (gInts C f [.bo i (.lst xs)] S) Q ↔ W (intsOf (xs.map D.pu)) fun is => C is = true ∧ Q (.pu (.int (f is)), S) := w_ints
theorem w_at3 {α : Type} {a b c d : α} {r : List α} {Q : α → Prop} : W (atI (a :: b :: c :: d :: r) 3) Q ↔ Q d := by
  have e : atI (a :: b :: c :: d :: r) 3 = some d := by
    unfold atI ixN
    rw [if_pos (by decide), if_pos (by rw [List.length_cons, List.length_cons, List.length_cons, List.length_cons]; omega)]
    rfl
  rw [e, w_some]
/-- a comprehension whose turns draw: what holds of the state, what of the items -/
theorem comp_any {I : Nat → Sto → Prop} {Pr : P → Prop} {Q : List P × Sto → Prop} : ∀ (ds : List D) (j : Nat) (S : Sto) (acc : List P), I j S → (∀ i d S, ds[i]? = some d → I (j + i) S → ∀ R : P → Sto → Prop, (∀ p S', Pr p → I (j + i + 1) S' → R p S') → W (g d e S) fun q => W (t q.1 q.2) fun b => b.1 = true ∧ W (x q.1 b.2) fun r => puQ R r.2 r.1) → acc.length + ds.length ≤ lim →
    (∀ ps S', ps.length = ds.length → (∀ p ∈ ps, Pr p) → I (j + ds.length) S' → Q (acc ++ ps, S')) → W (compD g t x e ds S acc) Q
  | [], j, S, acc, h, _, _, q => comp_nil.mpr (by
    have := q [] S rfl (fun p hp => by cases hp) h
    rwa [List.append_nil] at this)
  | d :: ds, j, S, acc, h, st, hl, q => by
    rw [List.length_cons] at hl
    rw [comp_cons]
    refine (st 0 d S rfl h (fun p' S' => acc.length < lim ∧ W (compD g t x e ds S' (acc ++ [p'])) Q) (fun p S' hp hI => ⟨by omega, ?_⟩)).imp fun q' h => h.imp fun b h => by rw [if_pos h.1]; exact h.2
    refine comp_any (I := I) (Pr := Pr) ds (j + 1) S' (acc ++ [p]) hI (fun i d S hd hi => ?_) (by rw [List.length_append, List.length_singleton]; omega) fun ps S'' hn hps hI2 => ?_
    · have e1 : j + 1 + i = j + (i + 1) := by omega
      rw [e1] at hi ⊢
      exact st (i + 1) d S (by simpa using hd) hi
    · rw [List.append_assoc]
      refine q (p :: ps) S'' (by rw [List.length_cons, List.length_cons, hn]) (fun z hz => (List.mem_cons.mp hz).elim (fun e => by rw [e]; exact hp) (hps z)) ?_
      have e1 : j + (d :: ds).length = j + 1 + ds.length := by rw [List.length_cons]; omega
      rw [e1]
      exact hI2
theorem all_map {α : Type} {f : α → P} {Pr : P → Prop} (h : ∀ p, Pr p → ∃ a, p = f a) : ∀ ps : List P, (∀ p ∈ ps, Pr p) → ∃ as : List α, ps = as.map f ∧ as.length = ps.length
  | [], _ => ⟨[], rfl, rfl⟩
  | p :: ps, hp => by
    obtain ⟨a, rfl⟩ := h p (hp p List.mem_cons_self)
    obtain ⟨as, rfl, h2⟩ := all_map h ps fun z hz => hp z (List.mem_cons_of_mem _ hz)
    exact ⟨a :: as, rfl, by rw [List.length_cons, h2, List.length_cons]⟩
end
theorem w_pBB {g : Bool → Bool → Bool} {c d : Bool} {Q : P → Prop} : W (pBB g (.bool c) (.bool d)) Q ↔ Q (.bool (g c d)) := w_some
section
variable {e : Envi} {S : Sto}
theorem w_putBS {i : Nat} {ys : List P} {k : Int} {d : D} {Q : Envi × Sto → Prop} : W (putS (.bo i (.lst ys)) (.pu (.int k)) d e S) Q ↔ W (plE i (fun ds => (ixN ds.length k).map fun j => ds.set j d) e S e[i]?) Q := by
  have h : putS (.bo i (.lst ys)) (.pu (.int k)) d e S = plE i (fun ds => (ixN ds.length k).map fun j => ds.set j d) e S e[i]? := by
    unfold putS
    show putL _ _ _ _ = _
    unfold putL plE
    rfl
  rw [h]
theorem plE_set {i j : Nat} {xs : List P} {k : Int} {p : P} {Q : Envi × Sto → Prop} (hk : k = j) (hj : j < xs.length) (hl : xs.length ≤ lim) (q : Q (e.set i (some (.ow (.lst (xs.set j p)))), S)) : W (plE i (fun ds => (ixN ds.length k).map fun j => ds.set j (.pu p)) e S (some (some (.ow (.lst xs))))) Q := by
  subst hk
  have e1 : ixN (xs.map D.pu).length (j : Int) = some j := by
    unfold ixN
    rw [if_pos (by omega), if_pos (by rw [List.length_map]; omega), Int.toNat_natCast]
  have e2 : (xs.map D.pu).set j (.pu p) = (xs.set j p).map D.pu := by rw [List.map_set]
  show W (((ixN (xs.map D.pu).length (j : Int)).map fun j => (xs.map D.pu).set j (D.pu p)).bind fun ds => (pusOf ds).bind fun ps => if ps.length ≤ lim then some (e.set i (some (.ow (.lst ps))), S) else none) Q
  rw [e1, Option.map_some, Option.bind_some, e2, pus_map, Option.bind_some, if_pos (by rw [List.length_set]; exact hl)]
  exact w_some.mpr q
theorem w_chain3 {g g' g'' : D → D → Sto → Option (D × Sto)} {a b c d : Ex} {Q : D × Sto → Prop} : W (xChain3 g g' g'' a b c d e S) Q ↔ W (a e S) fun r => W (b e r.2) fun q => W (g r.1 q.1 q.2) fun z => boolD (fun k S => if k = true then W (c e S) fun y => W (g' q.1 y.1 y.2) fun v => boolD (fun k S => if k = true then W (d e S) fun u => W (g'' y.1 u.1 u.2) Q else Q (.pu (.bool false), S)) v.2 v.1 else Q (.pu (.bool false), S)) z.2 z.1 := by
  refine w_bind.trans ⟨fun h => h.imp fun q h => (w_bind.mp h).imp fun p h => (w_bind.mp h).imp fun z h => ?_, fun h => h.imp fun q h => w_bind.mpr (h.imp fun p h => w_bind.mpr (h.imp fun z h => ?_))⟩
  · obtain ⟨d, S1⟩ := z
    cases d with
    | pu p => cases p with
      | bool k =>
        cases k with
        | true =>
          refine (w_bind.mp h).imp fun y h => (w_bind.mp h).imp fun v h => ?_
          obtain ⟨d, S1⟩ := v
          cases d with
          | pu p => cases p with
            | bool k =>
              cases k with
              | true => exact w_bind.mp h
              | false => obtain ⟨_, k1, k2⟩ := h; cases k1; exact k2
            | _ => exact (w_none.mp h).elim
          | _ => exact (w_none.mp h).elim
        | false => obtain ⟨_, k1, k2⟩ := h; cases k1; exact k2
      | _ => exact (w_none.mp h).elim
    | _ => exact (w_none.mp h).elim
  · obtain ⟨d, S1⟩ := z
    cases d with
    | pu p => cases p with
      | bool k =>
        cases k with
        | true =>
          refine w_bind.mpr (h.imp fun y h => w_bind.mpr (h.imp fun v h => ?_))
          obtain ⟨d, S1⟩ := v
          cases d with
          | pu p => cases p with
            | bool k =>
              cases k with
              | true => exact w_bind.mpr h
              | false => exact ⟨_, rfl, h⟩
            | _ => exact h.elim
          | _ => exact h.elim
        | false => exact ⟨_, rfl, h⟩
      | _ => exact h.elim
    | _ => exact h.elim
end
end DL
/-! DLH: x in l, x in t, of data. -/
namespace DL
open PySem PySem.Spec PyProof.Rows L2
section
variable {X : Cx} {G : Gx}
def rInA (neg : Bool) (K : PySem.W.Frag) : R2 := fun x y H Q => ∃ d ds, Dp K H x d ∧ (Dp K H y (.list ds) ∨ Dp K H y (.tuple ds)) ∧ SeqAt.shaped d = true ∧ SeqAt.shaped (.list ds) = true ∧ Q (.bl (if neg then !ds.any (fun z => PyData.eqv z d) else ds.any fun z => PyData.eqv z d)) H
theorem op_inA (hu : X.A.units + 65 < cLine) : OpR X (compareOp .In) (rInA false X.K) := by
  intro pins s σ H x y v u Q I rx ry h
  obtain ⟨d, ds, hd, he, sd, se, q⟩ := h
  obtain ⟨as, r1⟩ := Dp.reads I d x v hd rx
  rcases he with he | he
  · obtain ⟨bs, r2⟩ := Dp.reads I (.list ds) y u he ry
    exact SeqAt.in_list_reads r2 r1 (SeqAt.canLay_of_shaped se) (SeqAt.canLay_of_shaped sd) (room_in_shaped sd hu) ⟨.bl _, H, I, rfl, q⟩
  · obtain ⟨bs, r2⟩ := Dp.reads I (.tuple ds) y u he ry
    exact SeqAt.in_tuple_reads r2 r1 (SeqAt.canLay_of_shaped se) (SeqAt.canLay_of_shaped sd) (room_in_shaped sd hu) ⟨.bl _, H, I, rfl, q⟩
theorem op_notInA (hu : X.A.units + 65 < cLine) : OpR X (compareOp .NotIn) (rInA true X.K) := by
  intro pins s σ H x y v u Q I rx ry h
  obtain ⟨d, ds, hd, he, sd, se, q⟩ := h
  obtain ⟨as, r1⟩ := Dp.reads I d x v hd rx
  rcases he with he | he
  · obtain ⟨bs, r2⟩ := Dp.reads I (.list ds) y u he ry
    exact SeqAt.notIn_list_reads r2 r1 (SeqAt.canLay_of_shaped se) (SeqAt.canLay_of_shaped sd) (room_in_shaped sd hu) ⟨.bl _, H, I, rfl, q⟩
  · obtain ⟨bs, r2⟩ := Dp.reads I (.tuple ds) y u he ry
    exact SeqAt.notIn_tuple_reads r2 r1 (SeqAt.canLay_of_shaped se) (SeqAt.canLay_of_shaped sd) (room_in_shaped sd hu) ⟨.bl _, H, I, rfl, q⟩
/-- the items of a list or a tuple -/
def itsP : P → Option (List P)
  | .list ds => some ds
  | .tuple ds => some ds
  | _ => none
def gIn (neg : Bool) (d1 d2 : D) (S : Sto) : Option (D × Sto) := (datS d1 S).bind fun a => (datS d2 S).bind fun b => (itsP b).bind fun ds => if shp 9 a && shp 9 b then some (.pu (.bool (if neg then !ds.any (fun z => PyData.eqv z a) else ds.any fun z => PyData.eqv z a)), S) else none
theorem v_inG {neg : Bool} (hK : X.K = G.K) : V2 G (rInA neg X.K) (gIn neg) := by
  intro σ H e S f x y dx dy d S' Q r0 rx ry hg q
  obtain ⟨a, h1, hg⟩ := Option.bind_eq_some_iff.mp hg
  obtain ⟨b, h2, hg⟩ := Option.bind_eq_some_iff.mp hg
  obtain ⟨ds, h3, hg⟩ := Option.bind_eq_some_iff.mp hg
  by_cases c : (shp 9 a && shp 9 b) = true
  · rw [if_pos c] at hg
    cases hg
    rw [Bool.and_eq_true] at c
    rw [hK]
    have dy' := dat_dp r0 ry h2 (shp_ok _ _ c.2).1
    have sb := shp_shaped c.2
    have hy : (Dp G.K H y (.list ds) ∨ Dp G.K H y (.tuple ds)) ∧ SeqAt.shaped (.list ds) = true := by
      cases b with
      | list xs => cases h3; exact ⟨.inl dy', sb⟩
      | tuple xs => cases h3; exact ⟨.inr dy', sb⟩
      | _ => cases h3
    exact ⟨a, ds, dat_dp r0 rx h1 (shp_ok _ _ c.1).1, hy.1, shp_shaped c.1, hy.2, .inl (q _ H f r0 (.refl _ _ _) (.bl _))⟩
  · rw [if_neg c] at hg
    cases hg
theorem v_in (hK : X.K = G.K) : V2 G (rInA false X.K) (gIn false) := v_inG hK
theorem v_notIn (hK : X.K = G.K) : V2 G (rInA true X.K) (gIn true) := v_inG hK
/-- + with tuples of any length -/
def gAdA (a b : D) (S : Sto) : Option (D × Sto) := match a, b with
  | .pu (.tuple xs), .pu (.tuple ys) => if xs.length + ys.length ≤ lim then some (.pu (.tuple (xs ++ ys)), S) else none
  | a, b => gAdd a b S
def rAdA (K : PySem.W.Frag) : R2 := fun x y H Q => rAddA K x y H Q ∨ rCatA K x y H Q
theorem op_adA : OpR X (binaryOp .Add) (rAdA X.K) := OpR.or op_addA op_catA
theorem v_adA (hK : X.K = G.K) : V2 G (rAdA X.K) gAdA := by
  intro σ H e S f x y dx dy d S' Q r0 rx ry hg q
  unfold gAdA at hg
  split at hg
  · rename_i xs ys
    by_cases c : xs.length + ys.length ≤ lim
    · rw [if_pos c] at hg
      cases hg
      cases (show Rep H x (.tuple xs) from rx) with
      | tup h1 h2 =>
        cases (show Rep H y (.tuple ys) from ry) with
        | tup h3 h4 =>
          have la := h2.length
          have lb := h4.length
          rw [hK]
          refine .inr ⟨_, _, _, _, rfl, rfl, SqT.of h1, SqT.of h3, by rw [← lim_eq]; omega, fun z => ?_, fun _ z => ?_, fun _ _ p np => tup_fin np (RepL.append h2 h4) fun v H' s rv => q v H' f (r0.same s) (.of s _ _) rv⟩
          · subst z
            cases h2
            exact .inl (q _ H f r0 (.refl _ _ _) (.tup h3 h4))
          · subst z
            cases h4
            rw [List.append_nil] at q
            exact .inl (q _ H f r0 (.refl _ _ _) (.tup h1 h2))
    · rw [if_neg c] at hg
      cases hg
  · exact .inl (v_add hK σ H e S f x y _ _ d S' Q r0 rx ry hg q)
theorem RepL.rep {H : Hp} {vs : List V} {xs : List P} (h : RepL H vs xs) : ∀ k : Nat, RepL H (List.replicate k vs).flatten (List.replicate k xs).flatten
  | 0 => .nil
  | k + 1 => by
    rw [List.replicate_succ, List.replicate_succ, List.flatten_cons, List.flatten_cons]
    exact RepL.append h (RepL.rep h k)
/-- [..] * k: the list is nobody's -/
def gRepL (a b : D) (S : Sto) : Option (D × Sto) := match a, b with
  | .nw (.lst xs), .pu (.int k) => if 0 ≤ k ∧ k ≤ 100000 ∧ xs.length * k.toNat ≤ lim then some (.pu (.list (List.replicate k.toNat xs).flatten), S) else none
  | _, _ => none
def gRepN (a b : D) (S : Sto) : Option (D × Sto) := match a, b with
  | .nw (.lst xs), .pu (.int k) => if 0 ≤ k ∧ k ≤ 100000 ∧ xs.length * k.toNat ≤ lim then some (.nw (.lst (List.replicate k.toNat xs).flatten), S) else none
  | _, _ => none
theorem v_repL : V2 G rRep gRepL := by
  intro σ H e S f x y dx dy d S' Q r0 rx ry hg q
  unfold gRepL at hg
  split at hg
  · rename_i xs k
    by_cases c : 0 ≤ k ∧ k ≤ 100000 ∧ xs.length * k.toNat ≤ lim
    · rw [if_pos c] at hg
      cases hg
      obtain ⟨a, e1, ⟨vs, h4, h5⟩, _⟩ := (show ∃ a, x = .ref a ∧ OCok H a (.lst xs) ∧ _ from rx)
      cases (show Rep H y (.int k) from ry)
      have la := h5.length
      exact ⟨a, k, vs, e1, rfl, h4, by omega, by omega, by rw [← lim_eq, la]; exact c.2.2, fun p np => lst_fin np (RepL.rep h5 _) fun v H' s rv => q v H' f (r0.same s) (.of s _ _) rv⟩
    · rw [if_neg c] at hg
      cases hg
  · cases hg
theorem v_repN : V2 G rRep gRepN := by
  intro σ H e S f x y dx dy d S' Q r0 rx ry hg q
  unfold gRepN at hg
  split at hg
  · rename_i xs k
    by_cases c : 0 ≤ k ∧ k ≤ 100000 ∧ xs.length * k.toNat ≤ lim
    · rw [if_pos c] at hg
      cases hg
      obtain ⟨a, e1, ⟨vs, h4, h5⟩, _⟩ := (show ∃ a, x = .ref a ∧ OCok H a (.lst xs) ∧ _ from rx)
      cases (show Rep H y (.int k) from ry)
      have la := h5.length
      exact ⟨a, k, vs, e1, rfl, h4, by omega, by omega, by rw [← lim_eq, la]; exact c.2.2, fun p np => nw_fin r0 np (RepL.rep h5 _) q⟩
    · rw [if_neg c] at hg
      cases hg
  · cases hg
/-- (..) * k -/
def gRepT (a b : D) (S : Sto) : Option (D × Sto) := match a, b with
  | .pu (.tuple xs), .pu (.int k) => if xs ≠ [] ∧ 2 ≤ k ∧ k ≤ 1000 ∧ xs.length ≤ 1000 then some (.pu (.tuple (List.replicate k.toNat xs).flatten), S) else none
  | _, _ => none
theorem v_repT (hK : X.K = G.K) : V2 G (rRepT X.K) gRepT := by
  intro σ H e S f x y dx dy d S' Q r0 rx ry hg q
  unfold gRepT at hg
  split at hg
  · rename_i xs k
    by_cases c : xs ≠ [] ∧ 2 ≤ k ∧ k ≤ 1000 ∧ xs.length ≤ 1000
    · rw [if_pos c] at hg
      cases hg
      cases (show Rep H x (.tuple xs) from rx) with
      | tup h1 h2 =>
        cases (show Rep H y (.int k) from ry)
        have la := h2.length
        rw [hK]
        exact ⟨_, k, _, rfl, rfl, SqT.of h1, fun z => c.1 (by subst z; cases h2; rfl), c.2.1, c.2.2.1, by rw [la]; exact c.2.2.2, fun p np => tup_fin np (RepL.rep h2 _) fun v H' s rv => q v H' f (r0.same s) (.of s _ _) rv⟩
    · rw [if_neg c] at hg
      cases hg
  · cases hg
end
end DL
/-! DLI: list(reversed(x)). -/
namespace RV
open PySem PySem.Spec PyProof.Rows L2
section
variable {prog : Program} {w : World} {A : Around} {E : Value → Shared → Prop} {s : Shared}
/-- what stands behind a list's items, from its end, put into an empty one -/
theorem ext_rev {R : Result → Shared → Prop} {it l D : Addr} {xs : Array Value} {c : Nat} (hh : A.handled = none) (hi : s.heap.IsRevIter it l ((xs.size : Int) - 1)) (hl : s.heap.IsList l xs) (ne : l ≠ it) (hz : xs.size ≤ sizeLine) (n1 : D ≠ it) (n2 : D ≠ l) (hD : s.heap.get? D = some { cls := .type "list", data := .seq #[] c })
    (hR : ∀ h' tk ys k, (∀ b o, b ≠ D → b ≠ it → s.heap.get? b = some o → h'.get? b = some o) → h'.get? D = some { cls := .type "list", dict := none, data := .seq ys k, slots := #[] } → ItemsOf (fun i v => xs[xs.size - 1 - i]? = some v) ys xs.size → R (.ok (.ret .none)) { s with heap := h', toks := tk }) :
    wpAny (model prog w) A.in1 (Builtin.List.listExtendWith (.ref D) (.ref it) .none)
      (fun fin s' => match fin with | .done f => R (.ok f) s' | .again c' => c'.quiet = true ∧ codeAny (model prog w) A c' R s') (fun e s' => R (.error e) s') s := by
  have go := (Walks.listRev (prog := prog) (w := w) (A := A.in1) hh it l ne xs).toS
  have nD : D ∉ [it, l] := fun z => by
    rcases List.mem_cons.mp z with z | z
    · exact n1 z
    · exact n2 (List.mem_singleton.mp z)
  have ty : s.TypeIs (.ref it) "list_reverseiterator" := hi.typeIs
  have same : Builtin.List.listSameRef (.ref D) (.ref it) = false := by simp [Builtin.List.listSameRef, n1]
  unfold Builtin.List.listExtendWith; refine wpAny_bind (wpAny_typeOf ty ?_)
  rw [if_neg (by rw [same]; decide)]; refine wpAny_bind (wpAny_pyIter_revIter (s := s) hi ?_)
  refine wpAny_bind (wpAny_holding ?_); unfold Builtin.List.listLengthHint
  refine wpAny_bind (wpAny_specialOf ty RT.nolen_lri ?_)
  show wpAny _ A.in1 (specialOf (Value.ref it) (Str.ofString "__length_hint__") >>= _) _ _ _
  refine wpAny_bind (wpAny_specialOf ty RT.hint_lri ?_)
  generalize hid : ("list_reverseiterator.__length_hint__" : String) = name
  wp_delta
  rw [show splitId name = some ("list_reverseiterator", "__length_hint__") from by subst hid; decide +kernel]
  subst hid
  refine wpAny_bind (wpAny_isInstance (b := true) ty (by rw [isSubtype_type]; kernel_rfl) (wpAny_pure ?_))
  rw [if_neg (by decide)]
  have e0 : ((xs.size : Nat) : Int) - 1 - ((0 : Nat) : Int) = (xs.size : Int) - 1 := by omega
  refine wpAny_pure ⟨plainId_quiet F.plain_extend_loop _, codeAny_extend_loopS go hz _ nD _ xs.size 0 _ _ _ rfl (Nat.zero_le _) ⟨Nat.zero_le _, by rw [e0]; exact hi, hl⟩ hD (ItemsOf.nil _) fun s' ys k hm hS' hys => ?_⟩
  rw [Moved.eq_with hm]
  refine hR s'.heap s'.toks ys k (fun b o h1 h2 e => hm.heap b o (fun z => ?_) e) hS' hys
  rcases List.mem_cons.mp z with z | z
  · exact h1 z
  · exact h2 (List.mem_singleton.mp z)
theorem init_rev {R : Result → Shared → Prop} {it l D : Addr} {xs : Array Value} (hh : A.handled = none) (hi : s.heap.IsRevIter it l ((xs.size : Int) - 1)) (hl : s.heap.IsList l xs) (ne : l ≠ it) (hz : xs.size ≤ sizeLine) (n1 : D ≠ it) (n2 : D ≠ l) (hD : s.heap.get? D = some { cls := .type "list", data := .seq #[] })
    (hR : ∀ h' tk ys k, (∀ b o, b ≠ D → b ≠ it → s.heap.get? b = some o → h'.get? b = some o) → h'.get? D = some { cls := .type "list", dict := none, data := .seq ys k, slots := #[] } → ItemsOf (fun i v => xs[xs.size - 1 - i]? = some v) ys xs.size → R (.ok (.ret .none)) { s with heap := h', toks := tk }) :
    wpAny (model prog w) A.in1 (Builtin.«list.__init__» ⟨[.ref D, .ref it], []⟩)
      (fun fin s' => match fin with | .done f => R (.ok f) s' | .again c' => c'.quiet = true ∧ codeAny (model prog w) A c' R s') (fun e s' => R (.error e) s') s := by
  show wpAny _ A.in1 (Builtin.List.listItems (.ref D) >>= fun old => Builtin.List.listUpdate (.ref D) (fun _ => #[]) >>= fun _ => letGo old.toList.reverse >>= fun _ => Builtin.List.listExtendWith (.ref D) (.ref it) .none) _ _ s
  unfold Builtin.List.listItems
  refine wpAny_bind (wpAny_bind (wpAny_seqItems hD rfl (wpAny_pure ?_)))
  show wpAny _ A.in1 (updateSeq D (fun _ => #[]) >>= fun _ => letGo (#[] : Array Value).toList.reverse >>= fun _ => Builtin.List.listExtendWith (.ref D) (.ref it) .none) _ _ s
  have oth : ∀ b o, b ≠ D → s.heap.get? b = some o → (s.heap.update D (Obj.mapSeq (fun _ => (#[] : Array Value)))).get? b = some o := fun b o hb e => (Heap.get?_update_other _ _ (Ne.symm hb)).trans e
  refine wpAny_bind (wpAny_updateSeq hD rfl (wpAny_bind (wpAny_letGo ?_)))
  exact ext_rev hh (hi.at fun o e => oth it o (Ne.symm n1) e) (by obtain ⟨o, e, r⟩ := hl; exact ⟨o, oth l o (Ne.symm n2) e, r⟩) ne hz n1 n2 (Heap.get?_update_self (Obj.mapSeq (fun _ => (#[] : Array Value))) hD rfl) fun h' tk ys k hk hS hys => hR h' tk ys k (fun b o h1 h2 e => hk b o h1 h2 (oth b o h1 e)) hS hys
theorem call_listRev {Q : Value → Shared → Prop} {it l : Addr} {xs : Array Value} (hh : A.handled = none) (hi : s.heap.IsRevIter it l ((xs.size : Int) - 1)) (hl : s.heap.IsList l xs) (ne : l ≠ it) (hz : xs.size ≤ sizeLine)
    (hQ : ∀ h' tk ys k, (∀ b o, b ≠ it → s.heap.get? b = some o → h'.get? b = some o) → h'.get? s.heap.objs.size = some { cls := .type "list", dict := none, data := .seq ys k, slots := #[] } → ItemsOf (fun i v => xs[xs.size - 1 - i]? = some v) ys xs.size → Q (.ref s.heap.objs.size) { s with heap := h', toks := tk }) :
    wpAny (model prog w) A (call (.type "list") [.ref it]) Q E s := by
  obtain ⟨oi, hoi, _⟩ := id hi
  obtain ⟨ol, hol, _⟩ := id hl
  refine callType_codes (Q₁ := fun obj s₁ => obj = .ref s.heap.objs.size ∧ s₁ = { s with heap := s.heap.push { cls := .type "list", data := .seq #[] } }) F.called_list (F.typeCall_list_1 _) F.entry_list_init (code_list_new _ ⟨rfl, rfl⟩) fun obj s₁ h₁ => ?_
  obtain ⟨rfl, rfl⟩ := h₁
  have hD : (s.heap.push { cls := .type "list", data := .seq #[] }).get? s.heap.objs.size = some { cls := .type "list", data := .seq #[] } := Heap.get?_push_size _ rfl
  refine ⟨⟨_, hD, rfl⟩, F.args_list_init_2 _ _, init_rev (A := A.in1) hh (hi.at fun o e => Heap.get?_push_of_some _ e) (hl.push _) ne hz (Nat.ne_of_gt (Heap.lt_size hoi)) (Nat.ne_of_gt (Heap.lt_size hol)) hD fun h' tk ys k hk hS hys => ?_⟩
  exact ⟨rfl, hQ h' tk ys k (fun b o h1 e => hk b o (Nat.ne_of_lt (Heap.lt_size e)) h1 (Heap.get?_push_of_some _ e)) hS hys⟩
end
section
variable {X : Cx}
/-- list(reversed(x)), x a list: a new list -/
def tListRev (K : PySem.W.Frag) (te : TE) : TE := fun σ H Q => te σ H fun v H1 => ∃ (a : Addr) (xs : List V), v = .ref a ∧ SqL K H1 a xs ∧ ∀ q, H1 q = none → Q (.ref q) (upd H1 q (.lst xs.reverse))
theorem pe_listRev {e : Expr} {te : TE} {p p2 pos pos2 : Pos} (hc : X.calm = true) (hg : Gl X "list") (hm : X.mg "list" = none) (hg2 : Gl X "reversed") (hm2 : X.mg "reversed" = none) (he : PE X e te) (hs : starEach [e] X.env = (false, eval e X.env) :: starEach [] X.env := by rfl)
    (hs2 : starEach [.Call (.Name "reversed" p2) [e] [] pos2] X.env = (false, eval (.Call (.Name "reversed" p2) [e] [] pos2) X.env) :: starEach [] X.env := by rfl) : PE X (.Call (.Name "list" p) [.Call (.Name "reversed" p2) [e] [] pos2] [] pos) (tListRev X.K te) := by
  refine ⟨fun pins s σ H Q I h => ?_⟩
  refine Call_ (ld_blt I hg hm boot_list (PyProof.Rows.callWith_type1 (args_cons (Call_ (ld_blt I hg2 hm2 PyProof.Rows.boot_reversed (PyProof.Rows.callWith_type1 (args_cons (thn (he.run pins s σ H _ I h) fun u s1 z => args_nil ?_) hs) hs rfl))) hs2) hs2 rfl))
  obtain ⟨v, H1, I1, r1, a, xs, rfl, hq, q⟩ := z
  obtain rfl : u = Value.ref a := r1
  obtain ⟨its, rv, p', hz⟩ := I1.list hq
  have hn : its.toArray.size ≤ sizeLine := by rw [List.size_toArray, ← rv.length]; exact hz
  have hl := p'.isList
  obtain ⟨ol, hol, _⟩ := id hl
  refine call_reversed_list hl (args_nil ?_)
  obtain ⟨f0, f1, f2, f3, f4, f5⟩ := I1.fpOk (H' := H1) (b := s1.heap.objs.size) (Nat.le_refl _) (I1.hok.fresh (Nat.le_refl _))
  have I2 : Inv X pins σ H1 { s1 with heap := s1.heap.push (revObj a ((its.toArray.size : Int) - 1)) } := I1.kept (t' := s1.toks) fun b o e => Heap.get?_push_of_some _ e
  refine call_listRev (s := { s1 with heap := s1.heap.push (revObj a ((its.toArray.size : Int) - 1)) }) (I1.ok.hd hc) ⟨_, Heap.get?_push_size _ rfl, rfl, rfl⟩ (hl.push _) (Nat.ne_of_lt (Heap.lt_size hol)) hn fun h' tk ys k hk hS hys => ?_
  have I3 : Inv X pins σ H1 { s1 with heap := h', toks := tk } := I2.turned (t' := tk) (fun b o hb e => hk b o hb e) f0 f1 f3 f4 f5
  have new : ObjOk X.prog X.w (upd H1 (s1.heap.push (revObj a ((its.toArray.size : Int) - 1))).objs.size (.lst xs.reverse)) h' (s1.heap.push (revObj a ((its.toArray.size : Int) - 1))).objs.size (.lst xs.reverse) :=
    ⟨by rw [List.length_reverse]; exact hz, ys.toList, k, RT.vals_rev rv hys, by rw [Array.toArray_toList]; exact hS⟩
  have I4 := I2.turnedNew (t' := tk) (ch := [s1.heap.objs.size]) (h' := h') (fun b o hb e => hk b o (fun z => hb (List.mem_singleton.mpr z)) e) (fun b hb => by rw [List.mem_singleton.mp hb]; exact ⟨f0, f1, f2, f3, f4, f5⟩) (Nat.le_refl _) new
  exact ⟨.ref _, _, I4, rfl, q _ (I2.hok.fresh (Nat.le_refl _))⟩
end
end RV
namespace DL
open PySem PySem.Spec PyProof.Rows L2
section
variable {X : Cx} {G : Gx}
theorem d_listRev {e : Expr} {xa : Ex} {p p2 pos pos2 : Pos} (hK : X.K = G.K) (hc : X.calm = true) (hg : Gl X "list") (hm : X.mg "list" = none) (hg2 : Gl X "reversed") (hm2 : X.mg "reversed" = none) (ha : DE X G e xa) (hs : starEach [e] X.env = (false, eval e X.env) :: starEach [] X.env := by rfl)
    (hs2 : starEach [.Call (.Name "reversed" p2) [e] [] pos2] X.env = (false, eval (.Call (.Name "reversed" p2) [e] [] pos2) X.env) :: starEach [] X.env := by rfl) : DE X G (.Call (.Name "list" p) [.Call (.Name "reversed" p2) [e] [] pos2] [] pos) (x1 gRev xa) :=
  pe_mono (pe_gh (RV.pe_listRev hc hg hm hg2 hm2 ha hs hs2)) fun σ H Q hw => by
    obtain ⟨e, S, f, r, d, S', hx, q⟩ := hw
    obtain ⟨⟨d1, S1⟩, h1, hx⟩ := Option.bind_eq_some_iff.mp hx
    obtain ⟨⟨b, is⟩, h2, hx⟩ := Option.bind_eq_some_iff.mp (show (seqD d1 S1).bind _ = _ from hx)
    cases b with
    | true => cases hx
    | false =>
      obtain ⟨ps, h3, hx⟩ := Option.bind_eq_some_iff.mp (show (pusOf is).bind _ = _ from hx)
      cases hx
      have e3 := pusOf_eq h3
      subst e3
      refine ⟨e, S, f, r, d1, _, h1, fun v H1 f1 r1 n1 p1 => ?_⟩
      obtain ⟨a, us, rfl, _, hl, hp⟩ := seq_ok r1 p1 h2
      rw [hK]
      exact ⟨a, us, rfl, hl rfl, fun p np => lst_fin np (rep_rev (rd_reps hp)) fun v H' s rv => q v H' f1 (r1.same s) (n1.trans (.of s _ _)) rv⟩
theorem d_listRevN {e : Expr} {xa : Ex} {p p2 pos pos2 : Pos} (hK : X.K = G.K) (hc : X.calm = true) (hg : Gl X "list") (hm : X.mg "list" = none) (hg2 : Gl X "reversed") (hm2 : X.mg "reversed" = none) (ha : DE X G e xa) (hs : starEach [e] X.env = (false, eval e X.env) :: starEach [] X.env := by rfl)
    (hs2 : starEach [.Call (.Name "reversed" p2) [e] [] pos2] X.env = (false, eval (.Call (.Name "reversed" p2) [e] [] pos2) X.env) :: starEach [] X.env := by rfl) : DE X G (.Call (.Name "list" p) [.Call (.Name "reversed" p2) [e] [] pos2] [] pos) (x1 gRevN xa) :=
  pe_mono (pe_gh (RV.pe_listRev hc hg hm hg2 hm2 ha hs hs2)) fun σ H Q hw => by
    obtain ⟨e, S, f, r, d, S', hx, q⟩ := hw
    obtain ⟨⟨d1, S1⟩, h1, hx⟩ := Option.bind_eq_some_iff.mp hx
    obtain ⟨⟨b, is⟩, h2, hx⟩ := Option.bind_eq_some_iff.mp (show (seqD d1 S1).bind _ = _ from hx)
    cases b with
    | true => cases hx
    | false =>
      obtain ⟨ps, h3, hx⟩ := Option.bind_eq_some_iff.mp (show (pusOf is).bind _ = _ from hx)
      cases hx
      have e3 := pusOf_eq h3
      subst e3
      refine ⟨e, S, f, r, d1, _, h1, fun v H1 f1 r1 n1 p1 => ?_⟩
      obtain ⟨a, us, rfl, _, hl, hp⟩ := seq_ok r1 p1 h2
      rw [hK]
      exact ⟨a, us, rfl, hl rfl, fun p np => nw_fin r1 np (rep_rev (rd_reps hp)) fun v H' f' r' n' p' => q v H' f' r' (n1.trans n') p'⟩
end
/-! ### min, max of a tuple -/
theorem fold_min : ∀ (xs : List Int) (x : Int), (xs.foldl (fun a y => if y < a then y else a) x) = minL (x :: xs)
  | [], x => rfl
  | y :: ys, x => by
    have e := fold_min ys (if y < x then y else x)
    rw [List.foldl_cons, e]
    cases ys with
    | nil => rw [minL_cons]; rfl
    | cons z zs =>
      rw [minL_cons, minL_cons x, minL_cons y]
      split <;> split <;> (try split) <;> (try split) <;> omega
theorem fold_max : ∀ (xs : List Int) (x : Int), (xs.foldl (fun a y => if a < y then y else a) x) = maxL (x :: xs)
  | [], x => rfl
  | y :: ys, x => by
    have e := fold_max ys (if x < y then y else x)
    rw [List.foldl_cons, e]
    cases ys with
    | nil => rw [maxL_cons]; rfl
    | cons z zs =>
      rw [maxL_cons, maxL_cons x, maxL_cons y]
      split <;> split <;> (try split) <;> (try split) <;> omega
theorem hold_ints : ∀ {us : List Value} {ns : List Int} (h : Heap), Vals (ns.map V.int) us → PySem.W.HoldAll h us ns
  | [], [], h, .nil => ⟨_, .nil⟩
  | u :: us, n :: ns, h, .cons ⟨t, e⟩ r => by
    subst e
    exact PySem.W.HoldAll.cons (PySem.W.holds_int n t) (hold_ints h r)
theorem int_of_hold {h : Heap} {v : Value} {n : Int} (H : PySem.W.Holds h v n) : ∃ t, v = .int n t := by
  obtain ⟨as, r⟩ := H
  cases (show Reads h v (.int n) as from r)
  exact ⟨_, rfl⟩
section
variable {X : Cx} {G : Gx}
def rMinT (K : PySem.W.Frag) : List V → Hp → VK → Prop := fun vs H Q => ∃ (a : Addr) (n : Int) (ns : List Int), vs = [V.ref a] ∧ SqT K H a ((n :: ns).map V.int) ∧ Q (.int (minL (n :: ns))) H
def rMaxT (K : PySem.W.Frag) : List V → Hp → VK → Prop := fun vs H Q => ∃ (a : Addr) (n : Int) (ns : List Int), vs = [V.ref a] ∧ SqT K H a ((n :: ns).map V.int) ∧ Q (.int (maxL (n :: ns))) H
theorem cr_minT (hc : X.calm = true) (hu : X.A.units + 65 < cLine) : CallR X (.builtin "min") (rMinT X.K) := by
  intro pins s σ H vs us Q I r h
  obtain ⟨a, n, ns, rfl, hs, q⟩ := h
  obtain ⟨its, rv, hl, _⟩ := I.tuple hs
  rw [Vals.ref1 r]
  refine PySem.W.min_tuple_datum (I.ok.hd hc) hl (by simpa using hold_ints s.heap rv) (by show X.A.units + 1 + 0 < cLine; omega) fun i v h' tk _ hv hk => ?_
  obtain ⟨t, rfl⟩ := int_of_hold hv
  have e : PySem.W.minOf n ns = minL (n :: ns) := by
    rw [← fold_min]
    unfold PySem.W.minOf
    congr 1
    funext a y
    by_cases h : y < a
    · rw [if_pos h, if_pos (by exact decide_eq_true h)]
    · rw [if_neg h, if_neg (by intro z; exact h (of_decide_eq_true z))]
  rw [e]
  exact ⟨.int _, H, I.kept hk, ⟨_, rfl⟩, q⟩
theorem cr_maxT (hc : X.calm = true) (hu : X.A.units + 65 < cLine) : CallR X (.builtin "max") (rMaxT X.K) := by
  intro pins s σ H vs us Q I r h
  obtain ⟨a, n, ns, rfl, hs, q⟩ := h
  obtain ⟨its, rv, hl, _⟩ := I.tuple hs
  rw [Vals.ref1 r]
  refine PySem.W.max_tuple_datum (I.ok.hd hc) hl (by simpa using hold_ints s.heap rv) (by show X.A.units + 1 + 0 < cLine; omega) fun i v h' tk _ hv hk => ?_
  obtain ⟨t, rfl⟩ := int_of_hold hv
  have e : PySem.W.maxOf n ns = maxL (n :: ns) := by
    rw [← fold_max]
    unfold PySem.W.maxOf
    congr 1
    funext a y
    by_cases h : a < y
    · rw [if_pos h, if_pos (by exact decide_eq_true h)]
    · rw [if_neg h, if_neg (by intro z; exact h (of_decide_eq_true z))]
  rw [e]
  exact ⟨.int _, H, I.kept hk, ⟨_, rfl⟩, q⟩
def gIntsA (C : List Int → Bool) (g : List Int → Int) : List D → Sto → Option (D × Sto)
  | [d], S => (seqD d S).bind fun q => (intsOf q.2).bind fun is => if C is then some (.pu (.int (g is)), S) else none
  | _, _ => none
abbrev gMinA := gIntsA (fun is => !is.isEmpty) minL
abbrev gMaxA := gIntsA (fun is => !is.isEmpty) maxL
theorem v_intsA {C : List Int → Bool} {g : List Int → Int} {r : List V → Hp → VK → Prop} (h : ∀ (a : Addr) (is : List Int) H Q, SqL G.K H a (is.map V.int) ∨ SqT G.K H a (is.map V.int) → C is = true → Q (.int (g is)) H → r [.ref a] H Q) : VA G r (gIntsA C g) := by
  intro σ H e S f vs ds d S' Q r0 rs hg q
  match ds, rs with
  | [dx], .cons (a := x) rx .nil =>
    obtain ⟨⟨k, ds⟩, hs, hg⟩ := Option.bind_eq_some_iff.mp (show (seqD dx S).bind _ = _ from hg)
    obtain ⟨is, h1, h2⟩ := Option.bind_eq_some_iff.mp (show (intsOf ds).bind _ = _ from hg)
    obtain ⟨a, vs, rfl, ht, hl, hp⟩ := seq_ok r0 rx hs
    have e1 := intsOf_ok hp h1
    subst e1
    by_cases hC : C is = true
    · rw [if_pos hC] at h2
      cases h2
      refine h a is H _ ?_ hC (.inl (q _ H f r0 (.refl _ _ _) (.int _)))
      cases k with
      | true => exact .inr (ht rfl)
      | false => exact .inl (hl rfl)
    · rw [if_neg hC] at h2
      cases h2
  | [], _ => cases hg
  | _ :: _ :: _, _ => simp [gIntsA] at hg
theorem cr_minA (hc : X.calm = true) (hu : X.A.units + 65 < cLine) : CallR X (.builtin "min") (fun vs H Q => rMin X.K vs H Q ∨ rMinT X.K vs H Q) := CallR.or (cr_min hc) (cr_minT hc hu)
theorem cr_maxA (hc : X.calm = true) (hu : X.A.units + 65 < cLine) : CallR X (.builtin "max") (fun vs H Q => rMax X.K vs H Q ∨ rMaxT X.K vs H Q) := CallR.or (cr_max hc) (cr_maxT hc hu)
theorem v_minA (hK : X.K = G.K) : VA G (fun vs H Q => rMin X.K vs H Q ∨ rMinT X.K vs H Q) gMinA := v_intsA fun a is H Q hs hC q => by
  rw [hK]
  cases is with
  | nil => cases hC
  | cons x r =>
    rcases hs with hs | hs
    · exact .inl ⟨a, x :: r, rfl, hs, Nat.succ_pos _, fun m h1 h2 => by rw [minL_is x r m h1 h2]; exact q⟩
    · exact .inr ⟨a, x, r, rfl, hs, q⟩
theorem v_maxA (hK : X.K = G.K) : VA G (fun vs H Q => rMax X.K vs H Q ∨ rMaxT X.K vs H Q) gMaxA := v_intsA fun a is H Q hs hC q => by
  rw [hK]
  cases is with
  | nil => cases hC
  | cons x r =>
    rcases hs with hs | hs
    · exact .inl ⟨a, x :: r, rfl, hs, Nat.succ_pos _, fun m h1 h2 => by rw [maxL_is x r m h1 h2]; exact q⟩
    · exact .inr ⟨a, x, r, rfl, hs, q⟩
end
end DL
/-! LWH: what the newer rules come to. -/
namespace DL
open PySem PySem.Spec PyProof.Rows L2
section
variable {e : Envi} {S : Sto}
theorem w_inT {neg : Bool} {a : P} {ds : List P} {Q : D × Sto → Prop} : W (gIn neg (.pu a) (.pu (.tuple ds)) S) Q ↔ (shp 9 a && shp 9 (.tuple ds)) = true ∧ Q (.pu (.bool (if neg then !ds.any (fun z => PyData.eqv z a) else ds.any fun z => PyData.eqv z a)), S) := by
  show W (if (shp 9 a && shp 9 (.tuple ds)) = true then _ else none) Q ↔ _
  rw [w_ite, w_some, w_none]
  by_cases c : (shp 9 a && shp 9 (.tuple ds)) = true
  · rw [if_pos c]; exact ⟨fun h => ⟨c, h⟩, fun h => h.2⟩
  · rw [if_neg c]; exact ⟨fun h => h.elim, fun h => (c h.1).elim⟩
theorem w_inL {neg : Bool} {a : P} {ds : List P} {Q : D × Sto → Prop} : W (gIn neg (.pu a) (.pu (.list ds)) S) Q ↔ (shp 9 a && shp 9 (.list ds)) = true ∧ Q (.pu (.bool (if neg then !ds.any (fun z => PyData.eqv z a) else ds.any fun z => PyData.eqv z a)), S) := by
  show W (if (shp 9 a && shp 9 (.list ds)) = true then _ else none) Q ↔ _
  rw [w_ite, w_some, w_none]
  by_cases c : (shp 9 a && shp 9 (.list ds)) = true
  · rw [if_pos c]; exact ⟨fun h => ⟨c, h⟩, fun h => h.2⟩
  · rw [if_neg c]; exact ⟨fun h => h.elim, fun h => (c h.1).elim⟩
theorem w_adT {xs ys : List P} {Q : D × Sto → Prop} : W (gAdA (.pu (.tuple xs)) (.pu (.tuple ys)) S) Q ↔ xs.length + ys.length ≤ lim ∧ Q (.pu (.tuple (xs ++ ys)), S) := by
  show W (if xs.length + ys.length ≤ lim then _ else none) Q ↔ _
  rw [w_ite, w_some, w_none]
  by_cases c : xs.length + ys.length ≤ lim
  · rw [if_pos c]; exact ⟨fun h => ⟨c, h⟩, fun h => h.2⟩
  · rw [if_neg c]; exact ⟨fun h => h.elim, fun h => (c h.1).elim⟩
theorem w_adI {i j : Int} {Q : D × Sto → Prop} : W (gAdA (.pu (.int i)) (.pu (.int j)) S) Q ↔ Q (.pu (.int (i + j)), S) := w_some
theorem w_repL {xs : List P} {k : Int} {Q : D × Sto → Prop} : W (gRepL (.nw (.lst xs)) (.pu (.int k)) S) Q ↔ (0 ≤ k ∧ k ≤ 100000 ∧ xs.length * k.toNat ≤ lim) ∧ Q (.pu (.list (List.replicate k.toNat xs).flatten), S) := by
  show W (if 0 ≤ k ∧ k ≤ 100000 ∧ xs.length * k.toNat ≤ lim then _ else none) Q ↔ _
  rw [w_ite, w_some, w_none]
  by_cases c : 0 ≤ k ∧ k ≤ 100000 ∧ xs.length * k.toNat ≤ lim
  · rw [if_pos c]; exact ⟨fun h => ⟨c, h⟩, fun h => h.2⟩
  · rw [if_neg c]; exact ⟨fun h => h.elim, fun h => (c h.1).elim⟩
theorem w_repN {xs : List P} {k : Int} {Q : D × Sto → Prop} : W (gRepN (.nw (.lst xs)) (.pu (.int k)) S) Q ↔ (0 ≤ k ∧ k ≤ 100000 ∧ xs.length * k.toNat ≤ lim) ∧ Q (.nw (.lst (List.replicate k.toNat xs).flatten), S) := by
  show W (if 0 ≤ k ∧ k ≤ 100000 ∧ xs.length * k.toNat ≤ lim then _ else none) Q ↔ _
  rw [w_ite, w_some, w_none]
  by_cases c : 0 ≤ k ∧ k ≤ 100000 ∧ xs.length * k.toNat ≤ lim
  · rw [if_pos c]; exact ⟨fun h => ⟨c, h⟩, fun h => h.2⟩
  · rw [if_neg c]; exact ⟨fun h => h.elim, fun h => (c h.1).elim⟩
theorem w_repT {xs : List P} {k : Int} {Q : D × Sto → Prop} : W (gRepT (.pu (.tuple xs)) (.pu (.int k)) S) Q ↔ (xs ≠ [] ∧ 2 ≤ k ∧ k ≤ 1000 ∧ xs.length ≤ 1000) ∧ Q (.pu (.tuple (List.replicate k.toNat xs).flatten), S) := by
  show W (if xs ≠ [] ∧ 2 ≤ k ∧ k ≤ 1000 ∧ xs.length ≤ 1000 then _ else none) Q ↔ _
  rw [w_ite, w_some, w_none]
  by_cases c : xs ≠ [] ∧ 2 ≤ k ∧ k ≤ 1000 ∧ xs.length ≤ 1000
  · rw [if_pos c]; exact ⟨fun h => ⟨c, h⟩, fun h => h.2⟩
  · rw [if_neg c]; exact ⟨fun h => h.elim, fun h => (c h.1).elim⟩
theorem w_gSlT {xs : List P} {lo hi : Option Int} {Q : D × Sto → Prop} : W (gSl (.pu (.tuple xs)) lo hi S) Q ↔ ¬ (HT.sIx xs.length 0 lo = 0 ∧ HT.sIx xs.length xs.length hi = xs.length) ∧ Q (.pu (.tuple (cutL xs lo hi)), S) := by
  have e1 : pusOf (cutL (xs.map D.pu) lo hi) = some (cutL xs lo hi) := by
    rw [show cutL (xs.map D.pu) lo hi = (cutL xs lo hi).map D.pu by unfold cutL; rw [List.map_take, List.map_drop, List.length_map], pus_map]
  show W ((pusOf (cutL (xs.map D.pu) lo hi)).bind fun ps => if HT.sIx (xs.map D.pu).length 0 lo = 0 ∧ HT.sIx (xs.map D.pu).length (xs.map D.pu).length hi = (xs.map D.pu).length then none else some (D.pu (.tuple ps), S)) Q ↔ _
  rw [e1, Option.bind_some, List.length_map, w_ite, w_some, w_none]
  by_cases c : HT.sIx xs.length 0 lo = 0 ∧ HT.sIx xs.length xs.length hi = xs.length
  · rw [if_pos c]; exact ⟨fun h => h.elim, fun h => (h.1 c).elim⟩
  · rw [if_neg c]; exact ⟨fun h => ⟨c, h⟩, fun h => h.2⟩
theorem w_iaT {C : List Int → Bool} {g : List Int → Int} {xs : List P} {Q : D × Sto → Prop} : W (gIntsA C g [.pu (.tuple xs)] S) Q ↔ W (intsOf (xs.map D.pu)) fun is => C is = true ∧ Q (.pu (.int (g is)), S) := by
  show W ((intsOf (xs.map D.pu)).bind fun is => if C is then some (D.pu (.int (g is)), S) else none) Q ↔ _
  refine w_bind.trans ⟨fun h => h.imp fun q h => ?_, fun h => h.imp fun q h => ?_⟩
  · by_cases c : C q = true
    · rw [if_pos c] at h; exact ⟨c, w_some.mp h⟩
    · rw [if_neg c] at h; exact (w_none.mp h).elim
  · rw [if_pos h.1]; exact w_some.mpr h.2
theorem w_iaL {C : List Int → Bool} {g : List Int → Int} {xs : List P} {Q : D × Sto → Prop} : W (gIntsA C g [.pu (.list xs)] S) Q ↔ W (intsOf (xs.map D.pu)) fun is => C is = true ∧ Q (.pu (.int (g is)), S) := by
  show W ((intsOf (xs.map D.pu)).bind fun is => if C is then some (D.pu (.int (g is)), S) else none) Q ↔ _
  refine w_bind.trans ⟨fun h => h.imp fun q h => ?_, fun h => h.imp fun q h => ?_⟩
  · by_cases c : C q = true
    · rw [if_pos c] at h; exact ⟨c, w_some.mp h⟩
    · rw [if_neg c] at h; exact (w_none.mp h).elim
  · rw [if_pos h.1]; exact w_some.mpr h.2
end
theorem at_neg {α : Type} {xs : List α} {x : α} {Q : α → Prop} (h : xs.getLast? = some x) (q : Q x) : W (atI xs (-1)) Q := by
  have hn : xs ≠ [] := fun z => by rw [z] at h; cases h
  have hl : 0 < xs.length := List.length_pos_iff.mpr hn
  refine ⟨x, ?_, q⟩
  unfold atI ixN
  rw [if_neg (by omega), if_pos (by omega), Option.bind_some, ← h, List.getLast?_eq_getElem?]
  congr 1
  omega
end DL
/-! DLS: str(x) in the law's own def, which is called by the claim alone. -/
namespace DL
open PySem PySem.Spec PyProof.Rows L2
section
variable {Pg : Program} {w : World} {K : PySem.W.Frag} {mg : Str → Option Value} {base : Heap} {x qual : Str} {st : Stmt} {f : Addr} {fd : FuncData} {N ps : List Str} {k n : Nat} {b : Sx} {sp : Sp}
/-- the body of a def that the claim alone calls -/
def BodyC (Pg : Program) (w : World) (K : PySem.W.Frag) (mg : Str → Option Value) (base : Heap) (qual : Str) (st : Stmt) (f : Addr) (N : List Str) (k : Nat) (cl : Str → Option Addr) (b : Sx) : Prop :=
  ∀ (cdv : Value) (s : Shared) (H : Hp) (E : XK) (G : Gx), G.K = K → G.cl = cl → Room k (callerA.deeper (envOfC qual (defScope st) s.heap.objs.size f cdv)) →
    DSs (cxOf CX0 Pg w K mg base N qual (defScope st) f cdv callerA [] s H E).nox G (defBody st) b
/-- what it promises there -/
structure OutC (Pg : Program) (w : World) (K : PySem.W.Frag) (mg : Str → Option Value) (base : Heap) (k : Nat) (f : Addr) (fd : FuncData) (ps : List Str) (sp : Sp) : Prop where
  len : ∀ vs H Q E, sp vs H Q E → vs.length = ps.length
  run : ∀ (s : Shared) (H : Hp) (args : Args) (us : List Value) (vs : List V) (Q : VK) (E : XK), Room k callerA → Env0 Pg w K mg base callerA [] s H → BindsTo s fd args (ps.zip us) → Vals vs us → sp vs H Q E →
    codeAny (model Pg w) callerA (.call (.ref f) args) (CR CX0 [] Pg w H s Q E) s
theorem out_of (F : Fun K x qual st f fd) (S : FnScope N ps (defScope st)) (len : ∀ vs H Q E, sp vs H Q E → vs.length = ps.length)
    (hbody : ∀ (cdv : Value) (s : Shared) (H : Hp) (vs : List V) (Q : VK) (E : XK), Room k (callerA.deeper (envOfC qual (defScope st) s.heap.objs.size f cdv)) → sp vs H Q E →
      ∃ t, PSs (cxOf CX0 Pg w K mg base N qual (defScope st) f cdv callerA [] s H E).nox (defBody st) t ∧ t { nx := fun _ H' => Q .non H', rt := Q } (start N vs) H) : OutC Pg w K mg base (k + 1) f fd ps sp := by
  obtain ⟨oc, od, kV, doc, pm, an, cdv, ct, osl, rfl, lk, hcd⟩ := F.ex
  refine ⟨len, fun s H args us vs Q E hr e0 hb r hsp => ?_⟩
  have hl := len _ _ _ _ hsp
  have KX : K.In s.heap := e0.mod.kin.keeps fun b o e => (e0.bs b o e).1
  have lim : s.heap.NoLimit := e0.mod.nolimit.keeps fun b o e => (e0.bs b o e).1
  have hkind : ∀ y ∈ ps.zip us, (defScope st).names.lookup y.1 = some .local ∨ ((defScope st).names.lookup y.1 = some .cell ∧ ((cellsFrom (s.heap.objs.size + 1) (defScope st).names []).lookup y.1).isSome = true) := fun ⟨n, v⟩ hy => by
    rcases S.par n (List.of_mem_zip hy).1 with q | q
    · exact .inl q
    · exact .inr ⟨q, PySem.W.cellsFrom_some _ _ _ (.inl q)⟩
  refine codeAny_call_function hr.depth (KX _ _ lk) rfl S.co S.gen rfl (PySem.W.codeRec_of KX hcd) (hb _ _ _ _ ?_)
  refine wpAny_newFunctionEnv_cells S.kind hkind fun env he s1 x => ?_
  subst he
  refine ⟨lim.keeps x.toInCall.keep, codeAny_func ?_⟩
  obtain ⟨t, ht', hq⟩ := hbody cdv s H vs Q E (hr.deeper _) hsp
  have ht := ht'.nox
  have I : Inv (cxOf CX0 Pg w K mg base N qual (defScope st) f cdv callerA [] s H E) [] (start N vs) H s1 := inv_start S hr.hd e0 hl r x
  refine wpAny_mono (ht.run [] s1 (start N vs) H _ I hq) (fun fl s' hs => ?_) fun e s' hs => hs
  have fin : ∀ {σ' : L2.St} {H' : Hp} {v : V} {u : Value}, Inv (cxOf CX0 Pg w K mg base N qual (defScope st) f cdv callerA [] s H E) [] σ' H' s' → RelV v u → Q v H' → CE [] Pg w H s Q u s' :=
    fun {σ' H' v u} J rv q => ⟨v, H', J.os, J.bare, J.base, J.hok, rv, q⟩
  cases fl with
  | ret u =>
    obtain ⟨v, σ', H', J, rv, q⟩ := hs
    exact fin J rv q
  | next =>
    obtain ⟨σ', H', J, q⟩ := hs
    exact fin (v := V.non) (u := Value.none) J rfl q
  | brk =>
    obtain ⟨_, _, _, q⟩ := hs
    exact False.elim q
  | cont =>
    obtain ⟨_, _, _, q⟩ := hs
    exact False.elim q
theorem outF {cl : Str → Option Addr} (F : Fun K x qual st f fd) (S : FnScope N ps (defScope st)) (hn : ps.length = n) (hb : BodyC Pg w K mg base qual st f N k cl b) : OutC Pg w K mg base (k + 1) f fd ps (SpF K cl n (runF n N.length b)) := by
  refine out_of F S (fun vs H Q E h => h.1.trans hn.symm) fun cdv s H vs Q E hr h => ?_
  obtain ⟨hl, f0, S0, ds, d, S', hp, hc, hm, q⟩ := h
  refine ⟨_, hb cdv s H E ⟨K, cl, H, S0.length, f0⟩ rfl rfl hr, ?_⟩
  unfold runF at hm
  by_cases c : ds.length = n ∧ n ≤ N.length
  · rw [if_pos c] at hm
    obtain ⟨o, h1, h2⟩ := Option.bind_eq_some_iff.mp hm
    have r0 : R ⟨K, cl, H, S0.length, f0⟩ (L2.start N vs) H (env0 N.length ds) S0 f0 := R.entry (G := ⟨K, cl, H, S0.length, f0⟩) (by omega) hp rfl hc
    refine ⟨_, S0, f0, r0, o, h1, ?_⟩
    cases o with
    | nx e1 S1 =>
      cases h2
      exact fun σ' H' f' r' x' => q .non H' f' r'.cells (r'.back) .non
    | rt d1 e1 S1 =>
      dsimp only at h2
      by_cases c2 : noBo [d1] = true
      · rw [if_pos c2] at h2
        cases h2
        exact fun v σ' H' f' r' x' p' => q v H' f' r'.cells (r'.back) (re_rd p' c2)
      · rw [if_neg c2] at h2
        cases h2
    | bk _ _ => cases h2
    | ct _ _ => cases h2
  · rw [if_neg c] at hm
    cases hm
/-- the call by the claim -/
theorem called_out {fa a : Addr} {x : Str} {s₁ : Shared} {mb : Str → Option Value} {vs : List Value} {ns : List Int}
    (KX : K.In s₁.heap) (hns : s₁.heap.Ns mainGlobals mg) (hb : s₁.heap.Ns builtinsNs mb) (hbb : ∀ x : Str, x ≠ "__name__" → mb x = bootBuiltins x) (hlim : s₁.heap.NoLimit) (hg : s₁.gens = #[])
    (ha : s₁.heap.get? a = some { cls := .type "list", data := .seq vs.toArray }) (hi : IntsAre vs ns) (hl : ns.length ≤ sizeLine) (hr : Room k callerA)
    (F : ∀ base : Heap, K.In base → base.Ns mainGlobals mg → OutC Pg w K mg base k fa fd [x] sp) (hbind : ∀ (s : Shared) (u : Value), BindsTo s fd ⟨[u], []⟩ [(x, u)])
    (hsp : ∀ H : Hp, Only H → SqL K H a (ns.map V.int) → sp [.ref a] H (fun v _ => v = .bl true) fun _ _ _ => False) :
    codeAny (model Pg w) callerA (.call (.ref fa) ⟨[.ref a], []⟩) (fun r s' => r = .ok (.ret (.bool true)) ∧ OldK s₁.heap s'.heap ∧ s'.os = s₁.os ∧ AllBare s'.gens) s₁ := by
  have rv := vals_ints hi
  have lenV := hi.length
  have core : ∀ H : Hp, Only H → SqL K H a (ns.map V.int) → HOk Pg w H s₁.heap → (∀ b, H b ≠ none → b = a) → (H a ≠ none → K.lookup a = none) →
      codeAny (model Pg w) callerA (.call (.ref fa) ⟨[.ref a], []⟩) (fun r s' => r = .ok (.ret (.bool true)) ∧ OldK s₁.heap s'.heap ∧ s'.os = s₁.os ∧ AllBare s'.gens) s₁ := by
    intro H hO hS hok hA hK
    have at_a : ∀ {b : Addr} {u : HO}, H b = some u → b = a := fun {b u} q => hA b (by rw [q]; simp)
    have base_of : ∀ {b : Addr} {o : Obj}, s₁.heap.get? b = some o → H b = none → (hidT s₁.heap H).get? b = some o := fun e n => hidT_get e n
    have noA : ∀ {b : Addr} {o : Obj} {es : Array DictEntry} {ep : Nat}, s₁.heap.get? b = some o → o.data = .dict es ep → H b = none := fun {b o es ep} e d => by
      cases q : H b with
      | none => rfl
      | some u =>
        obtain rfl := at_a q
        rw [ha] at e; cases e
        have d' : Data.seq vs.toArray _ = Data.dict es ep := d
        cases d'
    have nsK : ∀ {b : Addr} {m : Str → Option Value}, s₁.heap.Ns b m → (hidT s₁.heap H).Ns b m := fun {b m} ⟨o, es, ep, e, d, r⟩ => ⟨o, es, ep, base_of e (noA e d), d, r⟩
    have hKb : K.In (hidT s₁.heap H) := fun b o e => base_of (KX b o e) (by
      cases q : H b with
      | none => rfl
      | some u =>
        obtain rfl := at_a q
        rw [hK (by rw [q]; simp)] at e; cases e)
    have hM : Mod K mg (hidT s₁.heap H) := ⟨hKb, nsK hns, ⟨mb, nsK hb, hbb⟩, let ⟨mc, h1, h2⟩ := hlim; ⟨mc, nsK h1, h2⟩⟩
    have e0 : Env0 Pg w K mg (hidT s₁.heap H) callerA [] s₁ H := ⟨rfl, hM, fun b o e => of_hidT e, Nat.le_of_eq (hidT_size _ _), trivial, fun b hb => absurd (show b ∈ ([] : List Addr) from hb) (by simp), hok, .of_eq hg⟩
    refine codeAny_mono ((F _ hKb (nsK hns)).run s₁ H ⟨[.ref a], []⟩ [.ref a] [.ref a] _ _ hr e0 (hbind s₁ (.ref a)) (.cons rfl .nil) (hsp H hO hS)) fun r s' h => ?_
    cases r with
    | error e => exact False.elim h
    | ok fl =>
      cases fl with
      | next => exact False.elim h
      | brk => exact False.elim h
      | cont => exact False.elim h
      | ret u =>
        obtain ⟨v, H', os, bare, un, hok', r', q⟩ := h
        obtain rfl : v = .bl true := q
        obtain rfl : u = Value.bool true := r'
        refine ⟨rfl, OldK.of_keep fun b o e => ?_, os, bare⟩
        cases q : H b with
        | none => exact un.keep b o e q (by intro z; exact absurd (show b ∈ ([] : List Addr) from z) (by simp)) (by simp)
        | some u =>
          rcases hO b with z | ⟨ob, xs, z⟩
          · rw [q] at z; cases z
          · have z2 := un.frzs b ob _ z
            obtain ⟨e1, _⟩ := hok b _ z
            obtain ⟨e2, _⟩ := hok' b _ z2
            rw [e] at e1; cases e1
            exact e2
  cases hk : K.lookup a with
  | some o =>
    have e := KX a o hk
    rw [ha] at e
    cases e
    refine core (fun _ => none) (fun _ => .inl rfl) (.inr ⟨_, vs.toArray, _, hk, rfl, rfl, rfl, by rw [List.size_toArray, lenV]; exact hl, by simpa using rv⟩) (fun b u z => by have z' : (none : Option HO) = some u := z; cases z') (fun b z => absurd rfl z) fun z => absurd rfl z
  | none =>
    refine core (fun b => if b = a then some (.frz { cls := .type "list", data := .seq vs.toArray } (.lst (ns.map V.int))) else none) (fun b => ?_) (.inl (.inr ⟨{ cls := .type "list", data := .seq vs.toArray }, if_pos rfl⟩)) (fun b u z => ?_) (fun b z => ?_) fun _ => hk
    · by_cases hb : b = a
      · exact .inr ⟨_, _, if_pos hb⟩
      · exact .inl (if_neg hb)
    · by_cases hb : b = a
      · have z' := (if_pos hb).symm.trans z
        cases z'
        subst hb
        exact ⟨ha, by rw [List.length_map]; exact hl, vs, _, rv, ha⟩
      · have z' := (if_neg hb).symm.trans z
        cases z'
    · by_cases hb : b = a
      · exact hb
      · exact absurd (if_neg hb) z
end
theorem walk_outer {l : PySem.W.OpenLaw} {n k : Nat} {q : Program} {loose : List Str} {XP : (Str → Option Value) → Heap → Prop} {YP : World → Heap → Prop} {d : DefRec} {K : Params → PySem.W.Frag} {sp : World → Sp} {x : Str}
    (hn : l.most = some n) (hn2 : n ≤ sizeLine) (hdf : d.params.defaults = []) (hr : Room k callerA)
    (hY : ∀ (w : World) (h : Heap), YP w h → (K w.params).In h)
    (F : ∀ (w : World) (mg : Str → Option Value) (fa : Addr) (h : Heap), (K w.params).In h → h.Ns mainGlobals mg → mg d.name = some (.ref fa) →
      ∃ fd : FuncData, (∀ (s : Shared) (u : Value), BindsTo s fd ⟨[u], []⟩ [(x, u)]) ∧
        ∀ base : Heap, (K w.params).In base → base.Ns mainGlobals mg → OutC l.prog w (K w.params) mg base k fa fd [x] (sp w))
    (hsp : ∀ (w : World) (H : Hp) (a : Addr) (ns : List Int), ns.length ≤ n → Only H → SqL (K w.params) H a (ns.map V.int) → sp w [.ref a] H (fun v _ => v = .bl true) fun _ _ _ => False) :
    PySem.W.WalkO q loose XP YP l.row.toRowW d [] (fun f vs => PySem.call f vs) := by
  refine Att.attach_call hn hdf fun w s₀ s₁ mg mb fa o pm cd doc a vs ns G Y ho hd hcd hmg hobj hints hlen hg => ?_
  have KX := hY w _ Y
  obtain ⟨fd, hb, hF⟩ := F w mg fa _ KX G.T.g hmg
  exact called_out KX G.T.g G.T.b G.T.builtins G.T.nolimit hg hobj hints (Nat.le_trans hlen hn2) hr hF hb (fun H hO hS => hsp w H a ns hlen hO hS)

/-! ### str(x) -/
mutual
/-- data of small whole numbers -/
def tiny : P → Bool
  | .none => true
  | .bool _ => true
  | .int i => decide (i.natAbs < 10 ^ 12)
  | .list xs => tinyL xs
  | .tuple xs => tinyL xs
  | .str x => decide (x.cps.size ≤ 40) && (x.cps.toList.all fun c => decide (c < 16 ^ 8)) && PyData.strOk (reprText x)
  | .dict _ => false
def tinyL : List P → Bool
  | [] => true
  | x :: r => tiny x && tinyL r
end
mutual
/-- how many parts it has -/
def parts : P → Nat
  | .list xs => partsL xs + 1
  | .tuple xs => partsL xs + 1
  | .none => 1
  | .bool _ => 1
  | .int _ => 1
  | .str _ => 1
  | .dict _ => 1
def partsL : List P → Nat
  | [] => 0
  | x :: r => parts x + partsL r
end
theorem log2_12 {n : Nat} (h : n < 10 ^ 12) : n.log2 < 40 := by
  by_cases h0 : n = 0
  · subst h0; decide
  · exact (Nat.log2_lt h0).mpr (by omega)
mutual
theorem tiny_ok : ∀ p : P, tiny p = true → p.showable = true ∧ p.leavesShort 13 = true ∧ p.weight + 1 ≤ 42 * parts p
  | .none, _ => ⟨rfl, rfl, by decide⟩
  | .bool b, _ => ⟨rfl, rfl, by cases b <;> decide⟩
  | .int i, h => by
    have h' : i.natAbs < 10 ^ 12 := by simpa [tiny] using h
    have l := log2_12 h'
    refine ⟨?_, ?_, ?_⟩
    · rw [PyData.showable]; exact decide_eq_true (by omega)
    · rw [PyData.leavesShort]; exact decide_eq_true (PyData.shown_int_le h')
    · rw [PyData.weight, parts]
      split <;> omega
  | .list xs, h => by
    obtain ⟨a, b, c⟩ := tinyL_ok xs (by simpa only [tiny] using h)
    refine ⟨by rw [PyData.showable]; exact a, by rw [PyData.leavesShort]; exact b, ?_⟩
    rw [PyData.weight, parts]
    omega
  | .tuple xs, h => by
    obtain ⟨a, b, c⟩ := tinyL_ok xs (by simpa only [tiny] using h)
    refine ⟨by rw [PyData.showable]; exact a, by rw [PyData.leavesShort]; exact b, ?_⟩
    rw [PyData.weight, parts]
    omega
  | .str x, h => by
    rw [tiny, Bool.and_eq_true, Bool.and_eq_true, decide_eq_true_eq] at h
    refine ⟨rfl, by rw [PyData.leavesShort]; exact h.1.2, ?_⟩
    rw [PyData.weight, parts]
    omega
  | .dict _, h => by simp [tiny] at h
theorem tinyL_ok : ∀ xs : List P, tinyL xs = true → PyData.showableAll xs = true ∧ PyData.leavesShortAll 13 xs = true ∧ PyData.weightAll xs ≤ 42 * partsL xs
  | [], _ => ⟨rfl, rfl, by decide⟩
  | x :: r, h => by
    rw [tinyL, Bool.and_eq_true] at h
    obtain ⟨a1, b1, c1⟩ := tiny_ok x h.1
    obtain ⟨a2, b2, c2⟩ := tinyL_ok r h.2
    refine ⟨by rw [PyData.showableAll, a1, a2]; rfl, by rw [PyData.leavesShortAll, b1, b2]; rfl, ?_⟩
    rw [PyData.weightAll, partsL]
    omega
end
theorem tiny_fits {p : P} (h : tiny p = true) (h2 : parts p ≤ 24000) : p.shown.length ≤ sizeLine := by
  obtain ⟨_, b, c⟩ := tiny_ok p h
  have e : (2 : Nat) ^ 20 = 1048576 := by decide
  exact PyData.shown_fits (by decide) (by decide) b (by omega)
theorem strOk_app {a b : Str} (ha : PyData.strOk a = true) (hb : PyData.strOk b = true) : PyData.strOk (a ++ b) = true := by
  unfold PyData.strOk at *
  show (a.cps ++ b.cps).all _ = true
  rw [Array.all_append, ha, hb]
  rfl
theorem strOk_of (s : String) : PyData.strOk (Str.ofString s) = true := by
  rw [Str.ofString_eq_toList]
  unfold PyData.strOk
  simp only [List.all_toArray, List.all_map, List.all_eq_true, Function.comp, decide_eq_true_eq]
  intro c _
  have := c.valid
  unfold Char.toNat
  rcases this with h | ⟨_, h⟩ <;> omega
theorem strOk_join {sep : Str} (hs : PyData.strOk sep = true) : ∀ ts : List Str, (∀ t ∈ ts, PyData.strOk t = true) → PyData.strOk (Str.join sep ts) = true
  | [], _ => by unfold Str.join Str.empty PyData.strOk; simp
  | [x], h => h x List.mem_cons_self
  | x :: y :: r, h => by
    rw [Str.join]
    · exact strOk_app (strOk_app (h x List.mem_cons_self) hs) (strOk_join hs (y :: r) fun t ht => h t (List.mem_cons_of_mem _ ht))
    · simp
mutual
theorem tiny_strOk : ∀ p : P, tiny p = true → PyData.strOk p.shown = true
  | .none, _ => by rw [PyData.shown]; exact strOk_of _
  | .bool b, _ => by rw [PyData.shown]; split <;> exact strOk_of _
  | .int i, _ => by rw [PyData.shown]; exact strOk_of _
  | .list xs, h => by
    rw [PyData.shown, listText_eq_join]
    exact strOk_app (strOk_app (strOk_of _) (strOk_join (strOk_of _) _ (tinyL_strOk xs (by simpa only [tiny] using h)))) (strOk_of _)
  | .tuple xs, h => by
    rw [PyData.shown]
    unfold tupleText
    exact strOk_app (strOk_app (strOk_of _) (strOk_join (strOk_of _) _ (tinyL_strOk xs (by simpa only [tiny] using h)))) (strOk_of _)
  | .str x, h => by
    rw [tiny, Bool.and_eq_true] at h
    rw [PyData.shown]
    exact h.2
  | .dict _, h => by simp [tiny] at h
theorem tinyL_strOk : ∀ xs : List P, tinyL xs = true → ∀ t ∈ PyData.shownAll xs, PyData.strOk t = true
  | [], _, t, ht => by simp [PyData.shownAll] at ht
  | x :: r, h, t, ht => by
    rw [tinyL, Bool.and_eq_true] at h
    rw [PyData.shownAll] at ht
    rcases List.mem_cons.mp ht with rfl | ht
    · exact tiny_strOk x h.1
    · exact tinyL_strOk r h.2 t ht
end
section
variable {X : Cx} {G : Gx}
def rStr (K : PySem.W.Frag) : List V → Hp → VK → Prop := fun xs H Q => ∃ (a : Addr) (d : P), xs = [.ref a] ∧ Dp K H (.ref a) d ∧ shp 9 d = true ∧ tiny d = true ∧ parts d ≤ 24000 ∧ Q (.str d.shown) H
theorem call_strD (hg : X.A.guards = some []) (hu : X.A.units + 65 < cLine) : CallR X (.type "str") (rStr X.K) := by
  intro pins s σ H xs us Q I r h
  obtain ⟨a, d, rfl, hd, h1, h2, h3, q⟩ := h
  rw [Vals.ref1 r]
  obtain ⟨as, rd⟩ := Dp.reads I d _ _ hd (relR a)
  obtain ⟨b1, b2, b3⟩ := tiny_ok d h2
  obtain ⟨c1, c2⟩ := shp_ok 9 d h1
  exact str_of_reads rd b1 (PyData.noDict_hsm (PyData.hasDict_of_canLay d c1)) hg (by omega) (fun _ _ e => e) (fun h' u tk hk => ⟨.str d.shown, H, I.kept hk, ⟨_, rfl⟩, q⟩) (tiny_fits h2 h3)
def gStr : List D → Sto → Option (D × Sto)
  | [d], S => (datS d S).bind fun p => if (isSeq p && shp 9 p && tiny p && decide (parts p ≤ 24000)) = true then some (.pu (.str p.shown), S) else none
  | _, _ => none
where isSeq : P → Bool
  | .list _ => true
  | .tuple _ => true
  | _ => false
theorem v_str (hK : X.K = G.K) : VA G (rStr X.K) gStr := by
  intro σ H e S f vs ds d S' Q r0 rs hg q
  match ds, rs with
  | [dx], .cons (a := x) rx .nil =>
    obtain ⟨p, h1, hg⟩ := Option.bind_eq_some_iff.mp (show (datS dx S).bind _ = _ from hg)
    by_cases c : (gStr.isSeq p && shp 9 p && tiny p && decide (parts p ≤ 24000)) = true
    · rw [if_pos c] at hg
      cases hg
      simp only [Bool.and_eq_true, decide_eq_true_eq] at c
      obtain ⟨⟨⟨c1, c2⟩, c3⟩, c4⟩ := c
      have dp := dat_dp r0 rx h1 (shp_ok 9 _ c2).1
      have ra : ∃ a, x = .ref a := by
        cases dp with
        | lst _ _ => exact ⟨_, rfl⟩
        | tup _ _ => exact ⟨_, rfl⟩
        | _ => cases c1
      obtain ⟨a, rfl⟩ := ra
      rw [hK]
      exact ⟨a, p, rfl, dp, c2, c3, c4, .inl (q _ H f r0 (.refl _ _ _) (.str _))⟩
    · rw [if_neg c] at hg
      cases hg
  | [], _ => cases hg
  | _ :: _ :: _, _ => simp [gStr] at hg
end
end DL
/-! DLJ: range downwards, reversed(list) as walks. -/
namespace DL
open PySem PySem.Spec PyProof.Rows L2
section
variable {X : Cx} {G : Gx}
/-- hi, hi - 1, .. (n of them) -/
def dwnD (hi : Int) (n : Nat) : List D := (List.range n).map fun (i : Nat) => .pu (.int (hi - i))
theorem walk_d {H : Hp} {hi : Int} {n : Nat} : Walk G.K (Itc hi (-1) n) H (dwnD hi n) where
  go := fun H' i d x hd => by
    have := (List.getElem?_eq_some_iff.mp hd).1
    unfold dwnD at this
    rw [List.length_map, List.length_range] at this
    exact this
  yld := fun H' i d v H2 x hd hy => by
    obtain ⟨rfl, rfl⟩ := hy
    unfold dwnD at hd
    rw [List.getElem?_map] at hd
    obtain ⟨j, hj, e⟩ := Option.map_eq_some_iff.mp hd
    obtain ⟨_, e2⟩ := List.getElem?_eq_some_iff.mp hj
    rw [List.getElem_range] at e2
    subst e2
    subst e
    rw [show hi + ((i : Nat) : Int) * -1 = hi - i by omega]
    exact ⟨.refl _, .int _⟩
  stop := fun H' x => by
    unfold dwnD
    rw [List.length_map, List.length_range]
    exact Nat.le_refl _
def iRangeD (a : Ax) : Ix := fun e S => (a e S).bind fun r => match r.1 with
  | [.pu (.int i), .pu (.int j), .pu (.int c)] => if rOk i && rOk j && decide (c = -1) then some (dwnD i (i - j).toNat, r.2) else none
  | _ => none
theorem di_rangeD {tg a b c : Expr} {xa : Ax} {p pos : Pos} (hg : Gl X "range") (hm : X.mg "range" = none) (ha : DA X G [a, b, c] xa)
    (hs : starEach [a, b, c] X.env = (false, eval a X.env) :: starEach [b, c] X.env := by rfl) (hpl : (backTo pos (starEach [b, c] X.env)).any (·.1) = false := by rfl) : DI X G tg (.Call (.Name "range" p) [a, b, c] [] pos) (iRangeD xa) := pi_mono (pi_range3 hg hm ha hs hpl) fun σ H Q hw => by
  obtain ⟨e, S, f, r, ds, S', hx, q⟩ := hw
  obtain ⟨⟨as, S1⟩, h1, hx⟩ := Option.bind_eq_some_iff.mp hx
  refine ⟨e, S, f, r, as, S1, h1, fun vs H1 f1 r1 n1 p1 => ?_⟩
  match as, p1, hx with
  | [.pu (.int i), .pu (.int j), .pu (.int c)], .cons p2 (.cons p3 (.cons p4 .nil)), hx =>
    cases (show Rep H1 _ (.int i) from p2)
    cases (show Rep H1 _ (.int j) from p3)
    cases (show Rep H1 _ (.int c) from p4)
    dsimp only at hx
    by_cases k : (rOk i && rOk j && decide (c = -1)) = true
    · rw [if_pos k] at hx
      cases hx
      rw [Bool.and_eq_true, Bool.and_eq_true, decide_eq_true_eq] at k
      obtain ⟨⟨k1, k2⟩, rfl⟩ := k
      obtain ⟨c1, c2⟩ := rOk_iff.mp k1
      obtain ⟨c3, c4⟩ := rOk_iff.mp k2
      exact ⟨i, j, -1, _, rfl, RgC.neg c1 c2 c3 c4, q _ H1 f1 r1 n1 walk_d⟩
    · rw [if_neg k] at hx
      cases hx
/-- reversed(list) -/
theorem walk_v {H : Hp} {a : Addr} {vs : List V} {ds : List D} (hl : ∀ H', Ext0 H H' → SqL G.K H' a vs ∧ Paired (RD G.K H' (fun _ => 0) 0) vs ds) : Walk G.K (Itv G.K a vs.length) H ds.reverse where
  go := fun H' i d x hd => by
    obtain ⟨h1, h2⟩ := hl H' x
    have lt := (List.getElem?_eq_some_iff.mp hd).1
    rw [List.length_reverse, ← paired_len h2] at lt
    exact ⟨lt, vs, vs[vs.length - 1 - i], h1, List.getElem?_eq_getElem _⟩
  yld := fun H' i d v H2 x hd hy => by
    obtain ⟨h1, h2⟩ := hl H' x
    have lt := (List.getElem?_eq_some_iff.mp hd).1
    rw [List.length_reverse] at lt
    obtain ⟨rfl, hy⟩ := hy
    rw [List.getElem?_reverse lt, ← paired_len h2] at hd
    obtain ⟨u, hu, p⟩ := Paired.get2 h2 hd
    have e := hy vs h1
    rw [hu] at e
    cases e
    exact ⟨.refl _, p⟩
  stop := fun H' x => by
    obtain ⟨h1, h2⟩ := hl H' x
    rw [List.length_reverse, ← paired_len h2]
    exact Nat.le_refl _
def iRevX (a : Ax) : Ix := fun e S => (a e S).bind fun r => match r.1 with
  | [d] => (itemsD d).bind fun q => if q.1 then none else some (q.2.reverse, r.2)
  | _ => none
theorem di_rev {tg a : Expr} {xa : Ax} {p pos : Pos} (hK : X.K = G.K) (hg : Gl X "reversed") (hm : X.mg "reversed" = none) (ha : DA X G [a] xa) (hs : starEach [a] X.env = [(false, eval a X.env)] := by rfl) : DI X G tg (.Call (.Name "reversed" p) [a] [] pos) (iRevX xa) := pi_mono (pi_reversed hg hm ha hs) fun σ H Q hw => by
  obtain ⟨e, S, f, r, ds, S', hx, q⟩ := hw
  obtain ⟨⟨as, S1⟩, h1, hx⟩ := Option.bind_eq_some_iff.mp hx
  refine ⟨e, S, f, r, as, S1, h1, fun vs H1 f1 r1 n1 p1 => ?_⟩
  match as, p1, hx with
  | [d], .cons p2 .nil, hx =>
    obtain ⟨⟨k, is⟩, h2, hx⟩ := Option.bind_eq_some_iff.mp (show (itemsD d).bind _ = _ from hx)
    cases k with
    | true => cases hx
    | false =>
      cases hx
      obtain ⟨a, us, rfl, hh⟩ := items_ok p2 h2
      obtain ⟨_, hl, _⟩ := hh H1 (.refl _)
      rw [hK]
      exact ⟨a, us, rfl, hl rfl, q _ H1 f1 r1 n1 (walk_v fun H' x => ⟨(hh H' x).2.1 rfl, (hh H' x).2.2⟩)⟩
end
end DL
/-! DLK: d[k] of a module's written dict. -/
namespace DL
open PySem PySem.Spec PyProof.Rows L2
structure KDc (K : PySem.W.Frag) (w : World) (mg : Str → Option Value) (x : Str) (ps : List (Str × P)) : Prop where
  ex : ∃ a : Addr, mg x = some (.ref a) ∧ ∀ z p, ps.lookup z = some p → ∃ v, KDct K w a z v ∧ RepW K v p
theorem KDc.nil_ok {K : PySem.W.Frag} {w : World} {a : Addr} : ∀ z p, ([] : List (Str × P)).lookup z = some p → ∃ v, KDct K w a z v ∧ RepW K v p := fun _ _ h => by cases h
theorem KDc.cons_ok {K : PySem.W.Frag} {w : World} {a : Addr} {k : Str} {p0 : P} {v0 : V} {ps : List (Str × P)} (h1 : KDct K w a k v0) (h2 : RepW K v0 p0) (hs : ∀ z p, ps.lookup z = some p → ∃ v, KDct K w a z v ∧ RepW K v p) : ∀ z p, ((k, p0) :: ps).lookup z = some p → ∃ v, KDct K w a z v ∧ RepW K v p := fun z p h => by
  by_cases e : z = k
  · subst e
    rw [List.lookup_cons, beq_self_eq_true] at h
    cases h
    exact ⟨v0, h1, h2⟩
  · rw [List.lookup_cons, beq_eq_false_iff_ne.mpr e] at h
    exact hs z p h
section
variable {X : Cx} {G : Gx}
def xKd (ps : List (Str × P)) (b : Ex) : Ex := fun e S => (b e S).bind fun r => match r.1 with
  | .pu (.str z) => (ps.lookup z).bind fun p => some (wrD p, r.2)
  | _ => none
theorem d_kd {x : Str} {ps : List (Str × P)} {b : Expr} {xb : Ex} {p pos : Pos} (hK : X.K = G.K) (c : KDc X.K X.w X.mg x ps) (hb : DE X G b xb) (hs : PlainIx b) (hg : Gl X x := by rfl) (hd : (x == ("__debug__" : Str)) = false := by decide) : DE X G (.Subscript (.Name x p) b pos) (xKd ps xb) := by
  obtain ⟨a, hm, hp⟩ := c
  refine pe_mono (pe_ix ix_kdict (pe_glob hg hm (relR a) hd) hb hs) fun σ H Q hw => ?_
  obtain ⟨e, S, f, r, d, S', hx, q⟩ := hw
  obtain ⟨⟨d1, S1⟩, h1, hx⟩ := Option.bind_eq_some_iff.mp hx
  refine ⟨e, S, f, r, d1, S1, h1, fun v1 H1 f1 r1 n1 p1 => ?_⟩
  cases d1 with
  | pu p1' =>
    cases p1' with
    | str z =>
      obtain ⟨p2, h2, hx⟩ := Option.bind_eq_some_iff.mp (show (ps.lookup z).bind _ = _ from hx)
      cases hx
      cases (show Rep H1 v1 (.str z) from p1)
      obtain ⟨v, k1, k2⟩ := hp z p2 h2
      exact ⟨a, z, v, rfl, rfl, k1, q v H1 f1 r1 n1 (wr_rd (by rw [← hK]; exact k2)).re⟩
    | _ => cases hx
  | _ => cases hx
end
end DL
/-! LWJ: what str, range downwards, enumerate, reversed come to. -/
namespace DL
open PySem PySem.Spec PyProof.Rows L2
section
variable {e : Envi} {S : Sto}
def rgdQ (Q : List D × Sto → Prop) (S : Sto) : List D → Prop
  | [.pu (.int i), .pu (.int j), .pu (.int c)] => (rOk i && rOk j && decide (c = -1)) = true ∧ Q (dwnD i (i - j).toNat, S)
  | _ => False
theorem w_rgd {Q : List D × Sto → Prop} {i j c : Int} : rgdQ Q S [.pu (.int i), .pu (.int j), .pu (.int c)] ↔ (rOk i && rOk j && decide (c = -1)) = true ∧ Q (dwnD i (i - j).toNat, S) := Iff.rfl
theorem rngd_of {a : Ax} {Q : List D × Sto → Prop} (h : W (a e S) fun r => rgdQ Q r.2 r.1) : W (iRangeD a e S) Q := by
  refine w_bind.mpr (h.imp fun r h => ?_)
  obtain ⟨ds, S1⟩ := r
  match ds, h with
  | [.pu (.int i), .pu (.int j), .pu (.int c)], h =>
    obtain ⟨h1, h2⟩ := (show (rOk i && rOk j && decide (c = -1)) = true ∧ Q (dwnD i (i - j).toNat, S1) from h)
    show W (if (rOk i && rOk j && decide (c = -1)) = true then some _ else none) Q
    rw [if_pos h1]
    exact w_some.mpr h2
def enQ (Q : List D × Sto → Prop) (S : Sto) : List D → Prop
  | [.pu (.list ps)] => Q (numD 0 ps, S)
  | _ => False
theorem w_en {Q : List D × Sto → Prop} {ps : List P} : enQ Q S [.pu (.list ps)] ↔ Q (numD 0 ps, S) := Iff.rfl
theorem enum_of {a : Ax} {Q : List D × Sto → Prop} (h : W (a e S) fun r => enQ Q r.2 r.1) : W (iEnumX a e S) Q := by
  refine w_bind.mpr (h.imp fun r h => ?_)
  obtain ⟨ds, S1⟩ := r
  match ds, h with
  | [.pu (.list ps)], h =>
    show W ((pusOf (ps.map D.pu)).bind fun ps => some (numD 0 ps, S1)) Q
    rw [pus_map, Option.bind_some]
    exact w_some.mpr h
def rvQ (Q : List D × Sto → Prop) (S : Sto) : List D → Prop
  | [.pu (.list ps)] => Q (ps.reverse.map .pu, S)
  | _ => False
theorem w_rv {Q : List D × Sto → Prop} {ps : List P} : rvQ Q S [.pu (.list ps)] ↔ Q (ps.reverse.map .pu, S) := Iff.rfl
theorem rev_of {a : Ax} {Q : List D × Sto → Prop} (h : W (a e S) fun r => rvQ Q r.2 r.1) : W (iRevX a e S) Q := by
  refine w_bind.mpr (h.imp fun r h => ?_)
  obtain ⟨ds, S1⟩ := r
  match ds, h with
  | [.pu (.list ps)], h =>
    show W (some ((ps.map D.pu).reverse, S1)) Q
    rw [← List.map_reverse]
    exact w_some.mpr h
def kdQ (ps : List (Str × P)) (Q : D × Sto → Prop) (S : Sto) : D → Prop
  | .pu (.str z) => W (ps.lookup z) fun p => Q (wrD p, S)
  | _ => False
theorem w_kdS {ps : List (Str × P)} {Q : D × Sto → Prop} {z : Str} : kdQ ps Q S (.pu (.str z)) ↔ W (ps.lookup z) fun p => Q (wrD p, S) := Iff.rfl
theorem w_kd {ps : List (Str × P)} {xb : Ex} {Q : D × Sto → Prop} : W (xKd ps xb e S) Q ↔ W (xb e S) fun r => kdQ ps Q r.2 r.1 := by
  refine w_bind.trans ⟨fun h => h.imp fun r h => ?_, fun h => h.imp fun r h => ?_⟩
  · obtain ⟨d, S1⟩ := r
    cases d with
    | pu p =>
      cases p with
      | str z =>
        obtain ⟨p, h1, h2⟩ := w_bind.mp (show W ((ps.lookup z).bind fun p => some (wrD p, S1)) Q from h)
        exact ⟨p, h1, w_some.mp h2⟩
      | _ => exact (w_none.mp h).elim
    | _ => exact (w_none.mp h).elim
  · obtain ⟨d, S1⟩ := r
    cases d with
    | pu p =>
      cases p with
      | str z =>
        obtain ⟨p, h1, h2⟩ := (show W (ps.lookup z) fun p => Q (wrD p, S1) from h)
        exact w_bind.mpr ⟨p, h1, w_some.mpr h2⟩
      | _ => exact h.elim
    | _ => exact h.elim
/-- str(x) -/
theorem str_of {d : D} {p : P} {Q : D × Sto → Prop} (hd : datS d S = some p) (h0 : gStr.isSeq p = true) (h1 : shp 9 p = true) (h2 : tiny p = true) (h3 : parts p ≤ 24000) (q : Q (.pu (.str p.shown), S)) : W (gStr [d] S) Q := by
  show W ((datS d S).bind _) Q
  rw [hd, Option.bind_some, h0, h1, h2, decide_eq_true h3]
  exact w_some.mpr q
/-- text against text -/
theorem str_same {p : P} {neg : Bool} {Q : D × Sto → Prop} (h : tiny p = true) (q : Q (.pu (.bool neg), S)) : W (gEq (!neg) (.pu (.str p.shown)) (.pu (.str p.shown)) S) Q := by
  have e : shp 9 (.str p.shown) = true := tiny_strOk p h
  rw [w_eq, e]
  refine ⟨rfl, ?_⟩
  have e2 : PyData.eqv (.str p.shown) (.str p.shown) = true := by simp [PyData.eqv]
  rw [e2]
  cases neg <;> exact q
end
theorem numD_range (g : Nat → P) : ∀ n k, numD k ((List.range' k n).map g) = ((List.range' k n).map fun j : Nat => PyData.tuple [.int (j : Int), g j]).map .pu
  | 0, _ => rfl
  | n + 1, k => by
    rw [List.range'_succ, List.map_cons, List.map_cons, List.map_cons, ← numD_range g n (k + 1)]
    rfl
theorem numD_range0 (g : Nat → P) (n : Nat) : numD 0 ((List.range n).map g) = ((List.range n).map fun j : Nat => PyData.tuple [.int (j : Int), g j]).map .pu := by
  rw [List.range_eq_range']
  exact numD_range g n 0
end DL
/-! DLM: t[a:b] of a tuple, the whole of it too; zip of unlike ones. -/
namespace DL
open PySem PySem.Spec PyProof.Rows L2 HT
section
variable {prog : Program} {w : World} {A : Around} {E : Value → Shared → Prop} {s : Shared}
theorem getItem_tuple_whole {t sl : Addr} {items : Array Value} {vl vu : Value} {lo hi : Option Int} {Q : Value → Shared → Prop} (ht : IsTup s.heap t items) (hs : s.heap.IsSliceOf sl vl vu .none) (pl : IsPart vl lo) (pu : IsPart vu hi)
    (hw : HT.sIx items.size 0 lo = 0 ∧ HT.sIx items.size items.size hi = items.size) (h : Q (.ref t) s) : wpAny (model prog w) A (getItem (.ref t) (.ref sl)) Q E s := by
  obtain ⟨os, hos, hcs, hds⟩ := id hs
  have hTs : s.TypeIs (.ref sl) "slice" := ⟨os, hos, hcs⟩
  unfold getItem
  try with_reducible refine wpAny_holding ?_
  first | refine wpAny_bind (wpAny_pure ?_) | skip
  refine wpAny_bind (wpAny_sequenceKey ht.typeIs (by decide) ?_)
  refine wpAny_bind (wpAny_callSpecial?_slot (name := Str.ofString "__getitem__") ht.typeIs PyProof.Rows.slot_tuple_getitem
    (wpAny_call_entry PyProof.Rows.slot_tuple_getitem ht.typeIs entry_tuple_getitem ?_ (args_tuple_getitem _ _)))
  show wpAny _ _ (Builtin.Tuple.tupleItemsOf (.ref t) >>= _) _ _ s
  refine wpAny_bind (tupleItemsOf_ ht ?_)
  refine wpAny_bind (wpAny_typeOf hTs ?_)
  rw [if_pos (by decide)]
  refine wpAny_bind (sliceApplied_gen hs pl pu ?_)
  have hyes : (((HT.sIx items.size 0 lo : Nat) : Int) == 0 && (1 : Int) == 1 && (HT.sIx items.size items.size hi - HT.sIx items.size 0 lo) == items.size) = true := by
    rw [hw.1, hw.2]
    simp
  show wpAny _ _ (if (((HT.sIx items.size 0 lo : Nat) : Int) == 0 && (1 : Int) == 1 && (HT.sIx items.size items.size hi - HT.sIx items.size 0 lo) == items.size) = true then _ else _) _ _ s
  rw [if_pos hyes]
  refine wpAny_bind ?_
  unfold Builtin.Tuple.tupleIsExact
  refine wpAny_bind (wpAny_typeOf ht.typeIs (wpAny_pure ?_))
  rw [if_pos (by decide)]
  refine wpAny_bind (wpAny_rule ?_)
  exact wpAny_pure ⟨_, rfl, wpAny_pure h⟩
end
section
variable {X : Cx} {G : Gx}
def rSlW (K : PySem.W.Frag) : V → Option Int → Option Int → Hp → VK → Prop := fun x lo hi H Q => ∃ a xs, x = .ref a ∧ SqT K H a xs ∧ (HT.sIx xs.length 0 lo = 0 ∧ HT.sIx xs.length xs.length hi = xs.length) ∧ Q (.ref a) H
theorem sl_tupW : SlR X (rSlW X.K) := by
  intro pins s σ H x v vl vu lo hi sl Q I rx hs pl pu h
  obtain ⟨a, xs, rfl, hx, hw, q⟩ := h
  cases rx
  obtain ⟨its, r, ht, hz⟩ := I.tuple hx
  have hlen : its.toArray.size = xs.length := by rw [List.size_toArray]; exact r.length.symm
  refine ⟨"tuple", _, PyProof.Rows.slot_tuple_getitem.lookup, ht.typeIs, ?_⟩
  exact getItem_tuple_whole ht hs pl pu (by rw [hlen]; exact hw) ⟨.ref a, H, I, rfl, q⟩
def gSlA (d : D) (lo hi : Option Int) (S : Sto) : Option (D × Sto) := (seqD d S).bind fun q => (pusOf (cutL q.2 lo hi)).bind fun ps => match q.1 with
  | true => if HT.sIx q.2.length 0 lo = 0 ∧ HT.sIx q.2.length q.2.length hi = q.2.length then some (d, S) else some (.pu (.tuple ps), S)
  | false => some (.pu (.list ps), S)
def xSlA (a : Ex) (lo hi : Ox) : Ex := fun e S => (a e S).bind fun r => (lo e r.2).bind fun l => (hi e l.2).bind fun h => gSlA r.1 l.1 h.1 h.2
theorem d_sliceA {a : Expr} {xa : Ex} {lo hi : Option Expr} {xl xh : Ox} {pos p2 : Pos} (hK : X.K = G.K) (ha : DE X G a xa) (hl : PO X lo (tOx G xl)) (hh : PO X hi (tOx G xh)) : DE X G (.Subscript a (.Slice lo hi none p2) pos) (xSlA xa xl xh) := by
  refine pe_mono (pe_gh (pe_slice (SlR.or sl_list (SlR.or sl_tup sl_tupW)) ha hl hh)) fun σ H Q hw => ?_
  obtain ⟨e, S, f, r0, d, S', hx, q⟩ := hw
  obtain ⟨⟨d1, S1⟩, h1, hx⟩ := Option.bind_eq_some_iff.mp hx
  obtain ⟨⟨o2, S2⟩, h2, hx⟩ := Option.bind_eq_some_iff.mp hx
  obtain ⟨⟨o3, S3⟩, h3, hx⟩ := Option.bind_eq_some_iff.mp hx
  refine ⟨e, S, f, r0, d1, S1, h1, fun v1 H1 f1 r1 n1 p1 => ⟨e, S1, f1, r1, o2, S2, h2, fun H2 f2 r2 n2 => ⟨e, S2, f2, r2, o3, S3, h3, fun H3 f3 r3 n3 => ?_⟩⟩⟩
  obtain ⟨⟨k, is⟩, h4, hx⟩ := Option.bind_eq_some_iff.mp (show (seqD d1 S3).bind _ = _ from hx)
  obtain ⟨ps, h5, hx⟩ := Option.bind_eq_some_iff.mp hx
  have p3 := p1.nx (n2.trans n3)
  obtain ⟨a, us, rfl, ht, hl, hp⟩ := seq_ok r3 p3 h4
  have e5 := pusOf_eq h5
  dsimp only at e5
  have hc := cut_paired hp o2 o3
  rw [e5] at hc
  have nn := (n1.trans n2).trans n3
  rw [hK]
  cases k with
  | false =>
    cases hx
    exact .inl ⟨a, us, rfl, hl rfl, fun p np => lst_fin np (rd_reps hc) fun v H' s rv => q v H' f3 (r3.same s) (nn.trans (.of s _ _)) rv⟩
  | true =>
    dsimp only at hx
    by_cases c : HT.sIx is.length 0 o2 = 0 ∧ HT.sIx is.length is.length o3 = is.length
    · rw [if_pos c] at hx
      cases hx
      exact .inr (.inr ⟨a, us, rfl, ht rfl, by rw [Paired.length hp]; exact c, .inl (q _ H3 f3 r3 nn p3)⟩)
    · rw [if_neg c] at hx
      cases hx
      exact .inr (.inl ⟨a, us, rfl, ht rfl, by rw [Paired.length hp]; exact c, fun p np => tup_fin np (rd_reps hc) fun v H' s rv => q v H' f3 (r3.same s) (nn.trans (.of s _ _)) rv⟩)
end
end DL
/-! LWM: slices of tuples, whole ones too. -/
namespace DL
open PySem PySem.Spec PyProof.Rows L2
section
variable {e : Envi} {S : Sto}
theorem w_xSlA {a : Ex} {lo hi : Ox} {Q : D × Sto → Prop} : W (xSlA a lo hi e S) Q ↔ W (a e S) fun r => W (lo e r.2) fun l => W (hi e l.2) fun h => W (gSlA r.1 l.1 h.1 h.2) Q := w_bind.trans (by simp only [w_bind])
theorem cut_pu (xs : List P) (lo hi : Option Int) : cutL (xs.map D.pu) lo hi = (cutL xs lo hi).map D.pu := by
  unfold cutL
  rw [List.map_take, List.map_drop, List.length_map]
theorem cut_whole {α : Type} {xs : List α} {lo hi : Option Int} (h : HT.sIx xs.length 0 lo = 0 ∧ HT.sIx xs.length xs.length hi = xs.length) : cutL xs lo hi = xs := by
  unfold cutL
  rw [h.1, h.2, List.drop_zero, Nat.sub_zero, List.take_length]
theorem w_slAT {xs : List P} {lo hi : Option Int} {Q : D × Sto → Prop} : W (gSlA (.pu (.tuple xs)) lo hi S) Q ↔ Q (.pu (.tuple (cutL xs lo hi)), S) := by
  show W ((pusOf (cutL (xs.map D.pu) lo hi)).bind fun ps => if HT.sIx (xs.map D.pu).length 0 lo = 0 ∧ HT.sIx (xs.map D.pu).length (xs.map D.pu).length hi = (xs.map D.pu).length then some (D.pu (.tuple xs), S) else some (D.pu (.tuple ps), S)) Q ↔ _
  rw [cut_pu, pus_map, Option.bind_some, List.length_map]
  by_cases c : HT.sIx xs.length 0 lo = 0 ∧ HT.sIx xs.length xs.length hi = xs.length
  · rw [if_pos c, w_some, cut_whole c]
  · rw [if_neg c, w_some]
theorem w_slAL {xs : List P} {lo hi : Option Int} {Q : D × Sto → Prop} : W (gSlA (.pu (.list xs)) lo hi S) Q ↔ Q (.pu (.list (cutL xs lo hi)), S) := by
  show W ((pusOf (cutL (xs.map D.pu) lo hi)).bind fun ps => some (D.pu (.list ps), S)) Q ↔ _
  rw [cut_pu, pus_map, Option.bind_some, w_some]
end
end DL
/-! DLN: sorted(xs) of any length. -/
namespace DL
open PySem PySem.Spec PyProof.Rows L2
/-- the order of data -/
def leP : P → P → Bool := PySem.W.dataLe false id
def tup1 : P → Bool
  | .tuple (_ :: _) => true
  | _ => false
def noTup : P → Bool
  | .none => false
  | .tuple _ => false
  | _ => true
/-- what sorted takes -/
def srtOk (ds : List P) : Bool := (ds.all fun d => ds.all fun d' => PySem.W.alike d d') && (ds.all tup1 || ds.all noTup) && ds.all (shp 8) && decide (ds.length ≤ lim)
theorem each_zip {H : Hp} : ∀ {ws : List V} {ds : List P} {us : List Value}, RepL H ws ds → Vals ws us → PySem.W.EachIs (fun (v : Value) (b : V × P) => RelV b.1 v) us (ws.zip ds)
  | _, _, _, .nil, .nil => .nil
  | _, _, _, .cons h t, .cons r rs => .cons r (each_zip t rs)
theorem each_vals : ∀ {us : List Value} {bs : List (V × P)}, PySem.W.EachIs (fun (v : Value) (b : V × P) => RelV b.1 v) us bs → Vals (bs.map (·.1)) us
  | _, _, .nil => .nil
  | _, _, .cons r rs => .cons r (each_vals rs)
theorem rep_zip {H : Hp} : ∀ {ws : List V} {ds : List P}, RepL H ws ds → ∀ b ∈ ws.zip ds, Rep H b.1 b.2
  | _, _, .nil, b, hb => by cases hb
  | _, _, .cons h t, b, hb => by
    rcases List.mem_cons.mp hb with rfl | hb
    · exact h
    · exact rep_zip t b hb
theorem zip_rep {H : Hp} : ∀ {bs : List (V × P)}, (∀ b ∈ bs, Rep H b.1 b.2) → RepL H (bs.map (·.1)) (bs.map (·.2))
  | [], _ => .nil
  | b :: bs, h => .cons (h b List.mem_cons_self) (zip_rep fun c hc => h c (List.mem_cons_of_mem _ hc))
section
variable {X : Cx} {G : Gx}
theorem each_reads {pins : List (Addr × Obj)} {σ : L2.St} {H : Hp} {s : Shared} (I : Inv X pins σ H s) : ∀ {ws : List V} {ds : List P} {us : List Value}, RepL H ws ds → Vals ws us → ds.all (shp 8) = true → PySem.W.EachIs (fun (v : Value) (b : V × P) => ∃ as, Reads s.heap v b.2 as) us (ws.zip ds)
  | _, _, _, .nil, .nil, _ => .nil
  | _, _, _, .cons h t, .cons r rs, hs => by
    rw [List.all_cons, Bool.and_eq_true] at hs
    exact .cons (Dp.reads I _ _ _ (Rep.dp h (shp_ok 8 _ hs.1).1) r) (each_reads I t rs hs.2)
def rSortD (K : PySem.W.Frag) : List V → Hp → VK → Prop := fun xs H Q => ∃ (a : Addr) (ws : List V) (ds : List P), xs = [.ref a] ∧ SqL K H a ws ∧ RepL H ws ds ∧ srtOk ds = true ∧
  ∀ (ws' : List V) (p : Addr), RepL H ws' (ds.mergeSort leP) → H p = none → Q (.ref p) (upd H p (.lst ws'))
theorem cr_sortD (hu : X.A.units + 65 < cLine) : CallR X (.builtin "sorted") (rSortD X.K) := by
  intro pins s σ H xs us Q I r h
  obtain ⟨a, ws, ds, rfl, hs, hr, ok, q⟩ := h
  obtain ⟨its, rv, hl, hz⟩ := I.list hs
  rw [Vals.ref1 r]
  unfold srtOk at ok
  rw [Bool.and_eq_true, Bool.and_eq_true, Bool.and_eq_true, Bool.or_eq_true, decide_eq_true_eq] at ok
  obtain ⟨⟨⟨o1, o2⟩, o3⟩, o4⟩ := ok
  have en : (ws.zip ds).map (fun b => b.2) = ds := List.map_snd_zip (Nat.le_of_eq hr.length.symm)
  have hal : PySem.W.AllAlike ((ws.zip ds).map fun b => b.2) := by
    rw [en]
    intro d hd d' hd'
    exact List.all_eq_true.mp (List.all_eq_true.mp o1 d hd) d' hd'
  have hk : PySem.W.Sortable ((ws.zip ds).map fun b => b.2) := by
    rw [en]
    rcases o2 with o2 | o2
    · refine .inl fun d hd => ?_
      have := List.all_eq_true.mp o2 d hd
      cases d with
      | tuple xs => cases xs with
        | nil => cases this
        | cons x r => exact ⟨x, r, rfl⟩
      | _ => cases this
    · refine .inr fun d hd => ?_
      have := List.all_eq_true.mp o2 d hd
      exact ⟨fun e => (by rw [e] at this; cases this), fun xs e => (by rw [e] at this; cases this)⟩
  have hlen : (ws.zip ds).length ≤ sizeLine := by rw [List.length_zip, hr.length, Nat.min_self, ← lim_eq]; exact o4
  have hdep : ∀ b, b ∈ ws.zip ds → X.A.units + 2 + (b.2).depth < cLine := fun b hb => by
    have hm : b.2 ∈ ds := by rw [← en]; exact List.mem_map_of_mem hb
    have := (shp_ok 8 _ (List.all_eq_true.mp o3 _ hm)).2
    omega
  refine PySem.W.sorted_data (enc := fun b : V × P => b.2) hl.isList (each_zip hr rv) (each_reads I hr rv o3) hal hk hlen hdep fun out ho eo => ?_
  obtain ⟨ep, he'⟩ := PyProof.Rows.sortedAll_at s.heap its (List.toArray out)
  have hv := each_vals eo
  have hrep : RepL H (((ws.zip ds).mergeSort (PySem.W.dataLe false fun b : V × P => b.2)).map (·.1)) (((ws.zip ds).mergeSort (PySem.W.dataLe false fun b : V × P => b.2)).map (·.2)) := zip_rep fun b hb => rep_zip hr b (List.mem_mergeSort.mp hb)
  have hds : ((ws.zip ds).mergeSort (PySem.W.dataLe false fun b : V × P => b.2)).map (·.2) = ds.mergeSort leP := by
    exact (List.map_mergeSort (r := PySem.W.dataLe false fun b : V × P => b.2) (s := leP) (f := fun b : V × P => b.2) (fun _ _ _ _ => rfl)).trans (by rw [en])
  rw [hds] at hrep
  have hl2 : (((ws.zip ds).mergeSort (PySem.W.dataLe false fun b : V × P => b.2)).map (·.1)).length ≤ sizeLine := by rw [hrep.length, List.length_mergeSort, ← lim_eq]; exact o4
  exact ⟨.ref _, upd H (s.heap.objs.size + 1) (.lst _), I.laid (t' := s.toks) (fun _ _ => PyProof.Rows.sortedAll_old) (Nat.le_succ _) ⟨hl2, out, ep, hv, he'⟩, rfl, q _ _ hrep (I.hok.fresh (Nat.le_succ _))⟩
def gSortW (mk : List P → D) : List D → Sto → Option (D × Sto)
  | [d], S => (seqD d S).bind fun q => (pusOf q.2).bind fun ps => if (!q.1 && srtOk ps) = true then some (mk (ps.mergeSort leP), S) else none
  | _, _ => none
def gSorted : List D → Sto → Option (D × Sto) := gSortW fun ps => .pu (.list ps)
def gSortedN : List D → Sto → Option (D × Sto) := gSortW fun ps => .nw (.lst ps)
theorem v_sortD (hK : X.K = G.K) : VA G (rSortD X.K) gSorted := by
  intro σ H e S f vs ds d S' Q r0 rs hg q
  match ds, rs with
  | [dx], .cons (a := x) rx .nil =>
    obtain ⟨⟨k, is⟩, h1, hg⟩ := Option.bind_eq_some_iff.mp (show (seqD dx S).bind _ = _ from hg)
    obtain ⟨ps, h2, hg⟩ := Option.bind_eq_some_iff.mp hg
    by_cases c : (!k && srtOk ps) = true
    · rw [if_pos c] at hg
      cases hg
      rw [Bool.and_eq_true, Bool.not_eq_true'] at c
      obtain ⟨rfl, c2⟩ := c
      obtain ⟨a, us, rfl, ht, hl, hp⟩ := seq_ok r0 rx h1
      have e2 := pusOf_eq h2
      dsimp only at e2
      subst e2
      rw [hK]
      exact ⟨a, us, ps, rfl, hl rfl, rd_reps hp, c2, fun ws' p hr np => lst_fin np hr fun v H' s rv => q v H' f (r0.same s) (.of s _ _) rv⟩
    · rw [if_neg c] at hg
      cases hg
  | [], _ => cases hg
  | _ :: _ :: _, _ => simp [gSorted, gSortW] at hg
theorem v_sortDN (hK : X.K = G.K) : VA G (rSortD X.K) gSortedN := by
  intro σ H e S f vs ds d S' Q r0 rs hg q
  match ds, rs with
  | [dx], .cons (a := x) rx .nil =>
    obtain ⟨⟨k, is⟩, h1, hg⟩ := Option.bind_eq_some_iff.mp (show (seqD dx S).bind _ = _ from hg)
    obtain ⟨ps, h2, hg⟩ := Option.bind_eq_some_iff.mp hg
    by_cases c : (!k && srtOk ps) = true
    · rw [if_pos c] at hg
      cases hg
      rw [Bool.and_eq_true, Bool.not_eq_true'] at c
      obtain ⟨rfl, c2⟩ := c
      obtain ⟨a, us, rfl, ht, hl, hp⟩ := seq_ok r0 rx h1
      have e2 := pusOf_eq h2
      dsimp only at e2
      subst e2
      rw [hK]
      exact ⟨a, us, ps, rfl, hl rfl, rd_reps hp, c2, fun ws' p hr np => nw_fin r0 np hr q⟩
    · rw [if_neg c] at hg
      cases hg
  | [], _ => cases hg
  | _ :: _ :: _, _ => simp [gSortedN, gSortW] at hg
end
end DL
/-! LWN: sorted, and what is rising. -/
namespace DL
open PySem PySem.Spec PyProof.Rows L2
theorem sort_own {mk : List P → D} {i : Nat} {xs : List P} {S : Sto} {Q : D × Sto → Prop} (h : srtOk xs = true) (q : Q (mk (xs.mergeSort leP), S)) : W (gSortW mk [.bo i (.lst xs)] S) Q := by
  show W ((pusOf (xs.map D.pu)).bind fun ps => if (!false && srtOk ps) = true then some (mk (ps.mergeSort leP), S) else none) Q
  rw [pus_map, Option.bind_some, h]
  exact w_some.mpr q
theorem sort_pu {mk : List P → D} {xs : List P} {S : Sto} {Q : D × Sto → Prop} (h : srtOk xs = true) (q : Q (mk (xs.mergeSort leP), S)) : W (gSortW mk [.pu (.list xs)] S) Q := by
  show W ((pusOf (xs.map D.pu)).bind fun ps => if (!false && srtOk ps) = true then some (mk (ps.mergeSort leP), S) else none) Q
  rw [pus_map, Option.bind_some, h]
  exact w_some.mpr q
/-- what rises is told by what it holds -/
theorem rising_eq {α : Type} {r : α → α → Prop} (irr : ∀ a, ¬ r a a) (tr : ∀ a b c, r a b → r b c → r a c) : ∀ {xs ys : List α}, xs.Pairwise r → ys.Pairwise r → (∀ a, a ∈ xs ↔ a ∈ ys) → xs = ys
  | [], [], _, _, _ => rfl
  | [], y :: ys, _, _, h => by have := (h y).mpr List.mem_cons_self; cases this
  | x :: xs, [], _, _, h => by have := (h x).mp List.mem_cons_self; cases this
  | x :: xs, y :: ys, px, py, h => by
    rw [List.pairwise_cons] at px py
    have exy : x = y := by
      rcases List.mem_cons.mp ((h x).mp List.mem_cons_self) with e | e
      · exact e
      rcases List.mem_cons.mp ((h y).mpr List.mem_cons_self) with e2 | e2
      · exact e2.symm
      · exact absurd (tr _ _ _ (px.1 y e2) (py.1 x e)) (irr x)
    subst exy
    rw [rising_eq irr tr px.2 py.2 fun a => ⟨fun ha => by
      rcases List.mem_cons.mp ((h a).mp (List.mem_cons_of_mem _ ha)) with e | e
      · subst e; exact absurd (px.1 a ha) (irr a)
      · exact e, fun ha => by
      rcases List.mem_cons.mp ((h a).mpr (List.mem_cons_of_mem _ ha)) with e | e
      · subst e; exact absurd (py.1 a ha) (irr a)
      · exact e⟩]
/-! ### triples of whole numbers -/
abbrev T3 := Int × Int × Int
def qe (t : T3) : P := .tuple [.int t.1, .int t.2.1, .int t.2.2]
def lt3 (a b : T3) : Prop := a.1 < b.1 ∨ (a.1 = b.1 ∧ (a.2.1 < b.2.1 ∨ (a.2.1 = b.2.1 ∧ a.2.2 < b.2.2)))
def le3 (a b : T3) : Prop := a.1 < b.1 ∨ (a.1 = b.1 ∧ (a.2.1 < b.2.1 ∨ (a.2.1 = b.2.1 ∧ a.2.2 ≤ b.2.2)))
instance (a b : T3) : Decidable (lt3 a b) := by unfold lt3; infer_instance
instance (a b : T3) : Decidable (le3 a b) := by unfold le3; infer_instance
theorem lt3_irr (a : T3) : ¬ lt3 a a := by unfold lt3; omega
theorem lt3_tr (a b c : T3) (h : lt3 a b) (k : lt3 b c) : lt3 a c := by unfold lt3 at *; omega
theorem leP_q (a b : T3) : leP (qe a) (qe b) = decide (le3 a b) := by
  show (!PySem.W.dataLt (qe b) (qe a)) = _
  unfold qe
  rw [PySem.W.dataLt_tuple]
  have e : PySem.W.rowLt [.int b.1, .int b.2.1, .int b.2.2] [.int a.1, .int a.2.1, .int a.2.2] = decide ([b.1, b.2.1, b.2.2] < [a.1, a.2.1, a.2.2]) := PySem.W.dataLt_ints [b.1, b.2.1, b.2.2] [a.1, a.2.1, a.2.2]
  unfold PySem.W.rowLt at e
  rw [e, ← decide_not]
  unfold le3
  congr 1
  simp only [List.cons_lt_cons_iff, List.not_lt_nil, and_false, or_false, eq_iff_iff]
  omega
theorem sort_q (ts : List T3) : (ts.map qe).mergeSort leP = (ts.mergeSort fun a b => decide (le3 a b)).map qe :=
  (List.map_mergeSort (r := fun a b : T3 => decide (le3 a b)) (s := leP) (f := qe) fun a _ b _ => (leP_q a b).symm).symm
theorem srt_q {ts : List T3} (h : ts.length ≤ lim) : srtOk (ts.map qe) = true := by
  unfold srtOk
  have h1 : ((ts.map qe).all fun d => (ts.map qe).all fun d' => PySem.W.alike d d') = true := by
    rw [List.all_map, List.all_eq_true]
    intro a _
    show ((ts.map qe).all fun d' => PySem.W.alike (qe a) d') = true
    rw [List.all_map, List.all_eq_true]
    intro b _
    show PySem.W.alike (qe a) (qe b) = true
    simp [qe, PySem.W.alike, PySem.W.alikeAll]
  have h2 : (ts.map qe).all tup1 = true := by rw [List.all_map, List.all_eq_true]; intro _ _; rfl
  have h3 : (ts.map qe).all (shp 8) = true := by rw [List.all_map, List.all_eq_true]; intro _ _; rfl
  rw [h1, h2, h3, List.length_map, decide_eq_true h]
  rfl
/-- sorted, of what stands once -/
theorem sorted_once {ts : List T3} (nd : ts.Nodup) : (ts.mergeSort fun a b => decide (le3 a b)).Pairwise lt3 := by
  have p := List.pairwise_mergeSort (le := fun a b : T3 => decide (le3 a b)) (fun a b c h k => by
    rw [decide_eq_true_eq] at *
    unfold le3 at *
    omega) (fun a b => by
    rw [Bool.or_eq_true, decide_eq_true_eq, decide_eq_true_eq]
    unfold le3
    omega) ts
  have n : (ts.mergeSort fun a b => decide (le3 a b)).Nodup := (List.mergeSort_perm ts _).nodup_iff.mpr nd
  refine (List.pairwise_and_iff.mpr ⟨p, n⟩).imp fun {a b} h => ?_
  obtain ⟨h1, h2⟩ := h
  rw [decide_eq_true_eq] at h1
  have h3 : ¬ (a.1 = b.1 ∧ a.2.1 = b.2.1 ∧ a.2.2 = b.2.2) := fun z => h2 (Prod.ext z.1 (Prod.ext z.2.1 z.2.2))
  unfold le3 at h1
  unfold lt3
  omega
end DL
/-! DLQ: zip of a list or tuple and a list or tuple. -/
namespace DL
open PySem PySem.Spec PyProof.Rows L2
/-- a list (false) or a tuple (true) -/
def SqB (K : PySem.W.Frag) (H : Hp) : Bool → Addr → List V → Prop
  | true, a, xs => SqT K H a xs
  | false, a, xs => SqL K H a xs
def itB (h : Heap) : Bool → Addr → Addr → Nat → Prop
  | true, i, a, n => h.IsTupleIter i a n
  | false, i, a, n => h.IsListIter i a n
def sqB (h : Heap) : Bool → Addr → Array Value → Prop
  | true, a, xs => h.IsTuple a xs
  | false, a, xs => h.IsList a xs
def newB : Bool → Addr → Obj
  | true, a => { cls := .type "tuple_iterator", data := .fields #[.ref a, .int 0 0] }
  | false, a => { cls := .type "list_iterator", data := .fields #[.ref a, .int 0 0] }
theorem drawsB {prog : Program} {w : World} {A : Around} (hh : A.handled = none) (k : Bool) (it l : Addr) (hne : l ≠ it) (items : Array Value) :
    Draws prog w A it [it, l] items.size (fun i v => items[i]? = some v) (fun i h => itB h k it l i ∧ sqB h k l items) := by
  cases k
  · exact Draws.list hh it l hne items
  · exact Draws.tuple hh it l hne items
theorem beginsB (k : Bool) (l : Addr) (items : Array Value) : Begins (.ref l) (newB k l) fun h => sqB h k l items := by
  cases k
  · exact begins_list l items
  · exact begins_tuple l items
theorem itB_new {k : Bool} {h : Heap} {i l : Addr} (e : h.get? i = some (newB k l)) : itB h k i l 0 := by
  cases k
  · exact ⟨_, e, rfl, rfl⟩
  · exact ⟨_, e, rfl, rfl⟩
theorem itB_obj {k : Bool} {h : Heap} {i l : Addr} {n : Nat} (e : itB h k i l n) : ∃ o vs, h.get? i = some o ∧ o.data = .fields vs := by
  cases k
  · obtain ⟨o, e1, _, d1⟩ := e; exact ⟨o, _, e1, d1⟩
  · obtain ⟨o, e1, _, d1⟩ := e; exact ⟨o, _, e1, d1⟩
theorem itB_at {k : Bool} {h h' : Heap} {i l : Addr} {n : Nat} (e : itB h k i l n) (q : ∀ o, h.get? i = some o → h'.get? i = some o) : itB h' k i l n := by
  cases k
  · exact Heap.IsListIter.at e q
  · exact Heap.IsTupleIter.at e q
section
variable {X : Cx} {pins : List (Addr × Obj)} {σ : L2.St} {H : Hp} {s : Shared}
theorem invB (I : Inv X pins σ H s) {k : Bool} {a : Addr} {xs : List V} (h : SqB X.K H k a xs) : ∃ its, Vals xs its ∧ sqB s.heap k a its.toArray ∧ a < s.heap.objs.size := by
  cases k
  · obtain ⟨its, rv, p, _⟩ := I.list h
    exact ⟨its, rv, p.isList, p.lt⟩
  · obtain ⟨its, rv, p, _⟩ := I.tuple h
    obtain ⟨o, ho, hd⟩ := id p
    exact ⟨its, rv, ⟨o, ho, hd⟩, Heap.lt_size ho⟩
theorem injB (I : Inv X pins σ H s) {k : Bool} {a : Addr} {xs ys : List V} (h : SqB X.K H k a xs) (h' : SqB X.K H k a ys) : xs = ys := by
  cases k
  · exact I.list_inj h h'
  · exact I.tuple_inj h h'
end
def ItzB (K : PySem.W.Frag) (k k' : Bool) (a b : Addr) : It :=
  ⟨fun i H => ∃ (xs ys : List V) (x y : V), SqB K H k a xs ∧ SqB K H k' b ys ∧ xs[i]? = some x ∧ ys[i]? = some y,
    fun i H v H' => ∃ T x y, v = .ref T ∧ H T = none ∧ H' = upd H T (.tup [x, y]) ∧ (∀ xs, SqB K H k a xs → xs[i]? = some x) ∧ ∀ ys, SqB K H k' b ys → ys[i]? = some y,
    fun i H => ∃ xs ys : List V, SqB K H k a xs ∧ SqB K H k' b ys ∧ (i ≤ xs.length ∧ i ≤ ys.length ∧ (i = xs.length ∨ i = ys.length))⟩
theorem zsep {z TI TO i1 i2 a b : Addr} (D : ZipApart z TI TO i1 i2 a b) : ZipSep2 z TI TO i1 i2 [i1, a] [i2, b] where
  TIz := D.TIz
  TOz := D.TOz
  TITO := D.TITO
  TIi1 := D.TIi1
  mem1 := by simp
  zf1 := by simp [Ne.symm D.i1z, Ne.symm D.l1z]
  Tf1 := by simp [D.TOi1, Ne.symm D.l1TO]
  TIi2 := D.TIi2
  mem2 := by simp
  zf2 := by simp [Ne.symm D.i2z, Ne.symm D.l2z]
  Tf2 := by simp [D.TOi2, Ne.symm D.l2TO]
  sep1_2 := by simp [D.i12, Ne.symm D.l2i1]
  sep2_1 := by simp [Ne.symm D.i12, Ne.symm D.l1i2]
theorem turn_zipB {P : Program} {w : World} {K : PySem.W.Frag} {elts : List Expr} {kk : Nat} {tpos : Pos} {k k' : Bool} {a b z TI TO i1 i2 : Addr} (D : ZipApart z TI TO i1 i2 a b) :
    Turn P w K (.Tuple elts kk tpos) (ItzB K k k' a b) [z, TI, TO, i1, i2] z (fun i h => IsZip h z TI TO .none ∧ IsPair h TI (.ref i1) (.ref i2) ∧ (∃ x y, IsPair h TO x y) ∧ itB h k i1 a i ∧ itB h k' i2 b i) where
  mem := by simp
  obj := fun i h st c hc => by
    obtain ⟨hz, hTI, ⟨x, y, hTO⟩, g1, g2⟩ := st
    obtain ⟨o1, vs1, e1, d1⟩ := itB_obj g1
    obtain ⟨o2, vs2, e2, d2⟩ := itB_obj g2
    have e' : c = z ∨ c = TI ∨ c = TO ∨ c = i1 ∨ c = i2 := by simpa using hc
    rcases e' with q | q | q | q | q
    · rw [q]; exact ⟨_, hz, fun v q => nomatch q⟩
    · rw [q]; exact ⟨_, hTI, fun v q => nomatch q⟩
    · rw [q]; exact ⟨_, hTO, fun v q => nomatch q⟩
    · rw [q]; exact ⟨o1, e1, fun v q => by rw [d1] at q; cases q⟩
    · rw [q]; exact ⟨o2, e2, fun v q => by rw [d2] at q; cases q⟩
  keep := fun i h h' st k => by
    obtain ⟨hz, hTI, ⟨x, y, hTO⟩, h1, h2⟩ := st
    exact ⟨k z (by simp) _ hz, k TI (by simp) _ hTI, ⟨x, y, k TO (by simp) _ hTO⟩, itB_at h1 fun o q => k i1 (by simp) o q, itB_at h2 fun o q => k i2 (by simp) o q⟩
  item := by
    intro X hP hw hK hc i pins s σ H E I hf st hg
    subst hP hw hK
    obtain ⟨hz, hTI, ⟨x0, y0, hTO⟩, h1, h2⟩ := st
    obtain ⟨xs, ys, x, y, hqx, hqy, hx, hy⟩ := hg
    obtain ⟨its, rv, p, _⟩ := invB I hqx
    obtain ⟨its2, rv2, p2, _⟩ := invB I hqy
    obtain ⟨u, hu, ru⟩ := rv.get hx
    obtain ⟨u2, hu2, ru2⟩ := rv2.get hy
    have hzl : z < s.heap.objs.size := Heap.lt_size hz
    have hh : X.A.in1.handled = none := I.ok.hd hc
    have hi1 : i < its.toArray.size := by
      have := List.getElem?_eq_some_iff.mp hu
      obtain ⟨h, _⟩ := this
      simpa using h
    have hi2 : i < its2.toArray.size := by
      have := List.getElem?_eq_some_iff.mp hu2
      obtain ⟨h, _⟩ := this
      simpa using h
    refine wpAny_pyNext_zipD2_item (zsep D) (drawsB hh k i1 a D.l1i1 its.toArray) (drawsB hh k' i2 b D.l2i2 its2.toArray) hz hTI hTO ⟨h1, p⟩ ⟨h2, p2⟩ hi1 hi2 fun x1 x2 h' tk e1 e2 z' TO' n1 n2 hT hsz hk => ?_
    have e1 : u = x1 := Option.some.inj ((by simpa using hu : its.toArray[i]? = some u).symm.trans e1)
    have e2 : u2 = x2 := Option.some.inj ((by simpa using hu2 : its2.toArray[i]? = some u2).symm.trans e2)
    subst e1 e2
    refine ⟨_, rfl, wpAny_letOwnedTupleGo_zip (s := { s with heap := h', toks := tk }) z' fun h'' z'' sb => ?_⟩
    have hT2 : h''.get? s.heap.objs.size = some { cls := .type "tuple", data := .seq #[u, u2] } := (sb.2 _ (Nat.ne_of_gt hzl)).trans hT
    have new : ObjOk X.prog X.w (upd H s.heap.objs.size (.tup [x, y])) h'' s.heap.objs.size (.tup [x, y]) :=
      ⟨by show 2 ≤ sizeLine; decide, [u, u2], .cons ru (.cons ru2 .nil), ⟨_, hT2, rfl, _, rfl⟩⟩
    have I1 : Inv X pins σ (upd H s.heap.objs.size (.tup [x, y])) { s with heap := h'', toks := tk } :=
      I.turnedNew (t' := tk) (ch := [z, TI, TO, i1, i2]) (fun c o hb q => (sb.2 c (fun q' => hb (by simp [q']))).trans (hk c o (fun q' => hb (by simp [q'])) (fun q' => hb (by simp [q'])) (fun q' => hb (by simp [q'])) (fun q' => hb (by simp [q'])) q)) hf (Nat.le_refl _) new
    obtain ⟨o1, vs1, g1, _⟩ := itB_obj h1
    obtain ⟨o2, vs2, g2, _⟩ := itB_obj h2
    refine ⟨.ref s.heap.objs.size, _, I1, rfl, ⟨_, x, y, rfl, I.hok.fresh (Nat.le_refl _), rfl, fun l hl => by rw [injB I hl hqx]; exact hx, fun l hl => by rw [injB I hl hqy]; exact hy⟩, ⟨z'', ?_, ⟨u, u2, ?_⟩, ?_, ?_⟩, fun c hcm => ?_⟩
    · exact (sb.2 _ D.TIz).trans (hk _ _ D.TIz D.TITO D.TIi1 D.TIi2 hTI)
    · exact (sb.2 _ D.TOz).trans TO'
    · exact itB_at n1.1 fun o q => (sb.2 _ D.i1z).trans q
    · exact itB_at n2.1 fun o q => (sb.2 _ D.i2z).trans q
    · have hlt : c < s.heap.objs.size := by
        have e' : c = z ∨ c = TI ∨ c = TO ∨ c = i1 ∨ c = i2 := by simpa using hcm
        rcases e' with q | q | q | q | q
        · rw [q]; exact hzl
        · rw [q]; exact Heap.lt_size hTI
        · rw [q]; exact Heap.lt_size hTO
        · rw [q]; exact Heap.lt_size g1
        · rw [q]; exact Heap.lt_size g2
      rw [upd_ne (Nat.ne_of_lt hlt)]
      exact (hf c hcm).1
  done := by
    intro X hP hw hK hc i pins s σ H E I hf st hg
    subst hP hw hK
    obtain ⟨hz, hTI, ⟨x0, y0, hTO⟩, h1, h2⟩ := st
    obtain ⟨xs, ys, hqx, hqy, hend⟩ := hg
    obtain ⟨its, rv, p, _⟩ := invB I hqx
    obtain ⟨its2, rv2, p2, _⟩ := invB I hqy
    have l1 := rv.length
    have l2 := rv2.length
    have hh : X.A.in1.handled = none := I.ok.hd hc
    exact wpAny_pyNext_zipD2_end (zsep D) (drawsB hh k i1 a D.l1i1 its.toArray) (drawsB hh k' i2 b D.l2i2 its2.toArray) hz hTI hTO ⟨h1, p⟩ ⟨h2, p2⟩ (by rw [List.size_toArray]; omega) (by rw [List.size_toArray]; omega) (by rw [List.size_toArray, List.size_toArray]; omega) fun h' tk hk => ⟨rfl, I.turnedL (t' := tk) (ch := [z, TI, TO, i1, i2]) (fun c o hb q =>
      hk c o (fun q' => hb (by simp [q'])) (fun q' => hb (by simp [q'])) (fun q' => hb (by simp [q'])) (fun q' => hb (by simp [q'])) q) hf⟩
  self := fun A i s Q E st h => wpAny_pyIter_zip st.1 h
def iZipB (K : PySem.W.Frag) (ta : TA) : TI := fun σ H R => ta σ H fun vs H1 => ∃ k k' a b xs ys, vs = [.ref a, .ref b] ∧ SqB K H1 k a xs ∧ SqB K H1 k' b ys ∧ R (ItzB K k k' a b) H1
theorem pi_zipB {X : Cx} {e e2 : Expr} {ta : TA} {p pos tpos : Pos} {elts : List Expr} {kk : Nat} (hg : Gl X "zip") (hm : X.mg "zip" = none) (ha : PA X [e, e2] ta)
    (hs : starEach [e, e2] X.env = (false, eval e X.env) :: starEach [e2] X.env := by rfl) (hpl : (backTo pos (starEach [e2] X.env)).any (·.1) = false := by rfl) :
    PI X (.Tuple elts kk tpos) (.Call (.Name "zip" p) [e, e2] [] pos) (iZipB X.K ta) := by
  refine ⟨fun pins s σ H R I h => ?_⟩
  refine Call_ (ld_blt I hg hm PyProof.Rows.boot_zip (PyProof.Rows.callWith_type1 (thn (ha.run pos pins s σ H _ I h) fun us s1 ⟨vs, H1, I1, r1, q1⟩ => ?_) hs hpl))
  obtain ⟨k, k', a, b, xs, ys, ex, hqx, hqy, q⟩ := q1
  subst ex
  cases r1 with
  | cons r rr =>
    cases rr with
    | cons r' rr =>
      cases rr
      cases r
      cases r'
      have fresh5 : ∀ c, c ∈ [s1.heap.objs.size + 4, s1.heap.objs.size + 2, s1.heap.objs.size + 3, s1.heap.objs.size, s1.heap.objs.size + 1] → FpOk X pins H1 c := fun c hcm => by
        have e' : c = s1.heap.objs.size + 4 ∨ c = s1.heap.objs.size + 2 ∨ c = s1.heap.objs.size + 3 ∨ c = s1.heap.objs.size ∨ c = s1.heap.objs.size + 1 := by simpa using hcm
        have hle : s1.heap.objs.size ≤ c := by
          rcases e' with z | z | z | z | z
          · rw [z]; exact Nat.le_add_right _ _
          · rw [z]; exact Nat.le_add_right _ _
          · rw [z]; exact Nat.le_add_right _ _
          · rw [z]; exact Nat.le_refl _
          · rw [z]; exact Nat.le_add_right _ _
        exact I1.fpOk hle (I1.hok.fresh hle)
      obtain ⟨its, rv, p1, la⟩ := invB I1 hqx
      obtain ⟨its2, rv2, p2, lb⟩ := invB I1 hqy
      refine zip_begins2 (beginsB k a its.toArray) (beginsB k' b its2.toArray) p1 p2 fun h' hz hTI hTO h1 h2 hsz hk => wpAny_pyIter_zip hz ?_
      have I2 : Inv X pins σ H1 { s1 with heap := h' } := I1.kept (t' := s1.toks) hk
      exact ⟨s1.heap.objs.size + 4, [s1.heap.objs.size + 4, s1.heap.objs.size + 2, s1.heap.objs.size + 3, s1.heap.objs.size, s1.heap.objs.size + 1], _, _, H1, rfl, I2, turn_zipB (PySem.W.ktu_apart s1.heap.objs.size a b la lb), ⟨hz, hTI, ⟨_, _, hTO⟩, itB_new h1, itB_new h2⟩, fresh5, q⟩
section
variable {X : Cx} {G : Gx}
def iZipY (a : Ax) : Ix := fun e S => (a e S).bind fun r => match r.1 with
  | [d, d'] => match itemsD d, itemsD d' with
    | some (_, ds), some (_, ds') => (pusOf ds).bind fun ps => (pusOf ds').bind fun qs => some (zipD ps qs, r.2)
    | _, _ => none
  | _ => none
theorem zipD_len : ∀ (ps qs : List P), (zipD ps qs).length ≤ ps.length ∧ (zipD ps qs).length ≤ qs.length ∧ ((zipD ps qs).length = ps.length ∨ (zipD ps qs).length = qs.length)
  | [], _ => ⟨Nat.zero_le _, Nat.zero_le _, .inl rfl⟩
  | _ :: _, [] => ⟨Nat.zero_le _, Nat.zero_le _, .inr rfl⟩
  | p :: ps, q :: qs => by
    obtain ⟨h1, h2, h3⟩ := zipD_len ps qs
    show (zipD ps qs).length + 1 ≤ ps.length + 1 ∧ (zipD ps qs).length + 1 ≤ qs.length + 1 ∧ ((zipD ps qs).length + 1 = ps.length + 1 ∨ (zipD ps qs).length + 1 = qs.length + 1)
    omega
theorem itemsB {G : Gx} {H : Hp} {k : Bool} {a : Addr} {us : List V} (h : (k = true → SqT G.K H a us) ∧ (k = false → SqL G.K H a us)) : SqB G.K H k a us := by
  cases k
  · exact h.2 rfl
  · exact h.1 rfl
theorem di_zipB {a b : Expr} {xa : Ax} {p pos tpos : Pos} {elts : List Expr} {kk : Nat} (hK : X.K = G.K) (hg : Gl X "zip") (hm : X.mg "zip" = none) (ha : DA X G [a, b] xa) (hs : starEach [a, b] X.env = (false, eval a X.env) :: starEach [b] X.env := by rfl) (hpl : (backTo pos (starEach [b] X.env)).any (·.1) = false := by rfl) : DI X G (.Tuple elts kk tpos) (.Call (.Name "zip" p) [a, b] [] pos) (iZipY xa) := pi_mono (pi_zipB hg hm ha hs hpl) fun σ H Q hw => by
  obtain ⟨e, S, f, r, ds, S', hx, q⟩ := hw
  obtain ⟨⟨as, S1⟩, h1, hx⟩ := Option.bind_eq_some_iff.mp hx
  refine ⟨e, S, f, r, as, S1, h1, fun vs H1 f1 r1 n1 p1 => ?_⟩
  match as, p1, hx with
  | [d, d'], .cons p2 (.cons p3 .nil), hx =>
    dsimp only at hx
    cases hi : itemsD d with
    | none => rw [hi] at hx; cases hx
    | some ki =>
      obtain ⟨k, is⟩ := ki
      cases hj : itemsD d' with
      | none => rw [hi, hj] at hx; cases hx
      | some kj =>
        obtain ⟨k', js⟩ := kj
        rw [hi, hj] at hx
        dsimp only at hx
        obtain ⟨ps, h3, hx⟩ := Option.bind_eq_some_iff.mp hx
        obtain ⟨qs, h4, hx⟩ := Option.bind_eq_some_iff.mp hx
        cases hx
        have e3 := pusOf_eq h3
        have e4 := pusOf_eq h4
        subst e3 e4
        obtain ⟨a, us, rfl, hh⟩ := items_ok p2 hi
        obtain ⟨b, ws, rfl, hh'⟩ := items_ok p3 hj
        have sa : ∀ H', Ext0 H1 H' → SqB G.K H' k a us := fun H' x => itemsB (G := G) ⟨(hh H' x).1, (hh H' x).2.1⟩
        have sb : ∀ H', Ext0 H1 H' → SqB G.K H' k' b ws := fun H' x => itemsB (G := G) ⟨(hh' H' x).1, (hh' H' x).2.1⟩
        rw [hK]
        refine ⟨k, k', a, b, us, ws, rfl, sa H1 (.refl _), sb H1 (.refl _), q _ H1 f1 r1 n1 ⟨fun H' i d x hd => ?_, fun H' i d v H2 x hd hy => ?_, fun H' x => ?_⟩⟩
        · obtain ⟨p, q', hp, hq, _⟩ := zipD_get ps qs i d hd
          obtain ⟨_, _, h6⟩ := hh H' x
          obtain ⟨_, _, h7⟩ := hh' H' x
          obtain ⟨u, hu, _⟩ := Paired.get2 h6 (show (ps.map D.pu)[i]? = some (.pu p) by rw [List.getElem?_map, hp]; rfl)
          obtain ⟨w, hw, _⟩ := Paired.get2 h7 (show (qs.map D.pu)[i]? = some (.pu q') by rw [List.getElem?_map, hq]; rfl)
          exact ⟨us, ws, u, w, sa H' x, sb H' x, hu, hw⟩
        · obtain ⟨p, q', hp, hq, rfl⟩ := zipD_get ps qs i d hd
          obtain ⟨_, _, h6⟩ := hh H' x
          obtain ⟨_, _, h7⟩ := hh' H' x
          obtain ⟨T, y, z, rfl, nT, rfl, hy, hz⟩ := hy
          obtain ⟨u, hu, pu⟩ := Paired.get2 h6 (show (ps.map D.pu)[i]? = some (.pu p) by rw [List.getElem?_map, hp]; rfl)
          obtain ⟨w, hw, pw⟩ := Paired.get2 h7 (show (qs.map D.pu)[i]? = some (.pu q') by rw [List.getElem?_map, hq]; rfl)
          have e1 : u = y := Option.some.inj (hu.symm.trans (hy us (sa H' x)))
          have e2 : w = z := Option.some.inj (hw.symm.trans (hz ws (sb H' x)))
          rw [e1] at pu
          rw [e2] at pw
          have s := upd_new (o := .tup [y, z]) nT
          exact ⟨s, Rep.tup upd_same (.cons (Rep.ext (.of s) pu) (.cons (Rep.ext (.of s) pw) .nil))⟩
        · obtain ⟨_, _, h6⟩ := hh H' x
          obtain ⟨_, _, h7⟩ := hh' H' x
          refine ⟨us, ws, sa H' x, sb H' x, ?_⟩
          rw [paired_len h6, paired_len h7, List.length_map, List.length_map]
          exact zipD_len ps qs
end
end DL
/-! DLR: enumerate of a list or a tuple. -/
namespace DL
open PySem PySem.Spec PyProof.Rows L2
section
open Sem (wp)
theorem meets_enum1 {v : Value} {o : Obj} {H : Heap → Prop} (B : Begins v o H) :
    Meets (Builtin.«enumerate.__new__» ⟨[.type "enumerate", v], []⟩) (fun _ R s => H s.heap ∧
      R (.ok (.ret (.ref (s.heap.push o).objs.size))) { s with heap := (s.heap.push o).push { cls := .type "enumerate", data := .fields #[.none, .bool false, .ref s.heap.objs.size, rawInt 0, .none, .none] } }) :=
  .of_wp fun prog w A R s h => by
    obtain ⟨hp, g, d, tk, os⟩ := s; obtain ⟨h1, h⟩ := h
    have hsub := sub_enumerate
    have q1 : ∀ {A' : Around} {E : Value → Shared → Prop} {Q : Value → Shared → Prop}, Q (.ref hp.objs.size) ⟨hp.push o, g, d, tk, os⟩ → wpAny (model prog w) A' (pyIter v) Q E ⟨hp, g, d, tk, os⟩ :=
      fun q => B.iter prog w _ _ ⟨hp, g, d, tk, os⟩ _ h1 q
    wp_walk using q1
    refine wpAny_stack_any fun st => wpAny_pure ?_
    split
    · rename_i c _ _ _ _ _
      cases (c == Value.type "enumerate")
      · wp_walk using q1
        exact ⟨_, rfl, h⟩
      · wp_walk using q1
        exact ⟨_, rfl, h⟩
    · wp_walk using q1
      exact ⟨_, rfl, h⟩
end
section
variable {prog : Program} {w : World} {A : Around} {E : Value → Shared → Prop} {s : Shared}
theorem call_enumB {v : Value} {o : Obj} {H : Heap → Prop} {Q : Value → Shared → Prop} (B : Begins v o H) (h1 : H s.heap)
    (h : ∀ h', IsEnum h' (s.heap.objs.size + 1) s.heap.objs.size 0 .none → h'.get? s.heap.objs.size = some o → h'.objs.size = s.heap.objs.size + 2 →
      (∀ b o, s.heap.get? b = some o → h'.get? b = some o) → Q (.ref (s.heap.objs.size + 1)) { s with heap := h' }) :
    wpAny (model prog w) A (call (.type "enumerate") [v]) Q E s := by
  refine callType_new F.called_enumerate (by decide) (F.typeCall_enumerate_1 _) (F.newCall_enumerate_1 _) (fun obj => F.args_object_init_2 obj _) F.entry_enumerate_new
    (meets_enum1 B) ⟨h1, ?_⟩
  have hz : (s.heap.push o).objs.size = s.heap.objs.size + 1 := Heap.size_push ..
  show _ ∧ _
  rw [hz]
  have he : IsEnum ((s.heap.push o).push { cls := .type "enumerate", data := .fields #[.none, .bool false, .ref s.heap.objs.size, rawInt 0, .none, .none] }) (s.heap.objs.size + 1) s.heap.objs.size 0 .none := by
    have := Heap.get?_push_size (s.heap.push o) (o := { cls := .type "enumerate", data := .fields #[.none, .bool false, .ref s.heap.objs.size, rawInt 0, .none, .none] }) rfl
    rw [hz] at this; exact this
  refine ⟨⟨_, he, rfl⟩, h _ he (Heap.get?_push_of_some _ (Heap.get?_push_size _ B.free)) (by rw [Heap.size_push, hz]) fun b o x => Heap.get?_push_of_some _ (Heap.get?_push_of_some _ x)⟩
end
def IteB (K : PySem.W.Frag) (k : Bool) (a : Addr) : It :=
  ⟨fun i H => ∃ (xs : List V) (x : V), SqB K H k a xs ∧ xs[i]? = some x, fun i H v H' => ∃ T x, v = .ref T ∧ H T = none ∧ H' = upd H T (.tup [.int (i : Nat), x]) ∧ ∀ xs, SqB K H k a xs → xs[i]? = some x, fun i H => ∃ xs : List V, SqB K H k a xs ∧ xs.length = i⟩
theorem turn_enumB {P : Program} {w : World} {K : PySem.W.Frag} {elts : List Expr} {kk : Nat} {tpos : Pos} (k : Bool) (a e it : Addr) :
    Turn P w K (.Tuple elts kk tpos) (IteB K k a) [e, it] e (fun i h => (∃ old, IsEnum h e it ((i : Nat) : Int) old) ∧ itB h k it a i ∧ e ≠ it ∧ a ≠ it ∧ e ≠ a) where
  mem := by simp
  obj := fun i h st b hb => by
    obtain ⟨⟨old, he⟩, g1, _⟩ := st
    obtain ⟨o, vs, ho, hd⟩ := itB_obj g1
    have e' : b = e ∨ b = it := by simpa using hb
    rcases e' with z | z
    · rw [z]; exact ⟨_, he, fun v q => nomatch q⟩
    · rw [z]; exact ⟨o, ho, fun v q => by rw [hd] at q; cases q⟩
  keep := fun i h h' st k => let ⟨⟨old, he⟩, hi, hne⟩ := st; ⟨⟨old, k e (by simp) _ he⟩, itB_at hi fun o q => k it (by simp) o q, hne⟩
  item := by
    intro X hP hw hK hc i pins s σ H E I hf st hg
    subst hP hw hK
    obtain ⟨⟨old, he⟩, hit, hne, hna, hnb⟩ := st
    obtain ⟨xs, x, hq, hx⟩ := hg
    obtain ⟨its, rv, p, hz⟩ := invB I hq
    obtain ⟨u, hu, ru⟩ := rv.get hx
    have hel : e < s.heap.objs.size := Heap.lt_size he
    obtain ⟨o1, vs1, g1, _⟩ := itB_obj hit
    have hil : it < s.heap.objs.size := Heap.lt_size g1
    have hh : X.A.in1.handled = none := I.ok.hd hc
    have hi1 : i < its.toArray.size := by
      have := List.getElem?_eq_some_iff.mp hu
      obtain ⟨h, _⟩ := this
      simpa using h
    refine wpAny_pyNext_enum_itemD (drawsB hh k it a hna its.toArray) he ⟨hit, p⟩ hi1 hne (by simp [hne, hnb]) fun x1 h' tk e1 ho n1 hT hsz hk => ?_
    have e1 : u = x1 := Option.some.inj ((by simpa using hu : its.toArray[i]? = some u).symm.trans e1)
    subst e1
    refine ⟨_, rfl, wpAny_letOwnedTupleGo_enum (s := { s with heap := h', toks := tk + 1 }) ho fun h'' he' sb => ?_⟩
    have hT2 : h''.get? s.heap.objs.size = some { cls := .type "tuple", data := .seq #[.int i tk, u] } := (sb.2 _ (Nat.ne_of_gt hel)).trans hT
    have new : ObjOk X.prog X.w (upd H s.heap.objs.size (.tup [.int (i : Nat), x])) h'' s.heap.objs.size (.tup [.int (i : Nat), x]) :=
      ⟨by show 2 ≤ sizeLine; decide, [.int i tk, u], .cons ⟨_, rfl⟩ (.cons ru .nil), ⟨_, hT2, rfl, _, rfl⟩⟩
    have I1 : Inv X pins σ (upd H s.heap.objs.size (.tup [.int (i : Nat), x])) { s with heap := h'', toks := tk + 1 } :=
      I.turnedNew (t' := tk + 1) (ch := [e, it]) (fun b ob hb q => (sb.2 b (fun z => hb (by simp [z]))).trans (hk b ob (fun z => hb (by simp [z])) (fun z => hb (by simp [z])) q)) hf (Nat.le_refl _) new
    refine ⟨.ref s.heap.objs.size, _, I1, rfl, ⟨_, x, rfl, I.hok.fresh (Nat.le_refl _), rfl, fun ys hy => by rw [injB I hy hq]; exact hx⟩, ⟨⟨u, ?_⟩, itB_at n1.1 fun o q => (sb.2 it (Ne.symm hne)).trans q, hne, hna, hnb⟩, fun b hb => ?_⟩
    · have e1 : ((i + 1 : Nat) : Int) = (i : Int) + 1 := by omega
      rw [e1]; exact he'
    · have hb' : b < s.heap.objs.size := by
        have e' : b = e ∨ b = it := by simpa using hb
        rcases e' with z | z
        · rw [z]; exact hel
        · rw [z]; exact hil
      rw [upd_ne (Nat.ne_of_lt hb')]
      exact (hf b hb).1
  done := by
    intro X hP hw hK hc i pins s σ H E I hf st hg
    subst hP hw hK
    obtain ⟨⟨old, he⟩, hit, hne, hna, hnb⟩ := st
    obtain ⟨xs, hq, hx⟩ := hg
    obtain ⟨its, rv, p, hz⟩ := invB I hq
    obtain ⟨f0, f1, f2, f3, f4, f5⟩ := hf it (by simp)
    have hl := rv.length
    have hh : X.A.in1.handled = none := I.ok.hd hc
    have hi : i = its.toArray.size := by rw [List.size_toArray]; omega
    subst hi
    exact wpAny_pyNext_enum_endD (drawsB hh k it a hna its.toArray) he ⟨hit, p⟩ fun h' eb => ⟨rfl, I.turned (t' := s.toks) (fun b o hb q => eb b o hb q) f0 f1 f3 f4 f5⟩
  self := fun A i s Q E st h => let ⟨⟨_, he⟩, _⟩ := st; wpAny_pyIter_enum he h
def iEnumB (K : PySem.W.Frag) (ta : TA) : TI := fun σ H R => ta σ H fun vs H1 => ∃ k a xs, vs = [.ref a] ∧ SqB K H1 k a xs ∧ R (IteB K k a) H1
theorem pi_enumB {X : Cx} {e : Expr} {ta : TA} {p pos tpos : Pos} {elts : List Expr} {kk : Nat} (hg : Gl X "enumerate") (hm : X.mg "enumerate" = none) (ha : PA X [e] ta) (hs : starEach [e] X.env = [(false, eval e X.env)] := by rfl) :
    PI X (.Tuple elts kk tpos) (.Call (.Name "enumerate" p) [e] [] pos) (iEnumB X.K ta) := by
  refine ⟨fun pins s σ H R I h => ?_⟩
  refine Call_ (ld_blt I hg hm boot_enumerate (PyProof.Rows.callWith_type1 (thn (ha.run pos pins s σ H _ I h) fun us s1 ⟨vs, H1, I1, r1, q1⟩ => ?_) hs rfl))
  obtain ⟨k, a, xs, ex, hq, q⟩ := q1
  subst ex
  cases r1 with
  | cons r rr =>
    cases rr
    cases r
    obtain ⟨its, rv, p1, la⟩ := invB I1 hq
    refine call_enumB (beginsB k a its.toArray) p1 fun h' he hit hsz hk => wpAny_pyIter_enum he ?_
    have I2 : Inv X pins σ H1 { s1 with heap := h' } := I1.kept (t' := s1.toks) hk
    refine ⟨s1.heap.objs.size + 1, [s1.heap.objs.size + 1, s1.heap.objs.size], _, _, H1, rfl, I2, turn_enumB k a (s1.heap.objs.size + 1) s1.heap.objs.size, ⟨⟨.none, he⟩, itB_new hit, Nat.succ_ne_self _, Nat.ne_of_lt la, Nat.ne_of_gt (Nat.lt_succ_of_lt la)⟩, fun b hb => ?_, q⟩
    have e' : b = s1.heap.objs.size + 1 ∨ b = s1.heap.objs.size := by simpa using hb
    have hle : s1.heap.objs.size ≤ b := by
      rcases e' with z | z
      · rw [z]; exact Nat.le_add_right _ _
      · rw [z]; exact Nat.le_refl _
    exact I1.fpOk hle (I1.hok.fresh hle)
section
variable {X : Cx} {G : Gx}
def iEnumY (a : Ax) : Ix := fun e S => (a e S).bind fun r => match r.1 with
  | [d] => match itemsD d with
    | some (_, ds) => (pusOf ds).bind fun ps => some (numD 0 ps, r.2)
    | _ => none
  | _ => none
theorem di_enumB {a : Expr} {xa : Ax} {p pos tpos : Pos} {elts : List Expr} {kk : Nat} (hK : X.K = G.K) (hg : Gl X "enumerate") (hm : X.mg "enumerate" = none) (ha : DA X G [a] xa) (hs : starEach [a] X.env = [(false, eval a X.env)] := by rfl) : DI X G (.Tuple elts kk tpos) (.Call (.Name "enumerate" p) [a] [] pos) (iEnumY xa) := pi_mono (pi_enumB hg hm ha hs) fun σ H Q hw => by
  obtain ⟨e, S, f, r, ds, S', hx, q⟩ := hw
  obtain ⟨⟨as, S1⟩, h1, hx⟩ := Option.bind_eq_some_iff.mp hx
  refine ⟨e, S, f, r, as, S1, h1, fun vs H1 f1 r1 n1 p1 => ?_⟩
  match as, p1, hx with
  | [d], .cons p2 .nil, hx =>
    dsimp only at hx
    cases hi : itemsD d with
    | none => rw [hi] at hx; cases hx
    | some ki =>
      obtain ⟨k, is⟩ := ki
      rw [hi] at hx
      dsimp only at hx
      obtain ⟨ps, h3, hx⟩ := Option.bind_eq_some_iff.mp hx
      cases hx
      have e3 := pusOf_eq h3
      subst e3
      obtain ⟨a, us, rfl, hh⟩ := items_ok p2 hi
      have sa : ∀ H', Ext0 H1 H' → SqB G.K H' k a us := fun H' x => itemsB (G := G) ⟨(hh H' x).1, (hh H' x).2.1⟩
      rw [hK]
      refine ⟨k, a, us, rfl, sa H1 (.refl _), q _ H1 f1 r1 n1 ⟨fun H' i d x hd => ?_, fun H' i d v H2 x hd hy => ?_, fun H' x => ?_⟩⟩
      · obtain ⟨p, hp, _⟩ := numD_get 0 ps i d hd
        obtain ⟨_, _, h6⟩ := hh H' x
        obtain ⟨u, hu, _⟩ := Paired.get2 h6 (show (ps.map D.pu)[i]? = some (.pu p) by rw [List.getElem?_map, hp]; rfl)
        exact ⟨us, u, sa H' x, hu⟩
      · obtain ⟨p, hp, rfl⟩ := numD_get 0 ps i d hd
        obtain ⟨_, _, h6⟩ := hh H' x
        obtain ⟨T, y, rfl, nT, rfl, hy⟩ := hy
        obtain ⟨u, hu, pu⟩ := Paired.get2 h6 (show (ps.map D.pu)[i]? = some (.pu p) by rw [List.getElem?_map, hp]; rfl)
        have e : u = y := Option.some.inj (hu.symm.trans (hy us (sa H' x)))
        rw [e] at pu
        have s := upd_new (o := .tup [.int (i : Nat), y]) nT
        refine ⟨s, Rep.tup upd_same (.cons ?_ (.cons (Rep.ext (.of s) pu) .nil))⟩
        rw [Nat.zero_add]
        exact .int _
      · obtain ⟨_, _, h6⟩ := hh H' x
        exact ⟨us, sa H' x, by rw [numD_length, paired_len h6, List.length_map]⟩
end
end DL
/-! DLT: list(range(a, b)). -/
namespace DL
open PySem PySem.Spec PyProof.Rows L2
section
variable {X : Cx} {G : Gx}
def rngP (a : Int) (n : Nat) : List P := (List.range n).map fun i : Nat => .int (a + (i : Int))
def xLr (mk : List P → D) (xa xb : Ex) : Ex := fun e S => (xa e S).bind fun r => (xb e r.2).bind fun q => match r.1, q.1 with
  | .pu (.int i), .pu (.int j) => if (rOk i && rOk j && decide ((j - i).toNat ≤ 100000)) = true then some (mk (rngP i (j - i).toNat), q.2) else none
  | _, _ => none
theorem rep_rng {H : Hp} (a : Int) : ∀ n : Nat, RepL H ((List.range n).map fun i => V.int (a + (i : Nat))) (rngP a n) := fun n => by
  unfold rngP
  have : ∀ l : List Nat, RepL H (l.map fun i => V.int (a + (i : Nat))) (l.map fun i : Nat => PyData.int (a + (i : Int))) := fun l => by
    induction l with
    | nil => exact .nil
    | cons x l ih => exact .cons (.int _) ih
  exact this _
theorem lr_mid {xa xb : Ex} {mk : List P → D} {e : Envi} {S S' : Sto} {d : D} (hx : xLr mk xa xb e S = some (d, S')) : ∃ i j S1, xa e S = some (.pu (.int i), S1) ∧ xb e S1 = some (.pu (.int j), S') ∧ RgOk i j ∧ d = mk (rngP i (j - i).toNat) := by
  obtain ⟨⟨d1, S1⟩, h1, hx⟩ := Option.bind_eq_some_iff.mp hx
  obtain ⟨⟨d2, S2⟩, h2, hx⟩ := Option.bind_eq_some_iff.mp hx
  dsimp only at hx h2
  match d1, d2, h1, h2, hx with
  | .pu (.int i), .pu (.int j), h1, h2, hx =>
    by_cases c : (rOk i && rOk j && decide ((j - i).toNat ≤ 100000)) = true
    · dsimp only at hx
      rw [if_pos c] at hx
      cases hx
      rw [Bool.and_eq_true, Bool.and_eq_true, rOk_iff, rOk_iff, decide_eq_true_eq] at c
      exact ⟨i, j, S1, h1, h2, ⟨by omega, by omega, by omega, by omega, by omega⟩, rfl⟩
    · dsimp only at hx
      rw [if_neg c] at hx
      cases hx
theorem d_listRg {a b : Expr} {xa xb : Ex} {p p2 pos pos2 : Pos} (hc : X.calm = true) (hg : Gl X "list") (hm : X.mg "list" = none) (hg2 : Gl X "range") (hm2 : X.mg "range" = none) (ha : DE X G a xa) (hb : DE X G b xb)
    (na : starEach [a, b] X.env = (false, eval a X.env) :: starEach [b] X.env := by rfl) (nb : starEach [b] X.env = (false, eval b X.env) :: starEach [] X.env := by rfl) (hp : (backTo pos2 (starEach [b] X.env)).any (·.1) = false := by rfl)
    (ns : starEach [.Call (.Name "range" p2) [a, b] [] pos2] X.env = (false, eval (.Call (.Name "range" p2) [a, b] [] pos2) X.env) :: starEach [] X.env := by rfl) : DE X G (.Call (.Name "list" p) [.Call (.Name "range" p2) [a, b] [] pos2] [] pos) (xLr (fun ps => .pu (.list ps)) xa xb) :=
  pe_mono (pe_gh (pe_listRg hc hg hm (prg_2 hg2 hm2 ha hb na nb hp) ns)) fun σ H Q hw => by
    obtain ⟨e, S, f, r, d, S', hx, q⟩ := hw
    obtain ⟨i, j, S1, h1, h2, ok, rfl⟩ := lr_mid hx
    refine ⟨e, S, f, r, _, S1, h1, fun v1 H1 f1 r1 n1 p1 => ⟨e, S1, f1, r1, _, S', h2, fun v2 H2 f2 r2 n2 p2 => ?_⟩⟩
    cases (show Rep H1 _ (.int i) from p1)
    cases (show Rep H2 _ (.int j) from p2)
    exact ⟨i, j, rfl, rfl, ok, fun p np => lst_fin np (rep_rng i _) fun v H' s rv => q v H' f2 (r2.same s) ((n1.trans n2).trans (.of s _ _)) rv⟩
theorem d_listRgN {a b : Expr} {xa xb : Ex} {p p2 pos pos2 : Pos} (hc : X.calm = true) (hg : Gl X "list") (hm : X.mg "list" = none) (hg2 : Gl X "range") (hm2 : X.mg "range" = none) (ha : DE X G a xa) (hb : DE X G b xb)
    (na : starEach [a, b] X.env = (false, eval a X.env) :: starEach [b] X.env := by rfl) (nb : starEach [b] X.env = (false, eval b X.env) :: starEach [] X.env := by rfl) (hp : (backTo pos2 (starEach [b] X.env)).any (·.1) = false := by rfl)
    (ns : starEach [.Call (.Name "range" p2) [a, b] [] pos2] X.env = (false, eval (.Call (.Name "range" p2) [a, b] [] pos2) X.env) :: starEach [] X.env := by rfl) : DE X G (.Call (.Name "list" p) [.Call (.Name "range" p2) [a, b] [] pos2] [] pos) (xLr (fun ps => .nw (.lst ps)) xa xb) :=
  pe_mono (pe_gh (pe_listRg hc hg hm (prg_2 hg2 hm2 ha hb na nb hp) ns)) fun σ H Q hw => by
    obtain ⟨e, S, f, r, d, S', hx, q⟩ := hw
    obtain ⟨i, j, S1, h1, h2, ok, rfl⟩ := lr_mid hx
    refine ⟨e, S, f, r, _, S1, h1, fun v1 H1 f1 r1 n1 p1 => ⟨e, S1, f1, r1, _, S', h2, fun v2 H2 f2 r2 n2 p2 => ?_⟩⟩
    cases (show Rep H1 _ (.int i) from p1)
    cases (show Rep H2 _ (.int j) from p2)
    exact ⟨i, j, rfl, rfl, ok, fun p np => nw_fin r2 np (rep_rng i _) fun v H' f' r' n' p' => q v H' f' r' ((n1.trans n2).trans n') p'⟩
end
end DL
/-! LWQ: rules of DLQ. -/
namespace DL
open PySem PySem.Spec PyProof.Rows L2
section
variable {e : Envi} {S : Sto}
def zyQ (Q : List D × Sto → Prop) (S : Sto) : List D → Prop
  | [.pu (.tuple xs), .pu (.tuple ys)] => Q (zipD xs ys, S)
  | [.pu (.list xs), .pu (.list ys)] => Q (zipD xs ys, S)
  | [.pu (.tuple xs), .pu (.list ys)] => Q (zipD xs ys, S)
  | [.pu (.list xs), .pu (.tuple ys)] => Q (zipD xs ys, S)
  | _ => False
theorem w_zyT {Q : List D × Sto → Prop} {xs ys : List P} : zyQ Q S [.pu (.tuple xs), .pu (.tuple ys)] ↔ Q (zipD xs ys, S) := Iff.rfl
theorem w_zyL {Q : List D × Sto → Prop} {xs ys : List P} : zyQ Q S [.pu (.list xs), .pu (.list ys)] ↔ Q (zipD xs ys, S) := Iff.rfl
theorem w_zyM {Q : List D × Sto → Prop} {xs ys : List P} : zyQ Q S [.pu (.tuple xs), .pu (.list ys)] ↔ Q (zipD xs ys, S) := Iff.rfl
theorem w_zyN {Q : List D × Sto → Prop} {xs ys : List P} : zyQ Q S [.pu (.list xs), .pu (.tuple ys)] ↔ Q (zipD xs ys, S) := Iff.rfl
theorem zipY_of {a : Ax} {Q : List D × Sto → Prop} (h : W (a e S) fun r => zyQ Q r.2 r.1) : W (iZipY a e S) Q := by
  refine w_bind.mpr (h.imp fun r h => ?_)
  obtain ⟨ds, S1⟩ := r
  dsimp only at h ⊢
  unfold zyQ at h
  split at h
  iterate 4 (· dsimp only [itemsD]
               rw [pus_map, Option.bind_some, pus_map, Option.bind_some]
               exact ⟨_, rfl, h⟩)
  · exact h.elim
def eyQ (Q : List D × Sto → Prop) (S : Sto) : List D → Prop
  | [.pu (.tuple xs)] => Q (numD 0 xs, S)
  | [.pu (.list xs)] => Q (numD 0 xs, S)
  | _ => False
theorem w_eyT {Q : List D × Sto → Prop} {xs : List P} : eyQ Q S [.pu (.tuple xs)] ↔ Q (numD 0 xs, S) := Iff.rfl
theorem w_eyL {Q : List D × Sto → Prop} {xs : List P} : eyQ Q S [.pu (.list xs)] ↔ Q (numD 0 xs, S) := Iff.rfl
theorem enumY_of {a : Ax} {Q : List D × Sto → Prop} (h : W (a e S) fun r => eyQ Q r.2 r.1) : W (iEnumY a e S) Q := by
  refine w_bind.mpr (h.imp fun r h => ?_)
  obtain ⟨ds, S1⟩ := r
  dsimp only at h ⊢
  unfold eyQ at h
  split at h
  iterate 2 (· dsimp only [itemsD]
               rw [pus_map, Option.bind_some]
               exact ⟨_, rfl, h⟩)
  · exact h.elim
def lrQ (mk : List P → D) (Q : D × Sto → Prop) (S : Sto) : D → D → Prop
  | .pu (.int i), .pu (.int j) => (rOk i && rOk j && decide ((j - i).toNat ≤ 100000)) = true ∧ Q (mk (rngP i (j - i).toNat), S)
  | _, _ => False
theorem w_lrI {mk : List P → D} {i j : Int} {Q : D × Sto → Prop} : lrQ mk Q S (.pu (.int i)) (.pu (.int j)) ↔ (rOk i && rOk j && decide ((j - i).toNat ≤ 100000)) = true ∧ Q (mk (rngP i (j - i).toNat), S) := Iff.rfl
theorem lr_of {mk : List P → D} {xa xb : Ex} {Q : D × Sto → Prop} (h : W (xa e S) fun r => W (xb e r.2) fun q => lrQ mk Q q.2 r.1 q.1) : W (xLr mk xa xb e S) Q := by
  refine w_bind.mpr (h.imp fun r h => w_bind.mpr (h.imp fun q h => ?_))
  obtain ⟨d1, S1⟩ := r
  obtain ⟨d2, S2⟩ := q
  dsimp only at h ⊢
  unfold lrQ at h
  split at h
  · try dsimp only
    rw [if_pos h.1]
    exact w_some.mpr h.2
  · exact h.elim
end
end DL
/-! DLU: len, list, in, for of dicts. -/
namespace DL
open PySem PySem.Spec PyProof.Rows L2
section
variable {X : Cx} {G : Gx} {σ : L2.St} {H : Hp} {e : Envi} {S : Sto} {f : Nat → Addr}
theorem rep_kV (k : Key) : Rep H (kV k) (keyP k) := by
  cases k
  · exact .int _
  · exact .str _
theorem rep_kVs : ∀ ks : List Key, RepL H (ks.map kV) (ks.map keyP)
  | [] => .nil
  | k :: ks => .cons (rep_kV k) (rep_kVs ks)
/-! ### len -/
def rLenD : List V → Hp → VK → Prop := fun xs H Q => ∃ a, xs = [.ref a] ∧ ((∃ kvs, Rd H a (.dK kvs) ∧ Q (.int (kvs.length : Nat)) H) ∨ ∃ kvs, Rd H a (.dT kvs) ∧ Q (.int (kvs.length : Nat)) H)
theorem call_lenA : CallR X (.builtin "len") (fun xs H Q => (∃ x n, xs = [x] ∧ LenV X.K x H n ∧ Q (.int n) H) ∨ rLenD xs H Q) := by
  intro pins s σ H xs us Q I r h
  rcases h with h | ⟨a, rfl, h⟩
  · exact call_len pins s σ H xs us Q I r h
  · obtain ⟨u, rfl, ru⟩ := vals1 r
    obtain rfl : u = .ref a := ru
    rcases h with ⟨kvs, ha, q⟩ | ⟨kvs, ha, q⟩
    · exact d_len I ha fun t s' I' => ⟨.int kvs.length, H, I', ⟨t, rfl⟩, q⟩
    · obtain ⟨z, hd, ys, rel, dd⟩ := dt_rd I.hok ha
      have hl : kvs.length = ys.length := Paired.length rel
      refine call_len_dictH hd dd (by rw [← hl]; rw [sizeLine_eq] at z; omega) ?_
      rw [← hl]
      exact ⟨.int ((kvs.length : Nat) : Int), H, I.tok _, ⟨_, rfl⟩, q⟩
def gLenA : List D → Sto → Option (D × Sto)
  | [d], S => match dicD d S with
    | some ps => some (.pu (.int ps.length), S)
    | none => gLen [d] S
  | ds, S => gLen ds S
theorem v_lenA (hK : X.K = G.K) : VA G (fun xs H Q => (∃ x n, xs = [x] ∧ LenV X.K x H n ∧ Q (.int n) H) ∨ rLenD xs H Q) gLenA := by
  intro σ H e S f vs ds d S' Q r0 rs hg q
  match ds, rs with
  | [dx], .cons (a := x) rx .nil =>
    unfold gLenA at hg
    dsimp only at hg
    cases hd : dicD dx S with
    | none =>
      rw [hd] at hg
      exact .inl (v_len hK σ H e S f _ _ d S' Q r0 (.cons rx .nil) hg q)
    | some ps =>
      rw [hd] at hg
      cases hg
      obtain ⟨a, rfl, h⟩ := dic_ok r0 rx hd
      refine .inr ⟨a, rfl, ?_⟩
      rcases h with ⟨kvs, h, kp⟩ | ⟨kvs, h, kp⟩
      · refine .inl ⟨kvs, h, ?_⟩
        rw [Paired.length kp]
        exact .inl (q _ H f r0 (.refl _ _ _) (.int _))
      · refine .inr ⟨kvs, h, ?_⟩
        rw [Paired.length kp]
        exact .inl (q _ H f r0 (.refl _ _ _) (.int _))
  | [], _ => cases hg
  | _ :: _ :: _, rs => exact .inl (v_len hK σ H e S f _ _ d S' Q r0 rs hg q)
/-! ### list -/
def rListD : List V → Hp → VK → Prop := fun xs H Q => ∃ a, xs = [.ref a] ∧ ((∃ kvs, Rd H a (.dK kvs) ∧ ∀ l, H l = none → Q (.ref l) (upd H l (.lst (kvs.map fun kv => kV kv.1)))) ∨
  ∃ kvs, Rd H a (.dT kvs) ∧ ∀ p bs, H p = none → IsKeys H kvs bs → Q (.ref p) (upd H p (.lst (bs.map V.ref))))
theorem call_listDk (hc : X.calm = true) : CallR X (.type "list") (fun xs H Q => ∃ p kvs, xs = [.ref p] ∧ Rd H p (.dK kvs) ∧ ∀ q, H q = none → Q (.ref q) (upd H q (.lst (kvs.map fun kv => kV kv.1)))) := by
  intro pins s σ H xs us Q I r h
  obtain ⟨p, kvs, e, hk, q⟩ := h
  subst e
  obtain ⟨u, eu, rx⟩ := vals1 r
  subst eu
  obtain rfl : u = Value.ref p := rx
  obtain ⟨z, lo, vs, rk, hd⟩ := (show ObjOk X.prog X.w H s.heap p (.dK kvs) from hk.ok I.hok)
  obtain ⟨ep, hat⟩ := hd.dictAt
  have hl : kvs.length = vs.length := Paired.length rk
  refine PySem.W.kdl_call (PySem.W.kdl_dict (knd := mixKind X.prog X.w) (kvs := vs) (ep := ep) lo) (I.ok.hd hc) hat (by rw [← hl]; exact z) fun h' tk acc' c' hkeep hS hacc => ?_
  refine ⟨.ref s.heap.objs.size, upd H s.heap.objs.size (.lst (kvs.map fun kv => kV kv.1)), I.laid hkeep (Nat.le_refl _) (show ObjOk X.prog X.w _ _ _ (.lst (kvs.map fun kv => kV kv.1)) from ⟨?_, acc'.toList, c', ?_, ?_⟩), rfl, q _ (I.hok.fresh (Nat.le_refl _))⟩
  · rw [List.length_map]; exact z
  · have el : acc'.toList.length = acc'.size := by simp
    refine vals_of_at (by rw [List.length_map, el, hacc.1, hl]) fun j x w h1 h2 => ?_
    obtain ⟨k, y, hky, hi⟩ := hacc.2 j w (by rw [← Array.getElem?_toList]; exact h2)
    have e1 : (kvs.map (·.1))[j]? = some k := by
      rw [KV.keys rk, List.getElem?_map, hky] <;> rfl
    have e2 : (kvs.map fun kv => kV kv.1)[j]? = some (kV k) := by
      have e3 : (kvs.map fun kv => kV kv.1) = (kvs.map (·.1)).map kV := by rw [List.map_map] <;> rfl
      rw [e3, List.getElem?_map, e1] <;> rfl
    rw [e2] at h1
    cases h1
    exact keyIs_rel hi
  · rw [Array.toArray_toList]; exact hS
theorem call_listA (hc : X.calm = true) : CallR X (.type "list") (fun xs H Q => (∃ p ys, xs = [.ref p] ∧ (SqL X.K H p ys ∨ SqT X.K H p ys) ∧ ∀ l, H l = none → Q (.ref l) (upd H l (.lst ys))) ∨ rListD xs H Q) := by
  intro pins s σ H xs us Q I r h
  rcases h with h | ⟨a, rfl, h⟩
  · exact call_list_of pins s σ H xs us Q I r h
  · rcases h with ⟨kvs, ha, q⟩ | ⟨kvs, ha, q⟩
    · exact call_listDk hc pins s σ H _ us Q I r ⟨a, kvs, rfl, ha, q⟩
    · exact call_list_dT hc pins s σ H _ us Q I r ⟨a, kvs, rfl, ha, q⟩
def keysOf (ps : List (P × D)) : List P := ps.map (·.1)
theorem kp_reps {α : Type} {F : V → α → Prop} : ∀ {kvs : List (Key × V)} {ps : List (P × α)}, KP F kvs ps → RepL H (kvs.map fun kv => kV kv.1) (ps.map (·.1))
  | _, _, .nil => .nil
  | kv :: _, q :: _, .cons h t => .cons (by show Rep H (kV kv.1) q.1; rw [h.1]; exact rep_kV _) (kp_reps t)
theorem tp_reps {α : Type} {F : V → α → Prop} : ∀ {kvs : List (List Key × V)} {ps : List (P × α)} {bs : List Addr}, TP' F kvs ps → IsKeys H kvs bs → RepL H (bs.map V.ref) (ps.map (·.1))
  | _, _, _, .nil, .nil => .nil
  | kv :: _, q :: _, b :: _, .cons h t, .cons hb tb => .cons (by show Rep H (.ref b) q.1; rw [h.1]; exact .tup hb (rep_kVs _)) (tp_reps t tb)
/-- a list of a dict's keys -/
def gListA : List D → Sto → Option (D × Sto)
  | [d], S => match dicD d S with
    | some ps => some (.pu (.list (keysOf ps)), S)
    | none => gList [d] S
  | ds, S => gList ds S
theorem v_listA (hK : X.K = G.K) : VA G (fun xs H Q => (∃ p ys, xs = [.ref p] ∧ (SqL X.K H p ys ∨ SqT X.K H p ys) ∧ ∀ l, H l = none → Q (.ref l) (upd H l (.lst ys))) ∨ rListD xs H Q) gListA := by
  intro σ H e S f vs ds d S' Q r0 rs hg q
  match ds, rs with
  | [dx], .cons (a := x) rx .nil =>
    unfold gListA at hg
    dsimp only at hg
    cases hd : dicD dx S with
    | none =>
      rw [hd] at hg
      exact .inl (v_list hK σ H e S f _ _ d S' Q r0 (.cons rx .nil) hg q)
    | some ps =>
      rw [hd] at hg
      cases hg
      obtain ⟨a, rfl, h⟩ := dic_ok r0 rx hd
      refine .inr ⟨a, rfl, ?_⟩
      rcases h with ⟨kvs, h, kp⟩ | ⟨kvs, h, kp⟩
      · exact .inl ⟨kvs, h, fun l nl => lst_fin nl (kp_reps kp) fun v H' s rv => q v H' f (r0.same s) (.of s _ _) rv⟩
      · exact .inr ⟨kvs, h, fun l bs nl hb => lst_fin nl (tp_reps kp hb) fun v H' s rv => q v H' f (r0.same s) (.of s _ _) rv⟩
  | [], _ => cases hg
  | _ :: _ :: _, rs => exact .inl (v_list hK σ H e S f _ _ d S' Q r0 rs hg q)
def gListAN : List D → Sto → Option (D × Sto)
  | [d], S => match dicD d S with
    | some ps => some (.nw (.lst (keysOf ps)), S)
    | none => gListN [d] S
  | ds, S => gListN ds S
theorem v_listAN (hK : X.K = G.K) : VA G (fun xs H Q => (∃ p ys, xs = [.ref p] ∧ (SqL X.K H p ys ∨ SqT X.K H p ys) ∧ ∀ l, H l = none → Q (.ref l) (upd H l (.lst ys))) ∨ rListD xs H Q) gListAN := by
  intro σ H e S f vs ds d S' Q r0 rs hg q
  match ds, rs with
  | [dx], .cons (a := x) rx .nil =>
    unfold gListAN at hg
    dsimp only at hg
    cases hd : dicD dx S with
    | none =>
      rw [hd] at hg
      exact .inl (v_listN hK σ H e S f _ _ d S' Q r0 (.cons rx .nil) hg q)
    | some ps =>
      rw [hd] at hg
      cases hg
      obtain ⟨a, rfl, h⟩ := dic_ok r0 rx hd
      refine .inr ⟨a, rfl, ?_⟩
      rcases h with ⟨kvs, h, kp⟩ | ⟨kvs, h, kp⟩
      · exact .inl ⟨kvs, h, fun l nl => nw_fin r0 nl (kp_reps kp) q⟩
      · exact .inr ⟨kvs, h, fun l bs nl hb => nw_fin r0 nl (tp_reps kp hb) q⟩
  | [], _ => cases hg
  | _ :: _ :: _, rs => exact .inl (v_listN hK σ H e S f _ _ d S' Q r0 rs hg q)
/-! ### for -/
def iAny (x : Ex) : Ix := fun e S => (x e S).bind fun r => match r.1 with
  | .pu (.dict ps) => some (ps.map fun p => .pu p.1, r.2)
  | d => (itemsD d).bind fun q => some (q.2, r.2)
theorem di_any {tg a : Expr} {x : Ex} (hK : X.K = G.K) (h : DE X G a x) : DI X G tg a (iAny x) := pi_mono (pi_orI (di_seq hK h) (pi_keys h)) fun σ H Q hw => by
  obtain ⟨e, S, f, r, ds, S', hx, q⟩ := hw
  obtain ⟨⟨d, S1⟩, h1, hx⟩ := Option.bind_eq_some_iff.mp hx
  by_cases hd : ∃ ps, d = .pu (.dict ps)
  · obtain ⟨ps, rfl⟩ := hd
    cases hx
    refine .inr ⟨e, S, f, r, _, S1, h1, fun v H1 f1 r1 n1 p1 => ?_⟩
    cases (show Rep H1 v (.dict ps) from p1) with
    | dct h1 h2 h3 h4 h5 =>
      subst h2 h3
      rcases h1 with ⟨o, kvs, h1, z⟩ | ⟨o, kvs, h1, z⟩
      · subst z
        refine ⟨_, o, rfl, .inl ⟨kvs, h1, q _ H1 f1 r1 n1 ⟨fun H' i d x hd => ?_, fun H' i d v H2 x hd hy => ?_, fun H' x => ?_⟩⟩⟩
        all_goals have kp : KP (Rep H1) kvs ps := KP.of (RepL.pr h4) h5
        · have hi := (List.getElem?_eq_some_iff.mp hd).1
          rw [List.length_map, ← Paired.length kp] at hi
          exact ⟨x.frzs _ _ _ h1, hi⟩
        · obtain ⟨rfl, k, u, hk, rfl⟩ := hy
          rw [List.getElem?_map] at hd
          obtain ⟨pp, hp, rfl⟩ := Option.map_eq_some_iff.mp hd
          obtain ⟨kv, hkv, e1⟩ := Paired.get2 kp hp
          rw [hk] at hkv
          cases hkv
          exact ⟨.refl _, by show Rep _ _ pp.1; rw [e1.1]; exact rep_kV _⟩
        · exact ⟨x.frzs _ _ _ h1, by rw [List.length_map, Paired.length kp]; exact Nat.le_refl _⟩
      · subst z
        refine ⟨_, o, rfl, .inr ⟨kvs, h1, q _ H1 f1 r1 n1 ⟨fun H' i d x hd => ?_, fun H' i d v H2 x hd hy => ?_, fun H' x => ?_⟩⟩⟩
        all_goals have kp : TP' (Rep H1) kvs ps := TP'.of (RepL.pr h4) h5
        · have hi := (List.getElem?_eq_some_iff.mp hd).1
          rw [List.length_map, ← Paired.length kp] at hi
          exact ⟨x.frzs _ _ _ h1, hi⟩
        · obtain ⟨rfl, k, u, b, hk, rfl, hb⟩ := hy
          rw [List.getElem?_map] at hd
          obtain ⟨pp, hp, rfl⟩ := Option.map_eq_some_iff.mp hd
          obtain ⟨kv, hkv, e1⟩ := Paired.get2 kp hp
          rw [hk] at hkv
          cases hkv
          exact ⟨.refl _, by show Rep _ _ pp.1; rw [e1.1]; exact .tup hb (rep_kVs _)⟩
        · exact ⟨x.frzs _ _ _ h1, by rw [List.length_map, Paired.length kp]; exact Nat.le_refl _⟩
  · refine .inl ⟨e, S, f, r, ds, S', ?_, q⟩
    show (x e S).bind _ = _
    rw [h1, Option.bind_some]
    rw [← hx]
    cases d with
    | pu p => cases p with
      | dict ps => exact absurd ⟨ps, rfl⟩ hd
      | _ => rfl
    | _ => rfl
/-! ### in -/
def rInX (neg : Bool) (K : PySem.W.Frag) : R2 := fun x y H Q => rInA neg K x y H Q ∨ ∃ a o, y = .ref a ∧ DGet H a x o ∧ Q (.bl (if neg then !o.isSome else o.isSome)) H
theorem op_inX (hu : X.A.units + 65 < cLine) : OpR X (compareOp .In) (rInX false X.K) := by
  intro pins s σ H x y v u Q I rx ry h
  rcases h with h | ⟨a, o, rfl, g, q⟩
  · exact op_inA hu pins s σ H x y v u Q I rx ry h
  · obtain rfl : u = .ref a := ry
    exact d_in (by omega) I g rx fun s3 I3 => ⟨.bl o.isSome, H, I3, rfl, q⟩
theorem op_notInX (hu : X.A.units + 65 < cLine) : OpR X (compareOp .NotIn) (rInX true X.K) := by
  intro pins s σ H x y v u Q I rx ry h
  rcases h with h | ⟨a, o, rfl, g, q⟩
  · exact op_notInA hu pins s σ H x y v u Q I rx ry h
  · obtain rfl : u = .ref a := ry
    exact d_notIn (by omega) I g rx fun s3 I3 => ⟨.bl (!o.isSome), H, I3, rfl, q⟩
/-- in, of dicts with at least one key of its kind -/
def gInX (neg : Bool) (d1 d2 : D) (S : Sto) : Option (D × Sto) := match dicD d2 S with
  | some ps => match d1 with
    | .pu p => (keyD p).bind fun _ => match ps with
      | [] => none
      | q :: _ => if (isT q.1 == isT p) = true then some (.pu (.bool (if neg then !(dlook ps p).isSome else (dlook ps p).isSome)), S) else none
    | _ => none
  | none => gIn neg d1 d2 S
theorem v_inX {neg : Bool} (hK : X.K = G.K) : V2 G (rInX neg X.K) (gInX neg) := by
  intro σ H e S f x y dx dy d S' Q r0 rx ry hg q
  unfold gInX at hg
  cases hd : dicD dy S with
  | none =>
    rw [hd] at hg
    exact .inl (v_inG hK σ H e S f x y dx dy d S' Q r0 rx ry hg q)
  | some ps =>
    rw [hd] at hg
    cases dx with
    | pu p =>
      dsimp only at hg
      obtain ⟨ky, hk, hg⟩ := Option.bind_eq_some_iff.mp hg
      match ps, hd, hg with
      | q1 :: ps', hd, hg =>
        dsimp only at hg
        by_cases c : (isT q1.1 == isT p) = true
        · rw [if_pos c] at hg
          cases hg
          obtain ⟨a, rfl, h⟩ := dic_ok r0 ry hd
          right
          rcases key_cases hk with ⟨k, ep, _⟩ | ⟨ks, ep, _⟩
          · subst ep
            have ey := rep_key (show Rep H x (keyP k) from rx)
            subst ey
            rcases h with ⟨kvs, h, kp⟩ | ⟨kvs, h, kp⟩
            · refine ⟨a, valV kvs k, rfl, .inl ⟨kvs, k, h, rfl, rfl⟩, ?_⟩
              have e1 : (valV kvs k).isSome = (dlook (q1 :: ps') (keyP k)).isSome := by
                obtain ⟨l1, l2⟩ := kp.look (k := k)
                cases hl : dlook (q1 :: ps') (keyP k) with
                | none => rw [l2 hl]; rfl
                | some z => obtain ⟨v, hv, _⟩ := l1 z hl; rw [hv]; rfl
              rw [e1]
              exact .inl (q _ H f r0 (.refl _ _ _) (.bl _))
            · exfalso
              cases kp with
              | cons h0 t0 =>
                rw [h0.1, isT_key] at c
                simp [isT] at c
          · subst ep
            cases (show Rep H x (.tuple (ks.map keyP)) from rx) with
            | tup hb hbs =>
              rename_i b vs
              have e5 := rep_keys hbs
              subst e5
              rcases h with ⟨kvs, h, kp⟩ | ⟨kvs, h, kp⟩
              · exfalso
                cases kp with
                | cons h0 t0 =>
                  rw [h0.1, isT_key] at c
                  simp [isT] at c
              · refine ⟨a, valV kvs ks, rfl, .inr ⟨kvs, ks, b, h, rfl, hb, rfl⟩, ?_⟩
                have e1 : (valV kvs ks).isSome = (dlook (q1 :: ps') (.tuple (ks.map keyP))).isSome := by
                  obtain ⟨l1, l2⟩ := kp.look (k := ks)
                  cases hl : dlook (q1 :: ps') (.tuple (ks.map keyP)) with
                  | none => rw [l2 hl]; rfl
                  | some z => obtain ⟨v, hv, _⟩ := l1 z hl; rw [hv]; rfl
                rw [e1]
                exact .inl (q _ H f r0 (.refl _ _ _) (.bl _))
        · rw [if_neg c] at hg
          cases hg
    | _ => cases hg
end
end DL
/-! DLV: dict(xs) of pairs. -/
namespace DL
open PySem PySem.Spec PyProof.Rows L2
/-- pairs into a dict of tuple keys, later ones win -/
def mergeT (acc kvs : List (List Key × V)) : List (List Key × V) := kvs.foldl (fun acc kv => putK acc kv.1 kv.2) acc
theorem KT.merge {H : Hp} : ∀ (kvs acc : List (List Key × V)) (ps xs : List (List Key × Addr × Value)), KT H kvs ps → KT H acc xs → KT H (mergeT acc kvs) (storedAllH xs ps)
  | [], _, [], _, _, h => h
  | [], _, _ :: _, _, h, _ => by cases h
  | _ :: _, _, [], _, h, _ => by cases h
  | kv :: kvs, acc, p :: ps, xs, h, ha => by
    cases h with
    | cons h t =>
      obtain ⟨e1, e2, e3⟩ := h
      have hp := KT.put ha kv.1 (b := p.2.1) (u := p.2.2) e2 e3
      show KT H (mergeT (putK acc kv.1 kv.2) kvs) (storedAllH (storedH xs p.1 p.2.1 p.2.2) ps)
      rw [← e1]
      exact KT.merge kvs _ ps _ t hp
theorem mergeT_len : ∀ (kvs acc : List (List Key × V)), (mergeT acc kvs).length ≤ acc.length + kvs.length
  | [], acc => Nat.le_refl _
  | kv :: kvs, acc => by
    have h := mergeT_len kvs (putK acc kv.1 kv.2)
    have h2 : (putK acc kv.1 kv.2).length ≤ acc.length + 1 := by
      unfold putK
      split <;> simp
    show (mergeT (putK acc kv.1 kv.2) kvs).length ≤ acc.length + (kvs.length + 1)
    omega
section
variable {X : Cx}
theorem pairsT_of {pins : List (Addr × Obj)} {σ : L2.St} {H : Hp} {s : Shared} (I : Inv X pins σ H s) : ∀ {ps : List Addr} {kvs : List (List Key × V)}, Paired (fun p kv => ∃ b, SqT X.K H p [.ref b, kv.2] ∧ H b = some (.tup (kv.1.map kV))) ps kvs →
    ∃ prs : List (List Key × Addr × Value), KT H kvs prs ∧ prs.length = ps.length ∧ ∀ (j : Nat) (q : List Key × Addr × Value), prs[j]? = some q → ∃ b, ps[j]? = some b ∧ IsTup s.heap b #[.ref q.2.1, q.2.2]
  | _, _, .nil => ⟨[], .nil, rfl, fun j q e => by simp at e⟩
  | _, _, .cons (a := p) (b := kv) ⟨b, h, hb⟩ t => by
    obtain ⟨prs, r, hl, hp⟩ := pairsT_of I t
    obtain ⟨its, rv, ht, _⟩ := I.tuple h
    obtain ⟨u, y, ei, ru, ry⟩ := vals2 rv
    subst ei
    obtain rfl : u = Value.ref b := ru
    refine ⟨(kv.1, b, y) :: prs, .cons ⟨rfl, hb, ry⟩ r, by rw [List.length_cons, List.length_cons, hl], fun j q e => ?_⟩
    cases j with
    | zero =>
      have e' : (kv.1, b, y) = q := Option.some.inj e
      subst e'
      exact ⟨p, rfl, ht⟩
    | succ j =>
      obtain ⟨b', e1, e2⟩ := hp j q (by simpa using e)
      exact ⟨b', by simpa using e1, e2⟩
def rDictT (K : PySem.W.Frag) : List V → Hp → VK → Prop := fun xs H Q => ∃ (a : Addr) (ps : List Addr) (kvs : List (List Key × V)), xs = [.ref a] ∧ SqL K H a (ps.map V.ref) ∧ Paired (fun p kv => ∃ b, SqT K H p [.ref b, kv.2] ∧ H b = some (.tup (kv.1.map kV))) ps kvs ∧
    ∀ p, H p = none → Q (.ref p) (upd H p (.dT (mergeT [] kvs)))
theorem call_dictT (hcalm : X.calm = true) (hu : X.A.units + 65 < cLine) : CallR X (.type "dict") (rDictT X.K) := by
  intro pins s σ H xs us Q I r q
  obtain ⟨a, ps, kvs, ex, hq, hp, q⟩ := q
  subst ex
  obtain ⟨u, eu, rx⟩ := vals1 r
  subst eu
  cases rx
  obtain ⟨its, rv, pl, hz⟩ := I.list hq
  have ei := refs_at rv
  subst ei
  rw [List.length_map] at hz
  obtain ⟨prs, rel, hl, hpr⟩ := pairsT_of I hp
  obtain ⟨o, n, ho, hc, hd, hdat⟩ := pl
  have ok : PlainSeq "list" s.heap a (ps.map Value.ref).toArray ∧ PairItems s.heap (ps.map Value.ref).toArray (fun j => ps.getD j 0) (prs.map fun q => (Value.ref q.2.1, q.2.2)) := by
    refine ⟨⟨o, n, ho, hc, hd, hdat⟩, by simp [hl], fun j k v hj => ?_⟩
    rw [List.getElem?_map] at hj
    obtain ⟨q', hq', e⟩ := Option.map_eq_some_iff.mp hj
    cases e
    obtain ⟨b, e1, e2⟩ := hpr j q' hq'
    have e3 : ps.getD j 0 = b := by rw [List.getD_eq_getElem?_getD, e1]; rfl
    refine ⟨by simp [e1], .inl ?_⟩
    show s.heap.IsTuple (ps.getD j 0) _
    rw [e3]
    exact e2
  have hk : ∀ h', (∀ b o, s.heap.get? b = some o → h'.get? b = some o) → ∀ x ∈ prs, (tupleKind (mixKind X.prog X.w)).is h' x.1 x.2.1 := fun h' hh x hx => by
    have all : ∀ {l : List (List Key × V)} {m : List (List Key × Addr × Value)}, KT H l m → ∀ x ∈ m, (tupleKind (mixKind X.prog X.w)).is s.heap x.1 x.2.1 := by
      intro l m q
      induction q with
      | nil => intro x hx; exact nomatch hx
      | @cons p q ps qs hq t ih =>
        intro x hx
        rcases List.mem_cons.mp hx with e | hx
        · subst e
          exact key_of I.hok (by rw [← hq.1]; exact hq.2.1)
        · exact ih x hx
    obtain ⟨o, its, n, h1, h2⟩ := all rel x hx
    exact ⟨o, its, n, hh _ _ h1, h2⟩
  refine call_dict_pairsH (knd := tupleKind (mixKind X.prog X.w)) (ps := prs) (PairArg.list a (ps.map Value.ref).toArray (fun j => ps.getD j 0) (prs.map fun q => (Value.ref q.2.1, q.2.2))) (I.ok.hd hcalm) (show X.A.units + 2 < cLine by omega) ok ⟨by rw [List.length_map], fun i key v h => ?_⟩ (fun h' hh => hk h' fun b o e => hh b o (Nat.ne_of_lt (Heap.lt_size e)) (by simp) e) (by rw [List.length_map, hl]; exact hz) fun h' tk hd' k => ?_
  · have h' : (prs.map fun q => (Value.ref q.2.1, q.2.2))[i]? = some (key, v) := h
    rw [List.getElem?_map] at h'
    obtain ⟨q', hq', e⟩ := Option.map_eq_some_iff.mp h'
    cases e
    exact ⟨q'.1, q'.2.1, hq', rfl⟩
  · have hm : (s.heap.objs.size == sysModules) = false := beq_eq_false_iff_ne.mpr (Nat.ne_of_gt I.big)
    have hlen : (mergeT [] kvs).length ≤ sizeLine := by
      refine Nat.le_trans (mergeT_len kvs []) ?_
      rw [List.length_nil, Nat.zero_add, Paired.length rel, hl]
      exact hz
    obtain ⟨od, es, ep, d1, d2, d3, d4, d5, d6⟩ := hd'
    have n0 : H s.heap.objs.size = none := I.hok.fresh (Nat.le_refl _)
    refine ⟨.ref s.heap.objs.size, upd H s.heap.objs.size (.dT (mergeT [] kvs)), I.laid (t' := tk) (fun b o e => k b o (by simp) e) (Nat.le_refl _) (show ObjOk X.prog X.w _ _ _ (.dT (mergeT [] kvs)) from ⟨hlen, hm, storedAllH [] prs, ?_, od, es, ep, d1, d2, d3, d4, d6⟩), rfl, q _ n0⟩
    exact (KT.merge kvs [] prs [] rel .nil).keeps fun b ys hb => by rw [upd_ne (fun e => by rw [e, n0] at hb; cases hb)]; exact hb
end
section
variable {X : Cx} {G : Gx}
def prsD : List P → Option (List (P × P))
  | [] => some []
  | .tuple [k, v] :: r => (prsD r).bind fun ps => some ((k, v) :: ps)
  | _ => none
def dmP (acc prs : List (P × P)) : List (P × P) := prs.foldl (fun acc p => dput acc p.1 p.2) acc
def tkeys : List (P × P) → Option (List (List Key))
  | [] => some []
  | (.tuple xs, _) :: r => (flatKs xs).bind fun ks => (tkeys r).bind fun kss => some (ks :: kss)
  | _ => none
def fkeys : List (P × P) → Option (List Key)
  | [] => some []
  | (p, _) :: r => (flatK p).bind fun k => (fkeys r).bind fun ks => some (k :: ks)
theorem TP'.merge {F : V → P → Prop} : ∀ (kvs acc : List (List Key × V)) (ps acc' : List (P × P)), TP' F kvs ps → TP' F acc acc' → TP' F (mergeT acc kvs) (dmP acc' ps)
  | [], _, [], _, _, h => h
  | [], _, _ :: _, _, h, _ => by cases h
  | _ :: _, _, [], _, h, _ => by cases h
  | kv :: kvs, acc, p :: ps, acc', h, ha => by
    cases h with
    | cons h t =>
      show TP' F (mergeT (putK acc kv.1 kv.2) kvs) (dmP (dput acc' p.1 p.2) ps)
      rw [h.1]
      exact TP'.merge kvs _ ps _ t (TP'.put h.2 ha)
theorem KP.mergeP {F : V → P → Prop} : ∀ (kvs acc : List (Key × V)) (ps acc' : List (P × P)), KP F kvs ps → KP F acc acc' → KP F (mergeK acc kvs) (dmP acc' ps)
  | [], _, [], _, _, h => h
  | [], _, _ :: _, _, h, _ => by cases h
  | _ :: _, _, [], _, h, _ => by cases h
  | kv :: kvs, acc, p :: ps, acc', h, ha => by
    cases h with
    | cons h t =>
      show KP F (mergeK (putK acc kv.1 kv.2) kvs) (dmP (dput acc' p.1 p.2) ps)
      rw [h.1]
      exact KP.mergeP kvs _ ps _ t (KP.put h.2 ha)
theorem pairs_rep {H : Hp} : ∀ (xs : List P) (us : List V) (prs : List (P × P)), RepL H us xs → prsD xs = some prs → ∃ (ps : List Addr) (vs : List (V × V)), us = ps.map V.ref ∧ Paired (fun p kv => H p = some (.tup [kv.1, kv.2])) ps vs ∧ Paired (fun kv p => Rep H kv.1 p.1 ∧ Rep H kv.2 p.2) vs prs
  | [], _, prs, h, e => by
    cases h
    cases e
    exact ⟨[], [], rfl, .nil, .nil⟩
  | x :: xs, _, prs, h, e => by
    cases h with
    | @cons u us' _ _ hu ht =>
      match x, e, hu with
      | .tuple [k, v], e, hu =>
        obtain ⟨ps', h1, e⟩ := Option.bind_eq_some_iff.mp (show (prsD xs).bind _ = _ from e)
        cases e
        obtain ⟨as, vs, rfl, p1, p2⟩ := pairs_rep xs us' ps' ht h1
        cases hu with
        | tup ha hb =>
          cases hb with
          | cons hk hb =>
            cases hb with
            | cons hv hb =>
              cases hb
              exact ⟨_ :: as, (_, _) :: vs, rfl, .cons ha p1, .cons ⟨hk, hv⟩ p2⟩
      | .tuple [], e, _ => cases e
      | .tuple [_], e, _ => cases e
      | .tuple (_ :: _ :: _ :: _), e, _ => cases e
      | .none, e, _ => cases e
      | .bool _, e, _ => cases e
      | .int _, e, _ => cases e
      | .str _, e, _ => cases e
      | .list _, e, _ => cases e
      | .dict _, e, _ => cases e
theorem pairs_T {H : Hp} : ∀ (as : List Addr) (vs : List (V × V)) (prs : List (P × P)) (kss : List (List Key)), Paired (fun p kv => H p = some (.tup [kv.1, kv.2])) as vs → Paired (fun kv p => Rep H kv.1 p.1 ∧ Rep H kv.2 p.2) vs prs → tkeys prs = some kss →
    ∃ kvs : List (List Key × V), Paired (fun p kv => ∃ b, H p = some (.tup [.ref b, kv.2]) ∧ H b = some (.tup (kv.1.map kV))) as kvs ∧ TP' (Rep H) kvs prs
  | _, _, _, _, .nil, .nil, _ => ⟨[], .nil, .nil⟩
  | a :: as, kv :: vs, (k, v) :: prs, kss, .cons h1 t1, .cons h2 t2, e => by
    match k, e, h2 with
    | .tuple xs, e, h2 =>
      obtain ⟨ks, f1, e⟩ := Option.bind_eq_some_iff.mp (show (flatKs xs).bind _ = _ from e)
      obtain ⟨kss', f2, e⟩ := Option.bind_eq_some_iff.mp e
      obtain ⟨kvs, q1, q2⟩ := pairs_T as vs prs kss' t1 t2 f2
      have ex := flatKs_eq f1
      subst ex
      obtain ⟨hk, hv⟩ := h2
      obtain ⟨kv1, kv2⟩ := kv
      cases (show Rep H kv1 (.tuple (ks.map keyP)) from hk) with
      | tup hb hbs =>
        rename_i b ws
        have e5 := rep_keys hbs
        subst e5
        exact ⟨(ks, kv2) :: kvs, .cons ⟨b, h1, hb⟩ q1, .cons ⟨rfl, hv⟩ q2⟩
    | .none, e, _ => cases e
    | .bool _, e, _ => cases e
    | .int _, e, _ => cases e
    | .str _, e, _ => cases e
    | .list _, e, _ => cases e
    | .dict _, e, _ => cases e
theorem pairs_K {H : Hp} : ∀ (as : List Addr) (vs : List (V × V)) (prs : List (P × P)) (kss : List Key), Paired (fun p kv => H p = some (.tup [kv.1, kv.2])) as vs → Paired (fun kv p => Rep H kv.1 p.1 ∧ Rep H kv.2 p.2) vs prs → fkeys prs = some kss →
    ∃ kvs : List (Key × V), Paired (fun p kv => H p = some (.tup [kV kv.1, kv.2])) as kvs ∧ KP (Rep H) kvs prs
  | _, _, _, _, .nil, .nil, _ => ⟨[], .nil, .nil⟩
  | a :: as, kv :: vs, (k, v) :: prs, kss, .cons h1 t1, .cons h2 t2, e => by
    obtain ⟨kk, f1, e⟩ := Option.bind_eq_some_iff.mp (show (flatK k).bind _ = _ from e)
    obtain ⟨kss', f2, e⟩ := Option.bind_eq_some_iff.mp e
    obtain ⟨kvs, q1, q2⟩ := pairs_K as vs prs kss' t1 t2 f2
    have ex := flatK_eq f1
    subst ex
    obtain ⟨hk, hv⟩ := h2
    obtain ⟨kv1, kv2⟩ := kv
    have ey := rep_key (show Rep H kv1 (keyP kk) from hk)
    dsimp only at ey h1
    subst ey
    exact ⟨(kk, kv2) :: kvs, .cons h1 q1, .cons ⟨rfl, hv⟩ q2⟩
def rDictP (K : PySem.W.Frag) : List V → Hp → VK → Prop := fun xs H Q => ∃ (a : Addr) (ps : List Addr) (kvs : List (Key × V)), xs = [.ref a] ∧ SqL K H a (ps.map V.ref) ∧ Paired (fun p kv => SqT K H p [kV kv.1, kv.2]) ps kvs ∧
    ∀ p, H p = none → Q (.ref p) (upd H p (.dK (mergeK [] kvs)))
theorem call_dictA (hcalm : X.calm = true) (hu : X.A.units + 65 < cLine) : CallR X (.type "dict") (fun xs H Q => rDictT X.K xs H Q ∨ rDictP X.K xs H Q) := by
  intro pins s σ H xs us Q I r h
  rcases h with h | h
  · exact call_dictT hcalm hu pins s σ H xs us Q I r h
  · exact call_dictP hcalm pins s σ H xs us Q I r h
theorem dctT_fin {H : Hp} {p : Addr} {kvs : List (List Key × V)} {ps : List (P × P)} {Q : VK} (h : H p = none) (r : TP' (Rep H) kvs ps) (q : ∀ v H', Same H H' → Rep H' v (.dict ps) → Q v H') : GQ Q (.ref p) (upd H p (.dT kvs)) :=
  .inr ⟨p, .dT kvs, rfl, upd_same, trivial, fun od => q _ _ (fz_new h) (.dct (.inr ⟨od, kvs, upd_same, rfl⟩) rfl rfl (RepL.ext (.of (fz_new h)) (RepL.un r.to.1)) r.to.2)⟩
theorem dctK_fin {H : Hp} {p : Addr} {kvs : List (Key × V)} {ps : List (P × P)} {Q : VK} (h : H p = none) (r : KP (Rep H) kvs ps) (q : ∀ v H', Same H H' → Rep H' v (.dict ps) → Q v H') : GQ Q (.ref p) (upd H p (.dK kvs)) :=
  .inr ⟨p, .dK kvs, rfl, upd_same, trivial, fun od => q _ _ (fz_new h) (.dct (.inl ⟨od, kvs, upd_same, rfl⟩) rfl rfl (RepL.ext (.of (fz_new h)) (RepL.un r.to.1)) r.to.2)⟩
/-- dict(xs): data -/
def gDict : List D → Sto → Option (D × Sto)
  | [d], S => (seqD d S).bind fun q => if q.1 = true then none else (pusOf q.2).bind fun xs => (prsD xs).bind fun prs => if (tkeys prs).isSome || (fkeys prs).isSome then some (.pu (.dict (dmP [] prs)), S) else none
  | _, _ => none
theorem v_dict (hK : X.K = G.K) : VA G (fun xs H Q => rDictT X.K xs H Q ∨ rDictP X.K xs H Q) gDict := by
  intro σ H e S f vs ds d S' Q r0 rs hg q
  match ds, rs with
  | [dx], .cons (a := x) rx .nil =>
    obtain ⟨⟨k, is⟩, h1, hg⟩ := Option.bind_eq_some_iff.mp (show (seqD dx S).bind _ = _ from hg)
    cases k with
    | true => cases hg
    | false =>
      obtain ⟨xs, h2, hg⟩ := Option.bind_eq_some_iff.mp (show (pusOf is).bind _ = _ from hg)
      obtain ⟨prs, h3, hg⟩ := Option.bind_eq_some_iff.mp hg
      have e2 := pusOf_eq h2
      subst e2
      obtain ⟨a, us, rfl, ht, hl, hp⟩ := seq_ok r0 rx h1
      obtain ⟨as, vs, rfl, p1, p2⟩ := pairs_rep xs us prs (rd_reps hp) h3
      by_cases c : ((tkeys prs).isSome || (fkeys prs).isSome) = true
      · replace hg := ‹(if ((tkeys prs).isSome || (fkeys prs).isSome) = true then some (D.pu (PyData.dict (dmP [] prs)), S) else none) = some (d, S')›
        rw [if_pos c] at hg
        cases hg
        rw [hK]
        cases hk : tkeys prs with
        | some kss =>
          obtain ⟨kvs, q1, q2⟩ := pairs_T as vs prs kss p1 p2 hk
          refine .inl ⟨a, as, kvs, rfl, hl rfl, Paired.mapP q1 fun _ _ ⟨b, z1, z2⟩ => ⟨b, SqT.of z1, z2⟩, fun p np => ?_⟩
          exact dctT_fin np (TP'.merge kvs [] prs [] q2 .nil) fun v H' s rv => q v H' f (r0.same s) (.of s _ _) rv
        | none =>
          rw [hk] at c
          obtain ⟨kss, hk⟩ := Option.isSome_iff_exists.mp (show (fkeys prs).isSome = true from c)
          obtain ⟨kvs, q1, q2⟩ := pairs_K as vs prs kss p1 p2 hk
          refine .inr ⟨a, as, kvs, rfl, hl rfl, Paired.mapP q1 fun _ _ z1 => SqT.of z1, fun p np => ?_⟩
          exact dctK_fin np (KP.mergeP kvs [] prs [] q2 .nil) fun v H' s rv => q v H' f (r0.same s) (.of s _ _) rv
      · replace hg := ‹(if ((tkeys prs).isSome || (fkeys prs).isSome) = true then some (D.pu (PyData.dict (dmP [] prs)), S) else none) = some (d, S')›
        rw [if_neg c] at hg
        cases hg
  | [], _ => cases hg
  | _ :: _ :: _, _ => cases hg
end
end DL
/-! DLW: sorted(d), d a dict. -/
namespace DL
open PySem PySem.Spec PyProof.Rows L2
section
variable {X : Cx}
def keysKT (H : Hp) (a : Addr) (ds : List P) : Prop := (∃ kvs, Rd H a (.dK kvs) ∧ ds = kvs.map fun kv => keyP kv.1) ∨ ∃ kvs, Rd H a (.dT kvs) ∧ ds = kvs.map fun kv => PyData.tuple (kv.1.map keyP)
def rSortX : List V → Hp → VK → Prop := fun xs H Q => ∃ (a : Addr) (ds : List P), xs = [.ref a] ∧ keysKT H a ds ∧ srtOk ds = true ∧
  ∀ (ws' : List V) (p : Addr), RepL H ws' (ds.mergeSort leP) → H p = none → Q (.ref p) (upd H p (.lst ws'))
theorem keys_src {pins : List (Addr × Obj)} {σ : L2.St} {H : Hp} {s : Shared} (I : Inv X pins σ H s) {a : Addr} {ds : List P} (h : keysKT H a ds) :
    ∃ (d : Addr) (n : Nat) (Pp : Nat → Value → Prop) (OK : Heap → Prop) (ws : List V), PySem.W.KdlSrc X.prog X.w "dict" a d n Pp OK ∧ OK s.heap ∧ n ≤ sizeLine ∧ RepL H ws ds ∧ ∀ acc : Array Value, ItemsOf Pp acc n → Vals ws acc.toList := by
  rcases h with ⟨kvs, hk, rfl⟩ | ⟨kvs, hk, rfl⟩
  · obtain ⟨z, lo, vs, rk, hd⟩ := (show ObjOk X.prog X.w H s.heap a (.dK kvs) from hk.ok I.hok)
    obtain ⟨ep, hat⟩ := hd.dictAt
    have hl : kvs.length = vs.length := Paired.length rk
    refine ⟨_, _, _, _, kvs.map fun kv => kV kv.1, PySem.W.kdl_dict (knd := mixKind X.prog X.w) (kvs := vs) (ep := ep) lo, hat, by rw [← hl]; exact z, ?_, fun acc' hacc => ?_⟩
    · have : ∀ l : List (Key × V), RepL H (l.map fun kv => kV kv.1) (l.map fun kv => keyP kv.1) := fun l => by
        induction l with
        | nil => exact .nil
        | cons k l ih => exact .cons (rep_kV _) ih
      exact this kvs
    · have el : acc'.toList.length = acc'.size := by simp
      refine vals_of_at (by rw [List.length_map, el, hacc.1, hl]) fun j x w h1 h2 => ?_
      obtain ⟨k, y, hky, hi⟩ := hacc.2 j w (by rw [← Array.getElem?_toList]; exact h2)
      have e1 : (kvs.map (·.1))[j]? = some k := by
        rw [KV.keys rk, List.getElem?_map, hky] <;> rfl
      have e2 : (kvs.map fun kv => kV kv.1)[j]? = some (kV k) := by
        have e3 : (kvs.map fun kv => kV kv.1) = (kvs.map (·.1)).map kV := by rw [List.map_map] <;> rfl
        rw [e3, List.getElem?_map, e1] <;> rfl
      rw [e2] at h1
      cases h1
      exact keyIs_rel hi
  · obtain ⟨z, hs, ks, pr, o, es, ep, ho, hx, hdt, he, hn⟩ := (show ObjOk X.prog X.w H s.heap a (.dT kvs) from hk.ok I.hok)
    have l1 : es.size = ks.length := size_of_entries he
    have l2 : kvs.length = ks.length := Paired.length pr
    refine ⟨_, _, _, _, (ks.map fun x => x.2.1).map V.ref, kdl_raw hs hx hdt, ho, by omega, ?_, fun acc' it => ?_⟩
    · have : ∀ (l : List (List Key × V)) (m : List (List Key × Addr × Value)), KT H l m → RepL H ((m.map fun x => x.2.1).map V.ref) (l.map fun kv => PyData.tuple (kv.1.map keyP)) := fun l => by
        induction l with
        | nil => intro m h; cases h; exact .nil
        | cons k l ih =>
          intro m h
          cases h with
          | cons h t => exact .cons (.tup h.2.1 (rep_kVs _)) (ih _ t)
      exact this kvs ks pr
    · have ea : acc'.toList = ks.map fun x => Value.ref x.2.1 := by
        have hl : acc'.toList.length = ks.length := by rw [Array.length_toList, it.1]; exact l1
        apply List.ext_getElem?
        intro j
        rw [List.getElem?_map]
        cases hj : acc'.toList[j]? with
        | none =>
          have h1 := List.getElem?_eq_none_iff.mp hj
          rw [List.getElem?_eq_none (by omega)]
          all_goals rfl
        | some v =>
          obtain ⟨en, hen, hv⟩ := it.2 j v (by rw [← Array.getElem?_toList]; exact hj)
          have qe := entry_at he j
          rw [hen] at qe
          cases hb : ks[j]? with
          | none =>
            rw [hb] at qe
            exact nomatch (show some en = none from qe)
          | some b =>
            rw [hb] at qe
            have e2 : en = entryOfKey (tupleKind (mixKind X.prog X.w)) b := Option.some.inj qe
            rw [hv, e2]
            all_goals rfl
      have eb : acc'.toList = (ks.map fun x => x.2.1).map Value.ref := by rw [ea, List.map_map]; all_goals rfl
      rw [eb]
      exact vals_refs _
theorem cr_sortX (hcalm : X.calm = true) (hu : X.A.units + 65 < cLine) : CallR X (.builtin "sorted") rSortX := by
  intro pins s σ H xs us Q I r h
  obtain ⟨a, ds, rfl, hk, ok, q⟩ := h
  obtain ⟨u, eu, rx⟩ := vals1 r
  subst eu
  obtain rfl : u = Value.ref a := rx
  obtain ⟨d, n, Pp, OK, ws, K, hok, hn, hr, hv⟩ := keys_src I hk
  unfold srtOk at ok
  rw [Bool.and_eq_true, Bool.and_eq_true, Bool.and_eq_true, Bool.or_eq_true, decide_eq_true_eq] at ok
  obtain ⟨⟨⟨o1, o2⟩, o3⟩, o4⟩ := ok
  have en : (ws.zip ds).map (fun b => b.2) = ds := List.map_snd_zip (Nat.le_of_eq hr.length.symm)
  have hal : PySem.W.AllAlike ((ws.zip ds).map fun b => b.2) := by
    rw [en]
    intro d hd d' hd'
    exact List.all_eq_true.mp (List.all_eq_true.mp o1 d hd) d' hd'
  have hsk : PySem.W.Sortable ((ws.zip ds).map fun b => b.2) := by
    rw [en]
    rcases o2 with o2 | o2
    · refine .inl fun d hd => ?_
      have := List.all_eq_true.mp o2 d hd
      cases d with
      | tuple xs => cases xs with
        | nil => cases this
        | cons x r => exact ⟨x, r, rfl⟩
      | _ => cases this
    · refine .inr fun d hd => ?_
      have := List.all_eq_true.mp o2 d hd
      exact ⟨fun e => (by rw [e] at this; cases this), fun xs e => (by rw [e] at this; cases this)⟩
  have hlen : (ws.zip ds).length ≤ sizeLine := by rw [List.length_zip, hr.length, Nat.min_self, ← lim_eq]; exact o4
  have hdep : ∀ b, b ∈ ws.zip ds → X.A.units + 2 + (b.2).depth < cLine := fun b hb => by
    have hm : b.2 ∈ ds := by rw [← en]; exact List.mem_map_of_mem hb
    have := (shp_ok 8 _ (List.all_eq_true.mp o3 _ hm)).2
    omega
  refine Calls.call_function_entry PyProof.Rows.kind_sorted PyProof.Rows.plain_sorted PyProof.Rows.entry_sorted (PyProof.Rows.args_sorted1 _) ?_
  unfold Builtin.«sorted»
  refine wpAny_bind (m := checkCount "sorted" 1 1 _) (wpAny_pure ?_)
  refine wpAny_bind (PySem.W.kdu_collect (A := X.A.in1) K (I.ok.hd hcalm) hok hn fun h' tk acc hk hacc => ?_)
  have rv := hv acc hacc
  have I1 : Inv X pins σ H { s with heap := h', toks := tk } := I.kept hk
  have hz : acc.toList.length ≤ sizeLine := by rw [← rv.length, hr.length, ← lim_eq]; exact o4
  refine wpAny_bind (wpAny_newList ?_ hz)
  have hoL : (h'.push (seqObj "list" acc.toList.toArray 0)).get? h'.objs.size = some (seqObj "list" acc.toList.toArray 0) := Heap.get?_push_size _ rfl
  show wpAny _ _ _ _ _ { s with heap := h'.push (seqObj "list" acc.toList.toArray 0), toks := tk }
  have e := each_zip (H := H) hr rv
  have er : PySem.W.EachIs (fun (v : Value) (b : V × P) => ∃ as, Reads (PySem.W.sortingHeap (h'.push (seqObj "list" acc.toList.toArray 0)) h'.objs.size acc.toList) v b.2 as) acc.toList (ws.zip ds) :=
    (each_reads I1 hr rv o3).mono fun _ _ ⟨as, r⟩ => ⟨as, PyProof.Rows.Reads.keeps (fun b o hb => PySem.W.sortingHeap_old (Nat.ne_of_lt (Heap.lt_size hb)) (Heap.get?_push_of_some _ hb)) r⟩
  refine wpAny_bind (wpAny_holding (wpAny_call_entry PyProof.Rows.slot_list_sort ⟨_, hoL, rfl⟩ PyProof.Rows.entry_list_sort
    (PySem.W.list_sort_vals (s := { s with heap := h'.push (seqObj "list" acc.toList.toArray 0), toks := tk }) hoL (PySem.W.SortsAt.data (s := { s with heap := PySem.W.sortingHeap (h'.push (seqObj "list" acc.toList.toArray 0)) h'.objs.size acc.toList, toks := tk }) (PySem.W.each_map (R := fun v d => ∃ as, Reads (PySem.W.sortingHeap (h'.push (seqObj "list" acc.toList.toArray 0)) h'.objs.size acc.toList) v d as) (fun b : V × P => b.2) er) hal hsk (PySem.W.bound_map hdep)) hz ⟨.none, rfl, ?_⟩) (PyProof.Rows.args_list_sort _)))
  have eo := PySem.W.sortVals_data (enc := fun b : V × P => b.2) false e er hal
  have hlo : (PySem.W.sortVals (PySem.W.dataKind (PySem.W.sortingHeap (h'.push (seqObj "list" acc.toList.toArray 0)) h'.objs.size acc.toList) ((ws.zip ds).map fun b => b.2)) false acc.toList acc.toList).length = acc.toList.length := PySem.W.sortVals_length false rfl
  generalize PySem.W.sortVals (PySem.W.dataKind (PySem.W.sortingHeap (h'.push (seqObj "list" acc.toList.toArray 0)) h'.objs.size acc.toList) ((ws.zip ds).map fun b => b.2)) false acc.toList acc.toList = out at eo hlo ⊢
  obtain ⟨e', he'⟩ := PyProof.Rows.sortedHeap_at (vs := acc.toList) (out := out.toArray) hoL
  have hvo := each_vals eo
  have hrep : RepL H (((ws.zip ds).mergeSort (PySem.W.dataLe false fun b : V × P => b.2)).map (·.1)) (((ws.zip ds).mergeSort (PySem.W.dataLe false fun b : V × P => b.2)).map (·.2)) := zip_rep fun b hb => rep_zip hr b (List.mem_mergeSort.mp hb)
  have hds : ((ws.zip ds).mergeSort (PySem.W.dataLe false fun b : V × P => b.2)).map (·.2) = ds.mergeSort leP := by
    exact (List.map_mergeSort (r := PySem.W.dataLe false fun b : V × P => b.2) (s := leP) (f := fun b : V × P => b.2) (fun _ _ _ _ => rfl)).trans (by rw [en])
  rw [hds] at hrep
  have hl2 : (((ws.zip ds).mergeSort (PySem.W.dataLe false fun b : V × P => b.2)).map (·.1)).length ≤ sizeLine := by rw [hrep.length, List.length_mergeSort, ← lim_eq]; exact o4
  refine wpAny_pure ⟨_, rfl, .ref h'.objs.size, upd H h'.objs.size (.lst _), I1.laid (t' := tk) (fun b u e => ?_) (Nat.le_refl _) ⟨hl2, out, e', hvo, he'⟩, rfl, q _ _ hrep (I1.hok.fresh (Nat.le_refl _))⟩
  have hb : b < h'.objs.size := Heap.lt_size e
  rw [PyProof.Rows.sortedHeap_old (Nat.ne_of_lt hb) (by rw [size_push']; exact Nat.lt_succ_of_lt hb)]
  exact Heap.get?_push_of_some _ e
end
section
variable {X : Cx} {G : Gx}
theorem cr_sortA (hcalm : X.calm = true) (hu : X.A.units + 65 < cLine) : CallR X (.builtin "sorted") (fun xs H Q => rSortD X.K xs H Q ∨ rSortX xs H Q) := by
  intro pins s σ H xs us Q I r h
  rcases h with h | h
  · exact cr_sortD hu pins s σ H xs us Q I r h
  · exact cr_sortX hcalm hu pins s σ H xs us Q I r h
def gSortA (mk : List P → D) : List D → Sto → Option (D × Sto)
  | [d], S => match dicD d S with
    | some ps => if srtOk (keysOf ps) = true then some (mk ((keysOf ps).mergeSort leP), S) else none
    | none => gSortW mk [d] S
  | ds, S => gSortW mk ds S
def gSortedA : List D → Sto → Option (D × Sto) := gSortA fun ps => .pu (.list ps)
def gSortedAN : List D → Sto → Option (D × Sto) := gSortA fun ps => .nw (.lst ps)
theorem kt_of {H : Hp} {a : Addr} {ps : List (P × D)} {F : V → D → Prop} (h : (∃ kvs, Rd H a (.dK kvs) ∧ KP F kvs ps) ∨ ∃ kvs, Rd H a (.dT kvs) ∧ TP' F kvs ps) : keysKT H a (keysOf ps) := by
  rcases h with ⟨kvs, h, kp⟩ | ⟨kvs, h, kp⟩
  · refine .inl ⟨kvs, h, ?_⟩
    clear h
    induction kp with
    | nil => rfl
    | cons h t ih => exact congr (congrArg _ h.1) ih
  · refine .inr ⟨kvs, h, ?_⟩
    clear h
    induction kp with
    | nil => rfl
    | cons h t ih => exact congr (congrArg _ h.1) ih
theorem v_sortA (hK : X.K = G.K) : VA G (fun xs H Q => rSortD X.K xs H Q ∨ rSortX xs H Q) gSortedA := by
  intro σ H e S f vs ds d S' Q r0 rs hg q
  match ds, rs with
  | [dx], .cons (a := x) rx .nil =>
    unfold gSortedA gSortA at hg
    dsimp only at hg
    cases hd : dicD dx S with
    | none =>
      rw [hd] at hg
      exact .inl (v_sortD hK σ H e S f _ _ d S' Q r0 (.cons rx .nil) hg q)
    | some ps =>
      rw [hd] at hg
      dsimp only at hg
      by_cases c : srtOk (keysOf ps) = true
      · rw [if_pos c] at hg
        cases hg
        obtain ⟨a, rfl, h⟩ := dic_ok r0 rx hd
        exact .inr ⟨a, _, rfl, kt_of h, c, fun ws' p hr np => lst_fin np hr fun v H' s rv => q v H' f (r0.same s) (.of s _ _) rv⟩
      · rw [if_neg c] at hg
        cases hg
  | [], _ => cases hg
  | _ :: _ :: _, rs => exact .inl (v_sortD hK σ H e S f _ _ d S' Q r0 rs hg q)
theorem v_sortAN (hK : X.K = G.K) : VA G (fun xs H Q => rSortD X.K xs H Q ∨ rSortX xs H Q) gSortedAN := by
  intro σ H e S f vs ds d S' Q r0 rs hg q
  match ds, rs with
  | [dx], .cons (a := x) rx .nil =>
    unfold gSortedAN gSortA at hg
    dsimp only at hg
    cases hd : dicD dx S with
    | none =>
      rw [hd] at hg
      exact .inl (v_sortDN hK σ H e S f _ _ d S' Q r0 (.cons rx .nil) hg q)
    | some ps =>
      rw [hd] at hg
      dsimp only at hg
      by_cases c : srtOk (keysOf ps) = true
      · rw [if_pos c] at hg
        cases hg
        obtain ⟨a, rfl, h⟩ := dic_ok r0 rx hd
        exact .inr ⟨a, _, rfl, kt_of h, c, fun ws' p hr np => nw_fin r0 np hr q⟩
      · rw [if_neg c] at hg
        cases hg
  | [], _ => cases hg
  | _ :: _ :: _, rs => exact .inl (v_sortDN hK σ H e S f _ _ d S' Q r0 rs hg q)
end
end DL
/-! LWU: rules of dicts. -/
namespace DL
open PySem PySem.Spec PyProof.Rows L2
section
variable {e : Envi} {S : Sto}
theorem w_lnD {ps : List (P × P)} {Q : D × Sto → Prop} : W (gLenA [.pu (.dict ps)] S) Q ↔ Q (.pu (.int ps.length), S) := by
  show W (some (D.pu (.int (ps.map fun q => (q.1, D.pu q.2)).length), S)) Q ↔ _
  rw [w_some, List.length_map]
theorem w_lnB {i : Nat} {ps : List (P × P)} {Q : D × Sto → Prop} : W (gLenA [.bo i (.dct ps)] S) Q ↔ Q (.pu (.int ps.length), S) := by
  show W (some (D.pu (.int (ps.map fun q => (q.1, D.pu q.2)).length), S)) Q ↔ _
  rw [w_some, List.length_map]
theorem w_lnL {xs : List P} {Q : D × Sto → Prop} : W (gLenA [.pu (.list xs)] S) Q ↔ Q (.pu (.int xs.length), S) := w_lenL
theorem w_lnT {xs : List P} {Q : D × Sto → Prop} : W (gLenA [.pu (.tuple xs)] S) Q ↔ Q (.pu (.int xs.length), S) := w_lenT
theorem w_lnO {i : Nat} {xs : List P} {Q : D × Sto → Prop} : W (gLenA [.bo i (.lst xs)] S) Q ↔ Q (.pu (.int xs.length), S) := w_lenB (i := i)
theorem keys_dic (ps : List (P × P)) : keysOf (ps.map fun q => (q.1, D.pu q.2)) = ps.map (·.1) := keys_pu ps
theorem w_liD {ps : List (P × P)} {Q : D × Sto → Prop} : W (gListA [.pu (.dict ps)] S) Q ↔ Q (.pu (.list (ps.map (·.1))), S) := by
  show W (some (D.pu (.list (keysOf (ps.map fun q => (q.1, D.pu q.2)))), S)) Q ↔ _
  rw [w_some, keys_dic]
theorem w_liB {i : Nat} {ps : List (P × P)} {Q : D × Sto → Prop} : W (gListA [.bo i (.dct ps)] S) Q ↔ Q (.pu (.list (ps.map (·.1))), S) := by
  show W (some (D.pu (.list (keysOf (ps.map fun q => (q.1, D.pu q.2)))), S)) Q ↔ _
  rw [w_some, keys_dic]
theorem w_liL {xs : List P} {Q : D × Sto → Prop} : W (gListA [.pu (.list xs)] S) Q ↔ W (gList [.pu (.list xs)] S) Q := Iff.rfl
theorem w_liT {xs : List P} {Q : D × Sto → Prop} : W (gListA [.pu (.tuple xs)] S) Q ↔ W (gList [.pu (.tuple xs)] S) Q := Iff.rfl
theorem w_liO {i : Nat} {xs : List P} {Q : D × Sto → Prop} : W (gListA [.bo i (.lst xs)] S) Q ↔ W (gList [.bo i (.lst xs)] S) Q := Iff.rfl
theorem w_lnND {ps : List (P × P)} {Q : D × Sto → Prop} : W (gListAN [.pu (.dict ps)] S) Q ↔ Q (.nw (.lst (ps.map (·.1))), S) := by
  show W (some (D.nw (.lst (keysOf (ps.map fun q => (q.1, D.pu q.2)))), S)) Q ↔ _
  rw [w_some, keys_dic]
theorem w_lnNB {i : Nat} {ps : List (P × P)} {Q : D × Sto → Prop} : W (gListAN [.bo i (.dct ps)] S) Q ↔ Q (.nw (.lst (ps.map (·.1))), S) := by
  show W (some (D.nw (.lst (keysOf (ps.map fun q => (q.1, D.pu q.2)))), S)) Q ↔ _
  rw [w_some, keys_dic]
theorem w_lnNL {xs : List P} {Q : D × Sto → Prop} : W (gListAN [.pu (.list xs)] S) Q ↔ W (gListN [.pu (.list xs)] S) Q := Iff.rfl
theorem w_lnNT {xs : List P} {Q : D × Sto → Prop} : W (gListAN [.pu (.tuple xs)] S) Q ↔ W (gListN [.pu (.tuple xs)] S) Q := Iff.rfl
theorem w_lnNO {i : Nat} {xs : List P} {Q : D × Sto → Prop} : W (gListAN [.bo i (.lst xs)] S) Q ↔ W (gListN [.bo i (.lst xs)] S) Q := Iff.rfl
def anyQ (Q : List D × Sto → Prop) (S : Sto) (d : D) : Prop := match d with
  | .pu (.dict ps) => Q (ps.map fun p => .pu p.1, S)
  | d => W (itemsD d) fun q => Q (q.2, S)
theorem w_soD {ps : List (P × P)} {Q : D × Sto → Prop} : W (gSortedA [.pu (.dict ps)] S) Q ↔ srtOk (ps.map (·.1)) = true ∧ Q (.pu (.list ((ps.map (·.1)).mergeSort leP)), S) := by
  show W (if srtOk (keysOf (ps.map fun q => (q.1, D.pu q.2))) = true then some (D.pu (.list ((keysOf (ps.map fun q => (q.1, D.pu q.2))).mergeSort leP)), S) else none) Q ↔ _
  rw [keys_dic, w_ite, w_some, w_none]
  by_cases c : srtOk (ps.map (·.1)) = true
  · rw [if_pos c]; exact ⟨fun h => ⟨c, h⟩, fun h => h.2⟩
  · rw [if_neg c]; exact ⟨fun h => h.elim, fun h => (c h.1).elim⟩
theorem w_soB {i : Nat} {ps : List (P × P)} {Q : D × Sto → Prop} : W (gSortedA [.bo i (.dct ps)] S) Q ↔ srtOk (ps.map (·.1)) = true ∧ Q (.pu (.list ((ps.map (·.1)).mergeSort leP)), S) := w_soD
theorem w_soL {xs : List P} {Q : D × Sto → Prop} : W (gSortedA [.pu (.list xs)] S) Q ↔ W (gSorted [.pu (.list xs)] S) Q := Iff.rfl
theorem w_ownD {i : Nat} {Q : Out → Prop} : W (sOwnD i e S) Q ↔ Q (.nx (e.set i (some (.ow (.dct [])))) S) := w_some
theorem any_mid {d : D} {S1 : Sto} {Q : List D × Sto → Prop} : W (match d with
  | .pu (.dict ps) => some (ps.map fun p => D.pu p.1, S1)
  | d => (itemsD d).bind fun q => some (q.2, S1)) Q ↔ anyQ Q S1 d := by
  cases d with
  | pu p => cases p with
    | dict ps => exact w_some
    | _ => exact w_bind.trans ⟨fun h => h.imp fun q h => w_some.mp h, fun h => h.imp fun q h => w_some.mpr h⟩
  | _ => exact w_bind.trans ⟨fun h => h.imp fun q h => w_some.mp h, fun h => h.imp fun q h => w_some.mpr h⟩
theorem w_any {x : Ex} {Q : List D × Sto → Prop} : W (iAny x e S) Q ↔ W (x e S) fun r => anyQ Q r.2 r.1 :=
  w_bind.trans ⟨fun h => h.imp fun r h => any_mid.mp h, fun h => h.imp fun r h => any_mid.mpr h⟩
theorem w_anyD {ps : List (P × P)} {Q : List D × Sto → Prop} : anyQ Q S (.pu (.dict ps)) ↔ Q ((ps.map (·.1)).map .pu, S) := by
  rw [List.map_map]
  exact Iff.rfl
theorem w_anyL {xs : List P} {Q : List D × Sto → Prop} : anyQ Q S (.pu (.list xs)) ↔ W (itemsD (.pu (.list xs))) fun q => Q (q.2, S) := Iff.rfl
theorem w_anyT {xs : List P} {Q : List D × Sto → Prop} : anyQ Q S (.pu (.tuple xs)) ↔ W (itemsD (.pu (.tuple xs))) fun q => Q (q.2, S) := Iff.rfl
theorem w_inxL {neg : Bool} {a : P} {ds : List P} {Q : D × Sto → Prop} : W (gInX neg (.pu a) (.pu (.list ds)) S) Q ↔ W (gIn neg (.pu a) (.pu (.list ds)) S) Q := Iff.rfl
theorem w_inxT {neg : Bool} {a : P} {ds : List P} {Q : D × Sto → Prop} : W (gInX neg (.pu a) (.pu (.tuple ds)) S) Q ↔ W (gIn neg (.pu a) (.pu (.tuple ds)) S) Q := Iff.rfl
/-! ### a dict as a set: keys by an encoding, each True -/
section
variable {α : Type} [DecidableEq α]
/-- an encoding of keys -/
structure KEnc (enc : α → P) : Prop where
  eqv : ∀ a b, PyData.eqv (enc a) (enc b) = decide (a = b)
  key : ∀ a, (keyD (enc a)).isSome = true
  knd : ∀ a b, isT (enc a) = isT (enc b)
def asD (enc : α → P) (qs : List α) : List (P × P) := qs.map fun a => (enc a, .bool true)
def addK (qs : List α) (a : α) : List α := if a ∈ qs then qs else qs ++ [a]
theorem addK_mem {qs : List α} {a b : α} : b ∈ addK qs a ↔ b ∈ qs ∨ b = a := by
  unfold addK
  split
  · rename_i h
    exact ⟨.inl, fun h' => h'.elim id fun e => e ▸ h⟩
  · rw [List.mem_append, List.mem_singleton]
theorem addK_nodup {qs : List α} {a : α} (h : qs.Nodup) : (addK qs a).Nodup := by
  unfold addK
  split
  · exact h
  · rename_i n
    rw [List.nodup_append]
    refine ⟨h, by simp, fun x hx y hy e => ?_⟩
    rw [List.mem_singleton] at hy
    subst e hy
    exact n hx
theorem addK_len {qs : List α} {a : α} : (addK qs a).length ≤ qs.length + 1 := by
  unfold addK
  split
  · omega
  · simp
theorem any_as {enc : α → P} (E : KEnc enc) (qs : List α) (a : α) : ((asD enc qs).any fun q => PyData.eqv q.1 (enc a)) = decide (a ∈ qs) := by
  induction qs with
  | nil => rfl
  | cons b qs ih =>
    show (PyData.eqv (enc b) (enc a) || ((asD enc qs).any fun q => PyData.eqv q.1 (enc a))) = _
    rw [ih, E.eqv, Bool.eq_iff_iff, Bool.or_eq_true, decide_eq_true_eq, decide_eq_true_eq, decide_eq_true_eq, List.mem_cons]
    exact ⟨fun h => h.imp Eq.symm id, fun h => h.imp Eq.symm id⟩
theorem dput_as {enc : α → P} (E : KEnc enc) (qs : List α) (a : α) : dput (asD enc qs) (enc a) (.bool true) = asD enc (addK qs a) := by
  unfold dput addK
  rw [any_as E]
  by_cases h : a ∈ qs
  · rw [if_pos (decide_eq_true h), if_pos h]
    unfold asD
    rw [List.map_map]
    refine List.map_congr_left fun b _ => ?_
    show (if PyData.eqv (enc b) (enc a) = true then (enc b, PyData.bool true) else (enc b, .bool true)) = _
    split <;> rfl
  · rw [if_neg (by simpa using h), if_neg h]
    unfold asD
    rw [List.map_append]
    rfl
theorem kOk_as {enc : α → P} (E : KEnc enc) (qs : List α) (a : α) : kOk (asD enc qs) (enc a) = true := by
  cases qs with
  | nil => rfl
  | cons b qs => show (isT (enc b) == isT (enc a)) = true; rw [E.knd b a]; exact beq_self_eq_true _
theorem put_as {enc : α → P} (E : KEnc enc) {i : Nat} {c : List (P × P)} {qs : List α} {a : α} {Q : Envi × Sto → Prop} (he : e[i]? = some (some (.ow (.dct (asD enc qs))))) (hl : qs.length < lim) (q : Q (e.set i (some (.ow (.dct (asD enc (addK qs a))))), S)) : W (putS (.bo i (.dct c)) (.pu (enc a)) (.pu (.bool true)) e S) Q := by
  have h : putD (.bo i (.dct c)) (enc a) (.pu (.bool true)) e S = some (e.set i (some (.ow (.dct (asD enc (addK qs a))))), S) := by
    unfold putD
    dsimp only
    rw [he]
    dsimp only
    obtain ⟨k, hk⟩ := Option.isSome_iff_exists.mp (E.key a)
    rw [hk, Option.bind_some, kOk_as E, if_pos (by rw [Bool.true_and]; exact decide_eq_true (by unfold asD; rw [List.length_map]; exact hl)), dput_as E]
  have h2 : putS (.bo i (.dct c)) (.pu (enc a)) (.pu (.bool true)) e S = putD (.bo i (.dct c)) (enc a) (.pu (.bool true)) e S := by
    unfold putS
    have hn : lstD (.bo i (.dct c)) S = none := rfl
    rw [hn]
  rw [h2, h]
  exact w_some.mpr q
theorem look_as {enc : α → P} (E : KEnc enc) (qs : List α) (a : α) : (dlook ((asD enc qs).map fun q => (q.1, D.pu q.2)) (enc a)).isSome = decide (a ∈ qs) := by
  induction qs with
  | nil => rfl
  | cons b qs ih =>
    show (dlook ((enc b, D.pu (.bool true)) :: (asD enc qs).map fun q => (q.1, D.pu q.2)) (enc a)).isSome = _
    rw [dlook_cons]
    show (if PyData.eqv (enc b) (enc a) = true then some (D.pu (.bool true)) else _).isSome = _
    rw [E.eqv]
    by_cases h : b = a
    · subst h
      simp
    · rw [if_neg (by simpa using h), ih]
      have h' : ¬ a = b := fun e => h e.symm
      simp [h']
theorem in_as {enc : α → P} (E : KEnc enc) {neg : Bool} {qs : List α} {a : α} (ne : qs ≠ []) {Q : D × Sto → Prop} (q : Q (.pu (.bool (if neg then !decide (a ∈ qs) else decide (a ∈ qs))), S)) : W (gInX neg (.pu (enc a)) (.pu (.dict (asD enc qs))) S) Q := by
  obtain ⟨k, hk⟩ := Option.isSome_iff_exists.mp (E.key a)
  cases qs with
  | nil => exact absurd rfl ne
  | cons b qs =>
    have l := look_as E (b :: qs) a
    show W ((keyD (enc a)).bind fun _ => if (isT (enc b) == isT (enc a)) = true then some (D.pu (.bool (if neg = true then !(dlook ((asD enc (b :: qs)).map fun q => (q.1, D.pu q.2)) (enc a)).isSome else (dlook ((asD enc (b :: qs)).map fun q => (q.1, D.pu q.2)) (enc a)).isSome)), S) else none) Q
    rw [hk, Option.bind_some, if_pos (by rw [E.knd b a]; exact beq_self_eq_true _), l]
    exact w_some.mpr q
theorem in_yes {enc : α → P} (E : KEnc enc) {qs : List α} {a : α} (h : a ∈ qs) {Q : D × Sto → Prop} (q : Q (.pu (.bool true), S)) : W (gInX false (.pu (enc a)) (.pu (.dict (asD enc qs))) S) Q := by
  refine in_as E (neg := false) (fun z => by rw [z] at h; cases h) ?_
  rw [if_neg (by decide), decide_eq_true h]
  exact q
theorem in_no {enc : α → P} (E : KEnc enc) {qs : List α} {a : α} (ne : qs ≠ []) (h : a ∉ qs) {Q : D × Sto → Prop} (q : Q (.pu (.bool false), S)) : W (gInX false (.pu (enc a)) (.pu (.dict (asD enc qs))) S) Q := by
  refine in_as E (neg := false) ne ?_
  rw [if_neg (by decide), decide_eq_false h]
  exact q
theorem keys_as {enc : α → P} (qs : List α) : (asD enc qs).map (·.1) = qs.map enc := by
  unfold asD
  rw [List.map_map]
  rfl
end
theorem w_dict {xs : List P} {Q : D × Sto → Prop} : W (gDict [.pu (.list xs)] S) Q ↔ W (prsD xs) fun prs => ((tkeys prs).isSome || (fkeys prs).isSome) = true ∧ Q (.pu (.dict (dmP [] prs)), S) := by
  show W ((pusOf (xs.map D.pu)).bind fun xs => (prsD xs).bind fun prs => if ((tkeys prs).isSome || (fkeys prs).isSome) = true then some (D.pu (.dict (dmP [] prs)), S) else none) Q ↔ _
  rw [pus_map, Option.bind_some, w_bind]
  refine ⟨fun h => h.imp fun q h => ?_, fun h => h.imp fun q h => ?_⟩
  · by_cases c : ((tkeys q).isSome || (fkeys q).isSome) = true
    · rw [if_pos c] at h; exact ⟨c, w_some.mp h⟩
    · rw [if_neg c] at h; exact (w_none.mp h).elim
  · rw [if_pos h.1]; exact w_some.mpr h.2
theorem prs_of {α : Type} (f g : α → P) : ∀ qs : List α, prsD (qs.map fun a => PyData.tuple [f a, g a]) = some (qs.map fun a => (f a, g a))
  | [] => rfl
  | a :: qs => by
    show (prsD (qs.map fun a => PyData.tuple [f a, g a])).bind _ = _
    rw [prs_of f g qs]
    rfl
/-- dict([(x, True) for x in ..]) of unlike ones -/
theorem dm_as {α : Type} [DecidableEq α] {enc : α → P} (E : KEnc enc) {qs : List α} (nd : qs.Nodup) : dmP [] (qs.map fun a => (enc a, PyData.bool true)) = asD enc qs := by
  have key : ∀ (qs acc : List α), (acc ++ qs).Nodup → dmP (asD enc acc) (qs.map fun a => (enc a, PyData.bool true)) = asD enc (acc ++ qs) := fun qs => by
    induction qs with
    | nil => intro acc _; rw [List.append_nil]; rfl
    | cons a qs ih =>
      intro acc nd
      show dmP (dput (asD enc acc) (enc a) (.bool true)) (qs.map fun a => (enc a, PyData.bool true)) = _
      rw [dput_as E]
      have na : a ∉ acc := fun h => (List.nodup_append.mp nd).2.2 a h a List.mem_cons_self rfl
      rw [show addK acc a = acc ++ [a] by unfold addK; rw [if_neg na]]
      have e : acc ++ [a] ++ qs = acc ++ a :: qs := by rw [List.append_assoc]; rfl
      rw [ih (acc ++ [a]) (by rw [e]; exact nd), e]
  exact key qs [] (by simpa using nd)
theorem enc_q : KEnc qe where
  eqv := fun a b => by
    have h := eqv_tkeys [.inl a.1, .inl a.2.1, .inl a.2.2] [.inl b.1, .inl b.2.1, .inl b.2.2]
    show PyData.eqv (.tuple ([.inl a.1, .inl a.2.1, .inl a.2.2].map keyP)) (.tuple ([.inl b.1, .inl b.2.1, .inl b.2.2].map keyP)) = _
    rw [h]
    congr 1
    simp only [List.cons.injEq, Sum.inl.injEq, and_true, eq_iff_iff]
    exact ⟨fun ⟨h1, h2, h3⟩ => Prod.ext h1 (Prod.ext h2 h3), fun h => by subst h; exact ⟨rfl, rfl, rfl⟩⟩
  key := fun _ => rfl
  knd := fun _ _ => rfl
theorem tk_q : ∀ qs : List T3, (tkeys (qs.map fun t => (qe t, PyData.bool true))).isSome = true
  | [] => rfl
  | t :: qs => by
    obtain ⟨k, hk⟩ := Option.isSome_iff_exists.mp (tk_q qs)
    show ((flatKs [.int t.1, .int t.2.1, .int t.2.2]).bind fun ks => (tkeys (qs.map fun t => (qe t, PyData.bool true))).bind fun kss => some (ks :: kss)).isSome = true
    rw [hk]
    rfl
theorem dict_q {qs : List T3} (nd : qs.Nodup) {Q : D × Sto → Prop} (q : Q (.pu (.dict (asD qe qs)), S)) : W (gDict [.pu (.list (qs.map fun t => PyData.tuple [qe t, .bool true]))] S) Q := by
  rw [w_dict, prs_of qe fun _ => .bool true]
  rw [w_some]
  refine ⟨by rw [tk_q]; rfl, ?_⟩
  rw [dm_as enc_q nd]
  exact q
end
end DL
/-! DLX: insert and reverse of a list that stands by itself. -/
namespace DL
open PySem PySem.Spec PyProof.Rows L2
section
variable {X : Cx} {G : Gx} {σ : L2.St} {H : Hp} {e : Envi} {S : Sto} {f : Nat → Addr}
def insD (k : Int) (ds : List D) (d : D) : List D := ds.take k.toNat ++ [d] ++ ds.drop k.toNat
def insK (w : D) (q : D × Sto) (d : D) (e : Envi) : Option (Envi × Sto) := match w with
  | .pu (.int k) => if 0 ≤ k ∧ k < 2 ^ 63 then putL d (fun ds => some (insD k ds q.1)) e q.2 else none
  | _ => none
def sIns (a i x : Ex) : Sx := fun e S => (a e S).bind fun r => (lstD r.1 r.2).bind fun _ => (i e r.2).bind fun w => (x e w.2).bind fun q => if noBo [q.1] then (insK w.1 q r.1 e).bind fun z => some (.nx z.1 z.2) else none
theorem ds_ins {o i a : Expr} {xo xi xa : Ex} {apos cpos pos : Pos} (ho : DE X G o xo) (hi : DE X G i xi) (ha : DE X G a xa)
    (hbase : attributeBase o "insert" X.env (eval o X.env) = eval o X.env := by rfl)
    (hfew : ((backTo cpos (starEach [i, a] X.env)).all (fun x => !x.1) && (backToKw cpos (keywordEach [] X.env)).all (fun x => x.1.isSome)
      && decide (([i, a] : List Expr).length + ([] : List Keyword).length + (if ([] : List Keyword).isEmpty then 0 else 1) < 30)) = true := by rfl)
    (hline : (apos.endLine == cpos.line) = true := by rfl) (hs : starEach [i, a] X.env = (false, eval i X.env) :: starEach [a] X.env := by rfl) (hs2 : starEach [a] X.env = (false, eval a X.env) :: starEach [] X.env := by rfl) (hplain : (backTo cpos (starEach [a] X.env)).any (·.1) = false := by rfl) (hsw : swapsWith (.Call (.Attribute o "insert" apos) [i, a] [] cpos) none pos.line X.env = pure false := by rfl) :
    DS X G (.Expr (.Call (.Attribute o "insert" apos) [i, a] [] cpos) pos) (sIns xo xi xa) :=
  ps_mono (ps_expr (pe_bm PySem.F.plainAttrs_list PySem.F.slot_list_insert PySem.F.type_list_insert mt_insert ho (pa_cons hi (pa_cons ha pa_nil hs2) hs) hbase hfew hline hs hplain) hsw) fun T σ H hw => by
    obtain ⟨e, S, f, r, o, hx, q⟩ := hw
    obtain ⟨⟨d0, S0⟩, h0, hx⟩ := Option.bind_eq_some_iff.mp hx
    obtain ⟨l0, hl0, hx⟩ := Option.bind_eq_some_iff.mp hx
    obtain ⟨⟨d1, S1⟩, h1, hx⟩ := Option.bind_eq_some_iff.mp hx
    obtain ⟨⟨d2, S2⟩, h2, hx⟩ := Option.bind_eq_some_iff.mp hx
    by_cases c : noBo [d2] = true
    · rw [if_pos c] at hx
      obtain ⟨⟨e3, S3⟩, h3, hx⟩ := Option.bind_eq_some_iff.mp hx
      cases hx
      unfold insK at h3
      split at h3
      · rename_i k hk
        cases (show d1 = _ from hk)
        by_cases ck : 0 ≤ k ∧ k < 2 ^ 63
        · rw [if_pos ck] at h3
          refine ⟨e, S, f, r, d0, S0, h0, fun v0 H0 f0 r0 n0 p0 => ?_⟩
          refine ⟨?_, e, S0, f0, r0, _, S1, h1, fun v1 H1 f1 r1 n1 p1 => ⟨e, S1, f1, r1, d2, S2, h2, fun v2 H2 f2 r2 n2 p2 => ?_⟩⟩
          · obtain ⟨a, xs, e1, e2, _⟩ := lst_rd r0 p0 hl0
            subst e1
            exact .inl ⟨rfl, xs, .inl e2⟩
          · obtain ⟨a, vs, ds, ds', e1, hv, hp, hg, hz, kk⟩ := putL_ok r2 ((p0.nx n1).nx n2) h3
            cases hg
            have pd := re_rd p2 c
            cases (show Rep _ v1 (.int k) from p1)
            obtain ⟨r3, x3⟩ := kk (vs.take k.toNat ++ [v2] ++ vs.drop k.toNat) (Paired.app (Paired.app (Paired.takep _ hp) (.cons pd .nil)) (Paired.dropp _ hp))
            have lz : vs.length < sizeLine := by
              have : (insD k ds (d2, S2).1).length = vs.length + 1 := by
                unfold insD
                rw [List.length_append, List.length_append, List.length_take, List.length_drop, List.length_singleton, Paired.length hp]
                omega
              omega
            exact ⟨a, vs, k, v2, e1, rfl, hv, lz, ck.1, ck.2, q _ _ f2 r3 (((n0.trans n1).trans n2).ext.trans x3)⟩
        · rw [if_neg ck] at h3
          cases h3
      · cases h3
    · rw [if_neg c] at hx
      cases hx
theorem Paired.rev {α β : Type} {F : α → β → Prop} : ∀ {l : List α} {m : List β}, Paired F l m → Paired F l.reverse m.reverse
  | _, _, .nil => .nil
  | _, _, .cons h t => by
    rw [List.reverse_cons, List.reverse_cons]
    exact Paired.app (Paired.rev t) (.cons h .nil)
def sRev (a : Ex) : Sx := fun e S => (a e S).bind fun r => (lstD r.1 r.2).bind fun _ => (putL r.1 (fun ds => some ds.reverse) e r.2).bind fun z => some (.nx z.1 z.2)
theorem ds_rev {o : Expr} {xo : Ex} {apos cpos pos : Pos} (ho : DE X G o xo)
    (hbase : attributeBase o "reverse" X.env (eval o X.env) = eval o X.env := by rfl)
    (hline : (apos.endLine == cpos.line) = true := by rfl) (hsw : swapsWith (.Call (.Attribute o "reverse" apos) [] [] cpos) none pos.line X.env = pure false := by rfl) :
    DS X G (.Expr (.Call (.Attribute o "reverse" apos) [] [] cpos) pos) (sRev xo) :=
  ps_mono (ps_expr (pe_bm0 PySem.F.plainAttrs_list PySem.F.slot_list_reverse PySem.F.type_list_reverse mt_reverse ho hbase hline) hsw) fun T σ H hw => by
    obtain ⟨e, S, f, r, o, hx, q⟩ := hw
    obtain ⟨⟨d0, S0⟩, h0, hx⟩ := Option.bind_eq_some_iff.mp hx
    obtain ⟨l0, hl0, hx⟩ := Option.bind_eq_some_iff.mp hx
    obtain ⟨⟨e2, S2⟩, h2, hx⟩ := Option.bind_eq_some_iff.mp hx
    cases hx
    refine ⟨e, S, f, r, d0, S0, h0, fun v0 H0 f0 r0 n0 p0 => ?_⟩
    obtain ⟨a, vs, ds, ds', e1, hv, hp, hg, hz, k⟩ := putL_ok r0 p0 h2
    cases hg
    obtain ⟨r2, x2⟩ := k vs.reverse (Paired.rev hp)
    obtain ⟨a0, xs0, e0, rd0, _⟩ := lst_rd r0 p0 hl0
    rw [e1] at e0
    cases e0
    subst e1
    exact ⟨.inl ⟨rfl, xs0, .inl rd0⟩, a, vs, rfl, rfl, hv, q _ _ f0 r2 (n0.ext.trans x2)⟩
end
end DL
/-! LWX: rules of insert. -/
namespace DL
open PySem PySem.Spec PyProof.Rows L2
section
variable {e : Envi} {S : Sto}
theorem w_ins {a i x : Ex} {Q : Out → Prop} : W (sIns a i x e S) Q ↔ W (a e S) fun r => W (lstD r.1 r.2) fun _ => W (i e r.2) fun w => W (x e w.2) fun q => noBo [q.1] = true ∧ W (insK w.1 q r.1 e) fun z => Q (.nx z.1 z.2) := by
  refine w_bind.trans ⟨fun h => h.imp fun q h => (w_bind.mp h).imp fun p h => (w_bind.mp h).imp fun p h => (w_bind.mp h).imp fun p h => ?_, fun h => h.imp fun q h => w_bind.mpr (h.imp fun p h => w_bind.mpr (h.imp fun p h => w_bind.mpr (h.imp fun p h => ?_)))⟩
  · by_cases c : noBo [p.1] = true
    · rw [if_pos c] at h; exact ⟨c, (w_bind.mp h).imp fun _ h => w_some.mp h⟩
    · rw [if_neg c] at h; exact (w_none.mp h).elim
  · rw [if_pos h.1]; exact w_bind.mpr (h.2.imp fun _ h => w_some.mpr h)
theorem w_insB {i : Nat} {k : Int} {q : D × Sto} {ys : List P} {Q : Envi × Sto → Prop} : W (insK (.pu (.int k)) q (.bo i (.lst ys)) e) Q ↔ (0 ≤ k ∧ k < 2 ^ 63) ∧ W (plE i (fun ds => some (insD k ds q.1)) e q.2 e[i]?) Q := by
  show W (if 0 ≤ k ∧ k < 2 ^ 63 then putL (.bo i (.lst ys)) (fun ds => some (insD k ds q.1)) e q.2 else none) Q ↔ _
  rw [w_ite, w_none, w_putB]
  by_cases c : 0 ≤ k ∧ k < 2 ^ 63
  · rw [if_pos c]; exact ⟨fun h => ⟨c, h⟩, fun h => h.2⟩
  · rw [if_neg c]; exact ⟨fun h => h.elim, fun h => (c h.1).elim⟩
theorem w_plI {i : Nat} {k : Int} {p : P} {xs : List P} {Q : Envi × Sto → Prop} : W (plE i (fun ds => some (insD k ds (.pu p))) e S (some (some (.ow (.lst xs))))) Q ↔ xs.length + 1 ≤ lim ∧ Q (e.set i (some (.ow (.lst (xs.take k.toNat ++ [p] ++ xs.drop k.toNat)))), S) := by
  show W ((some (insD k (xs.map D.pu) (.pu p))).bind fun ds => (pusOf ds).bind fun ps => if ps.length ≤ lim then some (e.set i (some (.ow (.lst ps))), S) else none) Q ↔ _
  rw [Option.bind_some, show insD k (xs.map D.pu) (.pu p) = (xs.take k.toNat ++ [p] ++ xs.drop k.toNat).map D.pu by unfold insD; rw [List.map_append, List.map_append, List.map_take, List.map_drop]; rfl, pus_map, Option.bind_some]
  have l : (xs.take k.toNat ++ [p] ++ xs.drop k.toNat).length = xs.length + 1 := by
    rw [List.length_append, List.length_append, List.length_take, List.length_drop, List.length_singleton]
    omega
  rw [l, w_ite, w_some, w_none]
  by_cases c : xs.length + 1 ≤ lim
  · rw [if_pos c]; exact ⟨fun h => ⟨c, h⟩, fun h => h.2⟩
  · rw [if_neg c]; exact ⟨fun h => h.elim, fun h => (c h.1).elim⟩
theorem w_sRev {a : Ex} {Q : Out → Prop} : W (sRev a e S) Q ↔ W (a e S) fun r => W (lstD r.1 r.2) fun _ => W (putL r.1 (fun ds => some ds.reverse) e r.2) fun z => Q (.nx z.1 z.2) := by
  refine w_bind.trans ⟨fun h => h.imp fun q h => (w_bind.mp h).imp fun p h => (w_bind.mp h).imp fun p h => w_some.mp h, fun h => h.imp fun q h => w_bind.mpr (h.imp fun p h => w_bind.mpr (h.imp fun p h => w_some.mpr h))⟩
theorem w_plR {i : Nat} {xs : List P} {Q : Envi × Sto → Prop} : W (plE i (fun ds => some ds.reverse) e S (some (some (.ow (.lst xs))))) Q ↔ xs.length ≤ lim ∧ Q (e.set i (some (.ow (.lst xs.reverse))), S) := by
  show W ((some (xs.map D.pu).reverse).bind fun ds => (pusOf ds).bind fun ps => if ps.length ≤ lim then some (e.set i (some (.ow (.lst ps))), S) else none) Q ↔ _
  rw [Option.bind_some, ← List.map_reverse, pus_map, Option.bind_some, List.length_reverse]
  rw [w_ite, w_some, w_none]
  by_cases c : xs.length ≤ lim
  · rw [if_pos c]; exact ⟨fun h => ⟨c, h⟩, fun h => h.2⟩
  · rw [if_neg c]; exact ⟨fun h => h.elim, fun h => (c h.1).elim⟩
end
end DL
/-! LE: all rules in bundles. -/
namespace DL
open PySem PySem.Spec PyProof.Rows L2
theorem evA : ((((((((type_of% @DL.w_bind ∧ type_of% @DL.w_some) ∧ (type_of% @DL.w_none ∧ type_of% @DL.w_var)) ∧ ((type_of% @DL.w_slv ∧ type_of% @DL.w_slo) ∧ type_of% @DL.w_P)) ∧ (((type_of% @DL.w_D ∧ type_of% @DL.w_x1) ∧ (type_of% @DL.w_x2 ∧ type_of% @DL.w_xA)) ∧ ((type_of% @DL.w_nil ∧ type_of% @DL.w_cons) ∧ type_of% @DL.w_ite_x))) ∧ ((((type_of% @DL.w_isi ∧ type_of% @DL.w_tOfE) ∧ (type_of% @DL.w_bD ∧ type_of% @DL.w_tNot)) ∧ ((type_of% @DL.w_tAnd ∧ type_of% @DL.w_tOr) ∧ type_of% @DL.w_and)) ∧ (((type_of% @DL.w_or ∧ type_of% @DL.w_seq) ∧ type_of% @DL.w_qnx) ∧ ((type_of% @DL.w_qrt ∧ type_of% @DL.w_qbk) ∧ type_of% @DL.w_qct)))) ∧ (((((type_of% @DL.w_sNil ∧ type_of% @DL.w_sBreak) ∧ (type_of% @DL.w_sCont ∧ type_of% @DL.w_sDrop)) ∧ ((type_of% @DL.w_asg ∧ type_of% @DL.w_set) ∧ type_of% @DL.w_ret)) ∧ (((type_of% @DL.w_retN ∧ type_of% @DL.w_if) ∧ (type_of% @DL.w_for ∧ type_of% @DL.w_fq)) ∧ ((type_of% @DL.w_fqo ∧ type_of% @DL.w_fqv) ∧ type_of% @DL.w_nmP))) ∧ ((((type_of% @DL.w_nmW ∧ type_of% @DL.w_nmR) ∧ (type_of% @DL.w_gnNil ∧ type_of% @DL.w_gtNil)) ∧ ((type_of% @DL.w_gnCons ∧ type_of% @DL.w_gtCons) ∧ type_of% @DL.w_pwN)) ∧ (((type_of% @DL.w_pwP ∧ type_of% @DL.w_pwW) ∧ type_of% @DL.w_gtLst) ∧ ((type_of% @DL.w_gSubT ∧ type_of% @DL.w_s1) ∧ type_of% @DL.w_s2))))) ∧ ((((((type_of% @DL.w_pI ∧ type_of% @DL.w_pIB) ∧ (type_of% @DL.w_pNeg ∧ type_of% @DL.w_pAbs)) ∧ ((type_of% @DL.w_pDm ∧ type_of% @DL.w_a1) ∧ type_of% @DL.w_a2)) ∧ (((type_of% @DL.w_add ∧ type_of% @DL.w_not) ∧ (type_of% @DL.w_ixL ∧ type_of% @DL.w_ixT)) ∧ ((type_of% @DL.w_ixB ∧ type_of% @DL.w_ixWL) ∧ type_of% @DL.w_ixWT))) ∧ ((((type_of% @DL.w_getT ∧ type_of% @DL.w_getL) ∧ (type_of% @DL.w_getB ∧ type_of% @DL.w_getW)) ∧ ((type_of% @DL.w_keyS ∧ type_of% @DL.w_keyI) ∧ type_of% @DL.w_lkN)) ∧ (((type_of% @DL.w_lkC ∧ type_of% @DL.w_lenL) ∧ type_of% @DL.w_lenT) ∧ ((type_of% @DL.w_lenB ∧ type_of% @DL.w_puN) ∧ type_of% @DL.w_puC)))) ∧ (((((type_of% @DL.w_puM ∧ type_of% @DL.w_tup) ∧ (type_of% @DL.w_lst ∧ type_of% @DL.w_list)) ∧ ((type_of% @DL.w_listC ∧ type_of% @DL.w_lstC) ∧ type_of% @DL.w_seL)) ∧ (((type_of% @DL.w_seT ∧ type_of% @DL.w_seWL) ∧ type_of% @DL.w_seWT) ∧ ((type_of% @DL.w_seB ∧ type_of% @DL.w_eq) ∧ type_of% @DL.w_callF))) ∧ ((((type_of% @DL.w_callP ∧ type_of% @DL.w_runF) ∧ (type_of% @DL.w_eqn ∧ type_of% @DL.w_eqr)) ∧ ((type_of% @DL.w_runP ∧ type_of% @DL.w_epn) ∧ type_of% @DL.w_epr)) ∧ (((type_of% @DL.w_lqn ∧ type_of% @DL.w_lqc) ∧ type_of% @DL.w_lqb) ∧ ((type_of% @DL.w_lqr ∧ type_of% @DL.w_rg) ∧ type_of% @DL.w_rng1)))))) ∧ (((((((type_of% @DL.w_sl ∧ type_of% @DL.w_oN) ∧ (type_of% @DL.w_iQ ∧ type_of% @DL.w_oS)) ∧ ((type_of% @DL.w_gSlL ∧ type_of% @DL.w_gSlB) ∧ type_of% @DL.w_gSlW)) ∧ (((type_of% @DL.w_disp ∧ type_of% @DL.w_lc) ∧ (type_of% @DL.w_setLc ∧ type_of% @DL.w_puQ)) ∧ ((type_of% @DL.w_yes ∧ type_of% @DL.w_itN) ∧ type_of% @DL.w_imL))) ∧ ((((type_of% @DL.w_imT ∧ type_of% @DL.w_imWL) ∧ (type_of% @DL.w_imWT ∧ type_of% @DL.w_zqT)) ∧ ((type_of% @DL.w_zqL ∧ type_of% @DL.w_bls) ∧ type_of% @DL.w_tyN)) ∧ (((type_of% @DL.w_tyB ∧ type_of% @DL.w_tyI) ∧ type_of% @DL.w_tyS) ∧ ((type_of% @DL.w_tyL ∧ type_of% @DL.w_tyT) ∧ type_of% @DL.w_tyD)))) ∧ (((((type_of% @DL.w_isNN ∧ type_of% @DL.w_isNI) ∧ (type_of% @DL.w_isNB ∧ type_of% @DL.w_isNS)) ∧ ((type_of% @DL.w_isNT ∧ type_of% @DL.w_isNL) ∧ type_of% @DL.w_evB)) ∧ (((type_of% @DL.w_evI ∧ type_of% @DL.w_shI) ∧ (type_of% @DL.w_shB ∧ type_of% @DL.w_shN)) ∧ ((type_of% @DL.w_wrI ∧ type_of% @DL.w_wrT) ∧ type_of% @DL.w_wrL))) ∧ ((((type_of% @DL.w_at0 ∧ type_of% @DL.w_at1) ∧ (type_of% @DL.w_at2 ∧ type_of% @DL.w_nmN)) ∧ ((type_of% @DL.w_listN ∧ type_of% @DL.w_limR) ∧ type_of% @DL.w_lstN)) ∧ (((type_of% @DL.w_seN ∧ type_of% @DL.w_lsL) ∧ type_of% @DL.w_lsB) ∧ ((type_of% @DL.w_lsN ∧ type_of% @DL.w_catN) ∧ type_of% @DL.w_addL))))) ∧ ((((((type_of% @DL.w_addT ∧ type_of% @DL.w_slN) ∧ (type_of% @DL.w_gSlN ∧ type_of% @DL.w_lcN)) ∧ ((type_of% @DL.w_rsN1 ∧ type_of% @DL.w_rsN2) ∧ type_of% @DL.w_rsZ1)) ∧ (((type_of% @DL.w_rsZ2 ∧ type_of% @DL.w_callO) ∧ (type_of% @DL.w_callZ ∧ type_of% @DL.w_eO1)) ∧ ((type_of% @DL.w_eO2 ∧ type_of% @DL.w_eO3) ∧ type_of% @DL.w_eO4))) ∧ ((((type_of% @DL.w_runO ∧ type_of% @DL.w_app) ∧ (type_of% @DL.w_putB ∧ type_of% @DL.w_plA)) ∧ ((type_of% @DL.w_aug ∧ type_of% @DL.w_pq) ∧ type_of% @DL.w_par)) ∧ (((type_of% @DL.w_chain ∧ type_of% @DL.w_ints) ∧ type_of% @DL.w_inN) ∧ ((type_of% @DL.w_inC ∧ type_of% @DL.w_inM) ∧ type_of% @DL.w_pIntI)))) ∧ (((((type_of% @DL.w_pIntB ∧ type_of% @DL.w_tupL) ∧ (type_of% @DL.w_tupT ∧ type_of% @DL.w_tupB)) ∧ ((type_of% @DL.w_rg2 ∧ type_of% @DL.w_rng2) ∧ type_of% @DL.w_evT)) ∧ (((type_of% @DL.w_evL ∧ type_of% @DL.w_evA0) ∧ type_of% @DL.w_evA1) ∧ ((type_of% @DL.w_tix ∧ type_of% @DL.w_a3) ∧ type_of% @DL.w_pMax3))) ∧ ((((type_of% @DL.w_pMin3 ∧ type_of% @DL.w_rev) ∧ (type_of% @DL.w_revN ∧ type_of% @DL.w_revB)) ∧ ((type_of% @DL.w_ext ∧ type_of% @DL.w_rawN) ∧ type_of% @DL.w_rawB)) ∧ (((type_of% @DL.w_plE ∧ type_of% @DL.w_intsB) ∧ type_of% @DL.w_at3) ∧ ((type_of% @DL.w_pBB ∧ type_of% @DL.w_putBS) ∧ type_of% @DL.w_chain3))))))) := ⟨⟨⟨⟨⟨⟨⟨⟨@DL.w_bind, @DL.w_some⟩, ⟨@DL.w_none, @DL.w_var⟩⟩, ⟨⟨@DL.w_slv, @DL.w_slo⟩, @DL.w_P⟩⟩, ⟨⟨⟨@DL.w_D, @DL.w_x1⟩, ⟨@DL.w_x2, @DL.w_xA⟩⟩, ⟨⟨@DL.w_nil, @DL.w_cons⟩, @DL.w_ite_x⟩⟩⟩, ⟨⟨⟨⟨@DL.w_isi, @DL.w_tOfE⟩, ⟨@DL.w_bD, @DL.w_tNot⟩⟩, ⟨⟨@DL.w_tAnd, @DL.w_tOr⟩, @DL.w_and⟩⟩, ⟨⟨⟨@DL.w_or, @DL.w_seq⟩, @DL.w_qnx⟩, ⟨⟨@DL.w_qrt, @DL.w_qbk⟩, @DL.w_qct⟩⟩⟩⟩, ⟨⟨⟨⟨⟨@DL.w_sNil, @DL.w_sBreak⟩, ⟨@DL.w_sCont, @DL.w_sDrop⟩⟩, ⟨⟨@DL.w_asg, @DL.w_set⟩, @DL.w_ret⟩⟩, ⟨⟨⟨@DL.w_retN, @DL.w_if⟩, ⟨@DL.w_for, @DL.w_fq⟩⟩, ⟨⟨@DL.w_fqo, @DL.w_fqv⟩, @DL.w_nmP⟩⟩⟩, ⟨⟨⟨⟨@DL.w_nmW, @DL.w_nmR⟩, ⟨@DL.w_gnNil, @DL.w_gtNil⟩⟩, ⟨⟨@DL.w_gnCons, @DL.w_gtCons⟩, @DL.w_pwN⟩⟩, ⟨⟨⟨@DL.w_pwP, @DL.w_pwW⟩, @DL.w_gtLst⟩, ⟨⟨@DL.w_gSubT, @DL.w_s1⟩, @DL.w_s2⟩⟩⟩⟩⟩, ⟨⟨⟨⟨⟨⟨@DL.w_pI, @DL.w_pIB⟩, ⟨@DL.w_pNeg, @DL.w_pAbs⟩⟩, ⟨⟨@DL.w_pDm, @DL.w_a1⟩, @DL.w_a2⟩⟩, ⟨⟨⟨@DL.w_add, @DL.w_not⟩, ⟨@DL.w_ixL, @DL.w_ixT⟩⟩, ⟨⟨@DL.w_ixB, @DL.w_ixWL⟩, @DL.w_ixWT⟩⟩⟩, ⟨⟨⟨⟨@DL.w_getT, @DL.w_getL⟩, ⟨@DL.w_getB, @DL.w_getW⟩⟩, ⟨⟨@DL.w_keyS, @DL.w_keyI⟩, @DL.w_lkN⟩⟩, ⟨⟨⟨@DL.w_lkC, @DL.w_lenL⟩, @DL.w_lenT⟩, ⟨⟨@DL.w_lenB, @DL.w_puN⟩, @DL.w_puC⟩⟩⟩⟩, ⟨⟨⟨⟨⟨@DL.w_puM, @DL.w_tup⟩, ⟨@DL.w_lst, @DL.w_list⟩⟩, ⟨⟨@DL.w_listC, @DL.w_lstC⟩, @DL.w_seL⟩⟩, ⟨⟨⟨@DL.w_seT, @DL.w_seWL⟩, @DL.w_seWT⟩, ⟨⟨@DL.w_seB, @DL.w_eq⟩, @DL.w_callF⟩⟩⟩, ⟨⟨⟨⟨@DL.w_callP, @DL.w_runF⟩, ⟨@DL.w_eqn, @DL.w_eqr⟩⟩, ⟨⟨@DL.w_runP, @DL.w_epn⟩, @DL.w_epr⟩⟩, ⟨⟨⟨@DL.w_lqn, @DL.w_lqc⟩, @DL.w_lqb⟩, ⟨⟨@DL.w_lqr, @DL.w_rg⟩, @DL.w_rng1⟩⟩⟩⟩⟩⟩, ⟨⟨⟨⟨⟨⟨⟨@DL.w_sl, @DL.w_oN⟩, ⟨@DL.w_iQ, @DL.w_oS⟩⟩, ⟨⟨@DL.w_gSlL, @DL.w_gSlB⟩, @DL.w_gSlW⟩⟩, ⟨⟨⟨@DL.w_disp, @DL.w_lc⟩, ⟨@DL.w_setLc, @DL.w_puQ⟩⟩, ⟨⟨@DL.w_yes, @DL.w_itN⟩, @DL.w_imL⟩⟩⟩, ⟨⟨⟨⟨@DL.w_imT, @DL.w_imWL⟩, ⟨@DL.w_imWT, @DL.w_zqT⟩⟩, ⟨⟨@DL.w_zqL, @DL.w_bls⟩, @DL.w_tyN⟩⟩, ⟨⟨⟨@DL.w_tyB, @DL.w_tyI⟩, @DL.w_tyS⟩, ⟨⟨@DL.w_tyL, @DL.w_tyT⟩, @DL.w_tyD⟩⟩⟩⟩, ⟨⟨⟨⟨⟨@DL.w_isNN, @DL.w_isNI⟩, ⟨@DL.w_isNB, @DL.w_isNS⟩⟩, ⟨⟨@DL.w_isNT, @DL.w_isNL⟩, @DL.w_evB⟩⟩, ⟨⟨⟨@DL.w_evI, @DL.w_shI⟩, ⟨@DL.w_shB, @DL.w_shN⟩⟩, ⟨⟨@DL.w_wrI, @DL.w_wrT⟩, @DL.w_wrL⟩⟩⟩, ⟨⟨⟨⟨@DL.w_at0, @DL.w_at1⟩, ⟨@DL.w_at2, @DL.w_nmN⟩⟩, ⟨⟨@DL.w_listN, @DL.w_limR⟩, @DL.w_lstN⟩⟩, ⟨⟨⟨@DL.w_seN, @DL.w_lsL⟩, @DL.w_lsB⟩, ⟨⟨@DL.w_lsN, @DL.w_catN⟩, @DL.w_addL⟩⟩⟩⟩⟩, ⟨⟨⟨⟨⟨⟨@DL.w_addT, @DL.w_slN⟩, ⟨@DL.w_gSlN, @DL.w_lcN⟩⟩, ⟨⟨@DL.w_rsN1, @DL.w_rsN2⟩, @DL.w_rsZ1⟩⟩, ⟨⟨⟨@DL.w_rsZ2, @DL.w_callO⟩, ⟨@DL.w_callZ, @DL.w_eO1⟩⟩, ⟨⟨@DL.w_eO2, @DL.w_eO3⟩, @DL.w_eO4⟩⟩⟩, ⟨⟨⟨⟨@DL.w_runO, @DL.w_app⟩, ⟨@DL.w_putB, @DL.w_plA⟩⟩, ⟨⟨@DL.w_aug, @DL.w_pq⟩, @DL.w_par⟩⟩, ⟨⟨⟨@DL.w_chain, @DL.w_ints⟩, @DL.w_inN⟩, ⟨⟨@DL.w_inC, @DL.w_inM⟩, @DL.w_pIntI⟩⟩⟩⟩, ⟨⟨⟨⟨⟨@DL.w_pIntB, @DL.w_tupL⟩, ⟨@DL.w_tupT, @DL.w_tupB⟩⟩, ⟨⟨@DL.w_rg2, @DL.w_rng2⟩, @DL.w_evT⟩⟩, ⟨⟨⟨@DL.w_evL, @DL.w_evA0⟩, @DL.w_evA1⟩, ⟨⟨@DL.w_tix, @DL.w_a3⟩, @DL.w_pMax3⟩⟩⟩, ⟨⟨⟨⟨@DL.w_pMin3, @DL.w_rev⟩, ⟨@DL.w_revN, @DL.w_revB⟩⟩, ⟨⟨@DL.w_ext, @DL.w_rawN⟩, @DL.w_rawB⟩⟩, ⟨⟨⟨@DL.w_plE, @DL.w_intsB⟩, @DL.w_at3⟩, ⟨⟨@DL.w_pBB, @DL.w_putBS⟩, @DL.w_chain3⟩⟩⟩⟩⟩⟩⟩
theorem evH : ((((type_of% @DL.w_inT ∧ type_of% @DL.w_inL) ∧ type_of% @DL.w_adT) ∧ (type_of% @DL.w_adI ∧ type_of% @DL.w_repL)) ∧ (((type_of% @DL.w_repN ∧ type_of% @DL.w_repT) ∧ type_of% @DL.w_gSlT) ∧ (type_of% @DL.w_iaT ∧ type_of% @DL.w_iaL))) := ⟨⟨⟨⟨@DL.w_inT, @DL.w_inL⟩, @DL.w_adT⟩, ⟨@DL.w_adI, @DL.w_repL⟩⟩, ⟨⟨⟨@DL.w_repN, @DL.w_repT⟩, @DL.w_gSlT⟩, ⟨@DL.w_iaT, @DL.w_iaL⟩⟩⟩
theorem evJ : (((type_of% @DL.w_rgd ∧ type_of% @DL.w_en) ∧ type_of% @DL.w_rv) ∧ (type_of% @DL.w_kdS ∧ type_of% @DL.w_kd)) := ⟨⟨⟨@DL.w_rgd, @DL.w_en⟩, @DL.w_rv⟩, ⟨@DL.w_kdS, @DL.w_kd⟩⟩
theorem evM : ((type_of% @DL.w_xSlA ∧ type_of% @DL.w_slAT) ∧ type_of% @DL.w_slAL) := ⟨⟨@DL.w_xSlA, @DL.w_slAT⟩, @DL.w_slAL⟩
theorem evQ : (((type_of% @DL.w_zyT ∧ type_of% @DL.w_zyL) ∧ (type_of% @DL.w_zyM ∧ type_of% @DL.w_zyN)) ∧ ((type_of% @DL.w_eyT ∧ type_of% @DL.w_eyL) ∧ type_of% @DL.w_lrI)) := ⟨⟨⟨@DL.w_zyT, @DL.w_zyL⟩, ⟨@DL.w_zyM, @DL.w_zyN⟩⟩, ⟨⟨@DL.w_eyT, @DL.w_eyL⟩, @DL.w_lrI⟩⟩
theorem evU : (((((type_of% @DL.w_lnD ∧ type_of% @DL.w_lnB) ∧ (type_of% @DL.w_lnL ∧ type_of% @DL.w_lnT)) ∧ ((type_of% @DL.w_lnO ∧ type_of% @DL.w_liD) ∧ type_of% @DL.w_liB)) ∧ (((type_of% @DL.w_liL ∧ type_of% @DL.w_liT) ∧ type_of% @DL.w_liO) ∧ ((type_of% @DL.w_lnND ∧ type_of% @DL.w_lnNB) ∧ type_of% @DL.w_lnNL))) ∧ ((((type_of% @DL.w_lnNT ∧ type_of% @DL.w_lnNO) ∧ (type_of% @DL.w_soD ∧ type_of% @DL.w_soB)) ∧ ((type_of% @DL.w_soL ∧ type_of% @DL.w_ownD) ∧ type_of% @DL.w_any)) ∧ (((type_of% @DL.w_anyD ∧ type_of% @DL.w_anyL) ∧ type_of% @DL.w_anyT) ∧ ((type_of% @DL.w_inxL ∧ type_of% @DL.w_inxT) ∧ type_of% @DL.w_dict)))) := ⟨⟨⟨⟨⟨@DL.w_lnD, @DL.w_lnB⟩, ⟨@DL.w_lnL, @DL.w_lnT⟩⟩, ⟨⟨@DL.w_lnO, @DL.w_liD⟩, @DL.w_liB⟩⟩, ⟨⟨⟨@DL.w_liL, @DL.w_liT⟩, @DL.w_liO⟩, ⟨⟨@DL.w_lnND, @DL.w_lnNB⟩, @DL.w_lnNL⟩⟩⟩, ⟨⟨⟨⟨@DL.w_lnNT, @DL.w_lnNO⟩, ⟨@DL.w_soD, @DL.w_soB⟩⟩, ⟨⟨@DL.w_soL, @DL.w_ownD⟩, @DL.w_any⟩⟩, ⟨⟨⟨@DL.w_anyD, @DL.w_anyL⟩, @DL.w_anyT⟩, ⟨⟨@DL.w_inxL, @DL.w_inxT⟩, @DL.w_dict⟩⟩⟩⟩
theorem evX : (((type_of% @DL.w_ins ∧ type_of% @DL.w_insB) ∧ type_of% @DL.w_plI) ∧ (type_of% @DL.w_sRev ∧ type_of% @DL.w_plR)) := ⟨⟨⟨@DL.w_ins, @DL.w_insB⟩, @DL.w_plI⟩, ⟨@DL.w_sRev, @DL.w_plR⟩⟩
end DL
namespace DL
open PySem PySem.Spec PyProof.Rows L2
noncomputable def b__law_begin : Sx := sSeq (sSet 1 (xA gListC (aCons (xSl (xVar 0) (oNone) (oSome (xP (.int 63)))) (aNil)))) (sSeq (sIf (tOfE (x2 (gEq false) (xVar 1) (xA gLst (aNil)))) (sSeq (sSet 1 (xA gLstC (aCons (xP (.int 7)) (aNil)))) (sNil)) (sNil)) (sSeq (sRet (xDisp [.inr ("cells" : Str), .inr ("turn" : Str)] (aCons (xVar 1) (aCons (xP (.int 0)) (aNil))))) (sNil)))
noncomputable def m__law_begin : List D → Sto → Option (D × Sto) := runF 1 2 b__law_begin
theorem l__law_begin {ds : List D} {S : Sto} {p : D × Sto} (h : m__law_begin ds S = some p) : ds.length = 1 := runF_len h
noncomputable def b__law_take : Sx := sSeq (sSet 2 (x2 gAdd (x2 gGet (xVar 0) (xP (.str ("turn" : Str)))) (xP (.int 1)))) (sSeq (sAsg (xVar 2) (gSubT (xVar 0) (xP (.str ("turn" : Str))))) (sSeq (sSet 3 (x2 (s2 pMod) (xVar 2) (xA gLen (aCons (x2 gGet (xVar 0) (xP (.str ("cells" : Str)))) (aNil))))) (sSeq (sSet 4 (x2 gGet (x2 gGet (xVar 0) (xP (.str ("cells" : Str)))) (xVar 3))) (sSeq (sIf (tOfE (x2 (s2 (pIB fun i j => decide (j ≤ i))) (xVar 4) (x2 (s2 pPow) (xP (.int 10)) (xP (.int 18))))) (sSeq (sAsg (xA (a2 pDivmod) (aCons (xVar 4) (aCons (xVar 1) (aNil)))) (gtLst 2 (gtCons (gSubT (x2 gGet (xVar 0) (xP (.str ("cells" : Str)))) (xVar 3)) (gtCons (gNm 6) (gtNil))))) (sSeq (sRet (xVar 6)) (sNil))) (sNil)) (sSeq (sSet 5 (x2 (s2 pMod) (x2 (s2 pMul) (x2 gAdd (x2 gAdd (x2 (s2 pMod) (xVar 4) (xP (.int 2147483629))) (x2 (s2 pMul) (x2 (s2 pMul) (xVar 2) (xVar 2)) (xP (.int 7919)))) (xP (.int 11))) (xP (.int 48271))) (xP (.int 2147483647)))) (sSeq (sSet 5 (x2 (s2 pMod) (x2 (s2 pMul) (xVar 5) (xVar 5)) (xP (.int 2147483587)))) (sSeq (sRet (x2 (s2 pMod) (x2 (s2 pDiv) (x2 (s2 pMod) (x2 (s2 pMul) (x2 gAdd (xVar 5) (x2 (s2 pMul) (xVar 2) (xP (.int 104729)))) (xP (.int 69621))) (xP (.int 2147483629))) (xP (.int 7))) (xVar 1))) (sNil))))))))
noncomputable def m__law_take : List D → Sto → Option (D × Sto) := runF 2 7 b__law_take
theorem l__law_take {ds : List D} {S : Sto} {p : D × Sto} (h : m__law_take ds S = some p) : ds.length = 2 := runF_len h
noncomputable def b__law_far : Sx := sSeq (sSet 1 (x2 gIx (xA gLst (aCons (xA (gCallF m__law_take) (aCons (xVar 0) (aCons (xP (.int 12)) (aNil)))) (aCons (xA (gCallF m__law_take) (aCons (xVar 0) (aCons (x2 (s2 pPow) (xP (.int 10)) (xP (.int 8))) (aNil)))) (aCons (xP (.int 99999999)) (aNil))))) (x2 (s2 pDiv) (xA (gCallF m__law_take) (aCons (xVar 0) (aCons (xP (.int 8)) (aNil)))) (xP (.int 3))))) (sSeq (sRet (x2 (s2 pMul) (xVar 1) (x2 gIx (xA gLst (aCons (xP (.int 1)) (aCons (x1 (s1 pNeg) (xP (.int 1))) (aNil)))) (xA (gCallF m__law_take) (aCons (xVar 0) (aCons (xP (.int 2)) (aNil))))))) (sNil))
noncomputable def m__law_far : List D → Sto → Option (D × Sto) := runF 1 2 b__law_far
theorem l__law_far {ds : List D} {S : Sto} {p : D × Sto} (h : m__law_far ds S = some p) : ds.length = 1 := runF_len h
noncomputable def b__law_same (r : List P → Option P) : Sx := sSeq (sIf (tOfE (x2 (gIsN false) (xVar 1) (xP .none))) (sSeq (sRet (x2 (gIsN false) (xVar 0) (xP .none))) (sNil)) (sNil)) (sSeq (sIf (tOfE (xIsi (xVar 1) [.dict])) (sNever) (sNil)) (sSeq (sIf (tOrX (tOfE (xIsi (xVar 1) [.list])) (tOfE (xIsi (xVar 1) [.tuple]))) (sSeq (sIf (tOfE (x2 (gEq true) (xIsi (xVar 0) [.list]) (xIsi (xVar 1) [.list]))) (sSeq (sRet (xP (.bool false))) (sNil)) (sNil)) (sSeq (sIf (tOrX (tOfE (x2 (gEq true) (xIsi (xVar 0) [.tuple]) (xIsi (xVar 1) [.tuple]))) (tOfE (x2 (gEq true) (xA gLen (aCons (xVar 0) (aNil))) (xA gLen (aCons (xVar 1) (aNil)))))) (sSeq (sRet (xP (.bool false))) (sNil)) (sNil)) (sSeq (sRet (xA (gBls fun bs => bs.all id) (aCons (xLc (iZipX (aCons (xVar 0) (aCons (xVar 1) (aNil)))) (gtLst 2 (gnCons (gNm 3) (gnCons (gNm 4) (gnNil)))) (tYesX) (xA (gCallP r) (aCons (xVar 3) (aCons (xVar 4) (aNil)))) [3, 4]) (aNil)))) (sNil)))) (sNil)) (sSeq (sIf (tOfE (xIsi (xVar 1) [.str])) (sSeq (sRet (xAndX (xIsi (xVar 0) [.str]) (x2 (gEq false) (xVar 0) (xVar 1)))) (sNil)) (sNil)) (sSeq (sRet (xAndX (xIsi (xVar 0) [.int]) (xAndX (x1 gNot (xIsi (xVar 0) [.bool])) (x2 (gEq false) (xVar 0) (xVar 1))))) (sNil)))))
noncomputable def m__law_same : Nat → List P → Option P
  | 0 => fun _ => none
  | j + 1 => runP 2 5 (b__law_same (m__law_same j))
theorem l__law_same : ∀ {j : Nat} {ps : List P} {p : P}, m__law_same j ps = some p → ps.length = 2
  | 0, _, _, h => (by cases h)
  | _ + 1, _, _, h => runP_len h
end DL
/-! LT: the draws, the answers held against one another. -/
namespace DL
open PySem PySem.Spec PyProof.Rows L2
/-- the state of the draws -/
structure StA (S : Sto) (n c : Nat) (cells : List Int) (t : Int) : Prop where
  st : S[n]? = some (.dct [(.str ("cells" : Str), .rf c), (.str ("turn" : Str), .pu (.int t))])
  ce : S[c]? = some (.lst (cells.map fun i => .pu (.int i)))
  ne : cells ≠ []
  ln : cells.length ≤ 63
  t0 : 0 ≤ t
  fl : flatS S = true
theorem flat_set {S : Sto} {n : Nat} {c : MC} (h : flatS S = true) (hc : flatM c = true) : flatS (S.set n c) = true :=
  List.all_eq_true.mpr fun x hx => (List.mem_or_eq_of_mem_set hx).elim (List.all_eq_true.mp h x) (fun e => by rw [e]; exact hc)
theorem flat_ints (is : List Int) : flatM (.lst (is.map fun i => .pu (.int i))) = true := by
  show (is.map fun i => D.pu (.int i)).all flatD = true
  rw [List.all_map]
  exact List.all_eq_true.mpr fun _ _ => rfl
theorem StA.nc {S : Sto} {n c : Nat} {cells : List Int} {t : Int} (h : StA S n c cells t) : n ≠ c := fun e => by
  have h1 := h.st
  rw [e, h.ce] at h1
  cases h1
theorem eqv_ct : PyData.eqv (.str ("cells" : Str)) (.str ("turn" : Str)) = false := by decide +kernel
theorem eqv_tt : PyData.eqv (.str ("turn" : Str)) (.str ("turn" : Str)) = true := by decide +kernel
theorem eqv_cc : PyData.eqv (.str ("cells" : Str)) (.str ("cells" : Str)) = true := by decide +kernel
theorem eqv_tc : PyData.eqv (.str ("turn" : Str)) (.str ("cells" : Str)) = false := by decide +kernel
theorem w_dT {α : Type} {a b : α} {Q : α → Prop} : W (dlook [(.str ("cells" : Str), a), (.str ("turn" : Str), b)] (.str ("turn" : Str))) Q ↔ Q b := by
  simp only [w_lkC, eqv_ct, eqv_tt, if_true, Bool.false_eq_true, if_false]
theorem w_dC {α : Type} {a b : α} {Q : α → Prop} : W (dlook [(.str ("cells" : Str), a), (.str ("turn" : Str), b)] (.str ("cells" : Str))) Q ↔ Q a := by
  simp only [w_lkC, eqv_cc, if_true]
theorem put_turn {S : Sto} {n c : Nat} {t : Int} {d : D} {e : Envi} {Q : Envi × Sto → Prop} (h : S[n]? = some (.dct [(.str ("cells" : Str), .rf c), (.str ("turn" : Str), .pu (.int t))])) :
    W (putS (.rf n) (.pu (.str ("turn" : Str))) d e S) Q ↔ Q (e, S.set n (.dct [(.str ("cells" : Str), .rf c), (.str ("turn" : Str), d)])) := by
  have h1 : putS (.rf n) (.pu (.str ("turn" : Str))) d e S = putD (.rf n) (.str ("turn" : Str)) d e S := by
    have hl : lstD (.rf n) S = none := by
      show (seqD (.rf n) S).bind _ = none
      unfold seqD
      dsimp only
      rw [h]
      rfl
    unfold putS
    rw [hl]
  rw [h1]
  have h2 : putD (.rf n) (.str ("turn" : Str)) d e S = some (e, S.set n (.dct [(.str ("cells" : Str), .rf c), (.str ("turn" : Str), d)])) := by
    unfold putD
    dsimp only
    rw [h]
    simp only [keyD, flatK, Option.bind_some]
    rw [if_pos (by rfl)]
    unfold dput
    simp only [List.any_cons, List.any_nil, List.map_cons, List.map_nil, eqv_ct, eqv_tt, Bool.or_false, Bool.false_or, if_true, Bool.false_eq_true, if_false]
  rw [h2]
  exact w_some
theorem StA.put {S : Sto} {n c : Nat} {cells : List Int} {t : Int} (h : StA S n c cells t) {t' : Int} (ht : 0 ≤ t') : StA (S.set n (.dct [(.str ("cells" : Str), .rf c), (.str ("turn" : Str), .pu (.int t'))])) n c cells t' := by
  have hn : n < S.length := (List.getElem?_eq_some_iff.mp h.st).1
  exact ⟨by rw [List.getElem?_set_self hn], by rw [List.getElem?_set_ne h.nc]; exact h.ce, h.ne, h.ln, ht, flat_set h.fl rfl⟩
theorem StA.cut {S : Sto} {n c : Nat} {cells : List Int} {t : Int} (h : StA S n c cells t) (j : Nat) (x : Int) : StA (S.set c (.lst ((cells.set j x).map fun i => .pu (.int i)))) n c (cells.set j x) t := by
  have hn : c < S.length := (List.getElem?_eq_some_iff.mp h.ce).1
  exact ⟨by rw [List.getElem?_set_ne h.nc.symm]; exact h.st, by rw [List.getElem?_set_self hn], fun z => h.ne (by have := congrArg List.length z; rw [List.length_set] at this; exact List.length_eq_zero_iff.mp this), by rw [List.length_set]; exact h.ln, h.t0, flat_set h.fl (flat_ints _)⟩
theorem w_at {α : Type} {xs : List α} {k : Int} {Q : α → Prop} (j : Nat) (hk : k = j) {x : α} (hx : xs[j]? = some x) (q : Q x) : W (atI xs k) Q := by
  subst hk
  have hj := (List.getElem?_eq_some_iff.mp hx).1
  unfold atI ixN
  rw [if_pos (by omega), if_pos (by omega)]
  show W (xs[((j : Int)).toNat]?) Q
  rw [Int.toNat_natCast, hx]
  exact ⟨_, rfl, q⟩
theorem small_of {i : Int} (h1 : 0 ≤ i) (h2 : i < 18446744073709551616) : small i = true := by
  unfold small
  rw [Bool.and_eq_true, decide_eq_true_eq, decide_eq_true_eq]
  omega
theorem sm1 : small 7919 = true := by decide
theorem sm2 : small 48271 = true := by decide
theorem sm3 : small 104729 = true := by decide
theorem sm4 : small 69621 = true := by decide
theorem sm5 : small 10 = true := by decide
theorem put_cell {S : Sto} {n c : Nat} {cells : List Int} {t : Int} (h : StA S n c cells t) {j : Nat} (hj : j < cells.length) {x : Int} {e : Envi} {Q : Envi × Sto → Prop} :
    W (putS (.rf c) (.pu (.int (j : Int))) (.pu (.int x)) e S) Q ↔ Q (e, S.set c (.lst ((cells.set j x).map fun i => .pu (.int i)))) := by
  have hl : lstD (.rf c) S = some (cells.map fun i => .pu (.int i)) := by
    show (seqD (.rf c) S).bind _ = _
    unfold seqD
    dsimp only
    rw [h.ce]
    rfl
  have h2 : putS (.rf c) (.pu (.int (j : Int))) (.pu (.int x)) e S = some (e, S.set c (.lst ((cells.set j x).map fun i => .pu (.int i)))) := by
    unfold putS
    rw [hl]
    show putL _ _ _ _ = _
    unfold putL
    dsimp only
    rw [h.ce]
    dsimp only
    rw [show ixN (cells.map fun i => D.pu (.int i)).length (j : Int) = some j from by unfold ixN; rw [if_pos (by omega), if_pos (by rw [List.length_map]; omega), Int.toNat_natCast]]
    show (if (List.set (cells.map fun i => D.pu (.int i)) j (D.pu (.int x))).length ≤ lim then _ else none) = _
    rw [if_pos (by rw [List.length_set, List.length_map]; have := h.ln; unfold lim; omega), List.map_set]
  rw [h2]
  exact w_some
theorem take_ok {S : Sto} {n c : Nat} {cells : List Int} {t m : Int} (h : StA S n c cells t) (hm : 0 < m) (hm2 : m < 1073741824) (ht : t < 1000000) :
    W (m__law_take [.rf n, .pu (.int m)] S) fun r => ∃ v cells' S', r = (.pu (.int v), S') ∧ 0 ≤ v ∧ v < m ∧ StA S' n c cells' (t + 1) ∧ S'.length = S.length ∧ ∀ k, k ≠ n → k ≠ c → S'[k]? = S[k]? := by
  unfold m__law_take
  rw [w_runF]
  refine ⟨⟨rfl, by decide⟩, ?_⟩
  rw [show env0 7 [.rf n, .pu (.int m)] = [some (.val (.rf n)), some (.val (.pu (.int m))), none, none, none, none, none] from rfl]
  unfold b__law_take
  simp only [DL.w_bind, DL.w_some, DL.w_none, DL.w_var, DL.w_slv, DL.w_slo, DL.w_P, DL.w_D, DL.w_x1, DL.w_x2, DL.w_xA, DL.w_nil, DL.w_cons, DL.w_ite_x, DL.w_isi, DL.w_tOfE, DL.w_bD, DL.w_tNot, DL.w_tAnd, DL.w_tOr, DL.w_and, DL.w_or, DL.w_seq, DL.w_qnx, DL.w_qrt, DL.w_qbk, DL.w_qct, DL.w_sNil, DL.w_sBreak, DL.w_sCont, DL.w_sDrop, DL.w_asg, DL.w_set, DL.w_ret, DL.w_retN, DL.w_if, DL.w_for, DL.w_fq, DL.w_fqo, DL.w_fqv, DL.w_nmP, DL.w_nmW, DL.w_nmR, DL.w_gnNil, DL.w_gtNil, DL.w_gnCons, DL.w_gtCons, DL.w_pwN, DL.w_pwP, DL.w_pwW, DL.w_gtLst, DL.w_gSubT, DL.w_s1, DL.w_s2, DL.w_pI, DL.w_pIB, DL.w_pNeg, DL.w_pAbs, DL.w_pDm, DL.w_a1, DL.w_a2, DL.w_add, DL.w_not, DL.w_ixL, DL.w_ixT, DL.w_ixB, DL.w_ixWL, DL.w_ixWT, DL.w_getT, DL.w_getL, DL.w_getB, DL.w_getW, DL.w_keyS, DL.w_keyI, DL.w_lkN, DL.w_lkC, DL.w_lenL, DL.w_lenT, DL.w_lenB, DL.w_puN, DL.w_puC, DL.w_puM, DL.w_tup, DL.w_lst, DL.w_list, DL.w_listC, DL.w_lstC, DL.w_seL, DL.w_seT, DL.w_seWL, DL.w_seWT, DL.w_seB, DL.w_eq, DL.w_callF, DL.w_callP, DL.w_runF, DL.w_eqn, DL.w_eqr, DL.w_runP, DL.w_epn, DL.w_epr, DL.w_lqn, DL.w_lqc, DL.w_lqb, DL.w_lqr, DL.w_rg, DL.w_rng1, DL.w_sl, DL.w_oN, DL.w_iQ, DL.w_oS, DL.w_gSlL, DL.w_gSlB, DL.w_gSlW, DL.w_disp, DL.w_lc, DL.w_setLc, DL.w_puQ, DL.w_yes, DL.w_itN, DL.w_imL, DL.w_imT, DL.w_imWL, DL.w_imWT, DL.w_zqT, DL.w_zqL, DL.w_bls, DL.w_tyN, DL.w_tyB, DL.w_tyI, DL.w_tyS, DL.w_tyL, DL.w_tyT, DL.w_tyD, DL.w_isNN, DL.w_isNI, DL.w_isNB, DL.w_isNS, DL.w_isNT, DL.w_isNL, DL.w_evB, DL.w_evI, DL.w_shI, DL.w_shB, DL.w_shN, DL.w_wrI, DL.w_wrT, DL.w_wrL, DL.w_at0, DL.w_at1, DL.w_at2, DL.w_nmN, DL.w_listN, DL.w_limR, DL.w_lstN, DL.w_seN, DL.w_lsL, DL.w_lsB, DL.w_lsN, DL.w_catN, DL.w_addL, DL.w_addT, DL.w_slN, DL.w_gSlN, DL.w_lcN, DL.w_rsN1, DL.w_rsN2, DL.w_rsZ1, DL.w_rsZ2, DL.w_callO, DL.w_callZ, DL.w_eO1, DL.w_eO2, DL.w_eO3, DL.w_eO4, DL.w_runO, DL.w_app, DL.w_putB, DL.w_plA, DL.w_aug, DL.w_pq, DL.w_par, DL.w_chain, DL.w_ints, DL.w_inN, DL.w_inC, DL.w_inM, DL.w_pIntI, DL.w_pIntB, DL.w_tupL, DL.w_tupT, DL.w_tupB, DL.w_rg2, DL.w_rng2, DL.w_evT, DL.w_evL, DL.w_evA0, DL.w_evA1, DL.w_tix, DL.w_a3, DL.w_pMax3, DL.w_pMin3, DL.w_rev, DL.w_revN, DL.w_revB, DL.w_ext, DL.w_rawN, DL.w_rawB, DL.w_plE, DL.w_intsB, DL.w_at3, DL.w_pBB, DL.w_putBS, DL.w_chain3, List.getElem?_cons_zero, List.getElem?_cons_succ, List.set_cons_zero, List.set_cons_succ, ↓reduceIte, Bool.false_eq_true, w_getD h.st, w_dT, put_turn h.st]
  have h1 := h.put (t' := t + 1) (by have := h.t0; omega)
  have len : (S.set n (.dct [(.str ("cells" : Str), .rf c), (.str ("turn" : Str), .pu (.int (t + 1)))])).length = S.length := List.length_set
  have oth : ∀ k, k ≠ n → k ≠ c → (S.set n (.dct [(.str ("cells" : Str), .rf c), (.str ("turn" : Str), .pu (.int (t + 1)))]))[k]? = S[k]? := fun k h1 _ => List.getElem?_set_ne (Ne.symm h1)
  refine ⟨rfl, ?_⟩
  generalize (S.set n (.dct [(.str ("cells" : Str), .rf c), (.str ("turn" : Str), .pu (.int (t + 1)))])) = S1 at h1 len oth ⊢
  simp only [DL.w_bind, DL.w_some, DL.w_none, DL.w_var, DL.w_slv, DL.w_slo, DL.w_P, DL.w_D, DL.w_x1, DL.w_x2, DL.w_xA, DL.w_nil, DL.w_cons, DL.w_ite_x, DL.w_isi, DL.w_tOfE, DL.w_bD, DL.w_tNot, DL.w_tAnd, DL.w_tOr, DL.w_and, DL.w_or, DL.w_seq, DL.w_qnx, DL.w_qrt, DL.w_qbk, DL.w_qct, DL.w_sNil, DL.w_sBreak, DL.w_sCont, DL.w_sDrop, DL.w_asg, DL.w_set, DL.w_ret, DL.w_retN, DL.w_if, DL.w_for, DL.w_fq, DL.w_fqo, DL.w_fqv, DL.w_nmP, DL.w_nmW, DL.w_nmR, DL.w_gnNil, DL.w_gtNil, DL.w_gnCons, DL.w_gtCons, DL.w_pwN, DL.w_pwP, DL.w_pwW, DL.w_gtLst, DL.w_gSubT, DL.w_s1, DL.w_s2, DL.w_pI, DL.w_pIB, DL.w_pNeg, DL.w_pAbs, DL.w_pDm, DL.w_a1, DL.w_a2, DL.w_add, DL.w_not, DL.w_ixL, DL.w_ixT, DL.w_ixB, DL.w_ixWL, DL.w_ixWT, DL.w_getT, DL.w_getL, DL.w_getB, DL.w_getW, DL.w_keyS, DL.w_keyI, DL.w_lkN, DL.w_lkC, DL.w_lenL, DL.w_lenT, DL.w_lenB, DL.w_puN, DL.w_puC, DL.w_puM, DL.w_tup, DL.w_lst, DL.w_list, DL.w_listC, DL.w_lstC, DL.w_seL, DL.w_seT, DL.w_seWL, DL.w_seWT, DL.w_seB, DL.w_eq, DL.w_callF, DL.w_callP, DL.w_runF, DL.w_eqn, DL.w_eqr, DL.w_runP, DL.w_epn, DL.w_epr, DL.w_lqn, DL.w_lqc, DL.w_lqb, DL.w_lqr, DL.w_rg, DL.w_rng1, DL.w_sl, DL.w_oN, DL.w_iQ, DL.w_oS, DL.w_gSlL, DL.w_gSlB, DL.w_gSlW, DL.w_disp, DL.w_lc, DL.w_setLc, DL.w_puQ, DL.w_yes, DL.w_itN, DL.w_imL, DL.w_imT, DL.w_imWL, DL.w_imWT, DL.w_zqT, DL.w_zqL, DL.w_bls, DL.w_tyN, DL.w_tyB, DL.w_tyI, DL.w_tyS, DL.w_tyL, DL.w_tyT, DL.w_tyD, DL.w_isNN, DL.w_isNI, DL.w_isNB, DL.w_isNS, DL.w_isNT, DL.w_isNL, DL.w_evB, DL.w_evI, DL.w_shI, DL.w_shB, DL.w_shN, DL.w_wrI, DL.w_wrT, DL.w_wrL, DL.w_at0, DL.w_at1, DL.w_at2, DL.w_nmN, DL.w_listN, DL.w_limR, DL.w_lstN, DL.w_seN, DL.w_lsL, DL.w_lsB, DL.w_lsN, DL.w_catN, DL.w_addL, DL.w_addT, DL.w_slN, DL.w_gSlN, DL.w_lcN, DL.w_rsN1, DL.w_rsN2, DL.w_rsZ1, DL.w_rsZ2, DL.w_callO, DL.w_callZ, DL.w_eO1, DL.w_eO2, DL.w_eO3, DL.w_eO4, DL.w_runO, DL.w_app, DL.w_putB, DL.w_plA, DL.w_aug, DL.w_pq, DL.w_par, DL.w_chain, DL.w_ints, DL.w_inN, DL.w_inC, DL.w_inM, DL.w_pIntI, DL.w_pIntB, DL.w_tupL, DL.w_tupT, DL.w_tupB, DL.w_rg2, DL.w_rng2, DL.w_evT, DL.w_evL, DL.w_evA0, DL.w_evA1, DL.w_tix, DL.w_a3, DL.w_pMax3, DL.w_pMin3, DL.w_rev, DL.w_revN, DL.w_revB, DL.w_ext, DL.w_rawN, DL.w_rawB, DL.w_plE, DL.w_intsB, DL.w_at3, DL.w_pBB, DL.w_putBS, DL.w_chain3, List.getElem?_cons_zero, List.getElem?_cons_succ, List.set_cons_zero, List.set_cons_succ, ↓reduceIte, Bool.false_eq_true, w_getD h1.st, w_dC, w_lenR h1.ce, List.length_map]
  have hl : 0 < cells.length := List.length_pos_iff.mpr h.ne
  refine ⟨by rw [decide_eq_true_eq]; omega, ?_⟩
  simp only [DL.w_bind, DL.w_some, DL.w_none, DL.w_var, DL.w_slv, DL.w_slo, DL.w_P, DL.w_D, DL.w_x1, DL.w_x2, DL.w_xA, DL.w_nil, DL.w_cons, DL.w_ite_x, DL.w_isi, DL.w_tOfE, DL.w_bD, DL.w_tNot, DL.w_tAnd, DL.w_tOr, DL.w_and, DL.w_or, DL.w_seq, DL.w_qnx, DL.w_qrt, DL.w_qbk, DL.w_qct, DL.w_sNil, DL.w_sBreak, DL.w_sCont, DL.w_sDrop, DL.w_asg, DL.w_set, DL.w_ret, DL.w_retN, DL.w_if, DL.w_for, DL.w_fq, DL.w_fqo, DL.w_fqv, DL.w_nmP, DL.w_nmW, DL.w_nmR, DL.w_gnNil, DL.w_gtNil, DL.w_gnCons, DL.w_gtCons, DL.w_pwN, DL.w_pwP, DL.w_pwW, DL.w_gtLst, DL.w_gSubT, DL.w_s1, DL.w_s2, DL.w_pI, DL.w_pIB, DL.w_pNeg, DL.w_pAbs, DL.w_pDm, DL.w_a1, DL.w_a2, DL.w_add, DL.w_not, DL.w_ixL, DL.w_ixT, DL.w_ixB, DL.w_ixWL, DL.w_ixWT, DL.w_getT, DL.w_getL, DL.w_getB, DL.w_getW, DL.w_keyS, DL.w_keyI, DL.w_lkN, DL.w_lkC, DL.w_lenL, DL.w_lenT, DL.w_lenB, DL.w_puN, DL.w_puC, DL.w_puM, DL.w_tup, DL.w_lst, DL.w_list, DL.w_listC, DL.w_lstC, DL.w_seL, DL.w_seT, DL.w_seWL, DL.w_seWT, DL.w_seB, DL.w_eq, DL.w_callF, DL.w_callP, DL.w_runF, DL.w_eqn, DL.w_eqr, DL.w_runP, DL.w_epn, DL.w_epr, DL.w_lqn, DL.w_lqc, DL.w_lqb, DL.w_lqr, DL.w_rg, DL.w_rng1, DL.w_sl, DL.w_oN, DL.w_iQ, DL.w_oS, DL.w_gSlL, DL.w_gSlB, DL.w_gSlW, DL.w_disp, DL.w_lc, DL.w_setLc, DL.w_puQ, DL.w_yes, DL.w_itN, DL.w_imL, DL.w_imT, DL.w_imWL, DL.w_imWT, DL.w_zqT, DL.w_zqL, DL.w_bls, DL.w_tyN, DL.w_tyB, DL.w_tyI, DL.w_tyS, DL.w_tyL, DL.w_tyT, DL.w_tyD, DL.w_isNN, DL.w_isNI, DL.w_isNB, DL.w_isNS, DL.w_isNT, DL.w_isNL, DL.w_evB, DL.w_evI, DL.w_shI, DL.w_shB, DL.w_shN, DL.w_wrI, DL.w_wrT, DL.w_wrL, DL.w_at0, DL.w_at1, DL.w_at2, DL.w_nmN, DL.w_listN, DL.w_limR, DL.w_lstN, DL.w_seN, DL.w_lsL, DL.w_lsB, DL.w_lsN, DL.w_catN, DL.w_addL, DL.w_addT, DL.w_slN, DL.w_gSlN, DL.w_lcN, DL.w_rsN1, DL.w_rsN2, DL.w_rsZ1, DL.w_rsZ2, DL.w_callO, DL.w_callZ, DL.w_eO1, DL.w_eO2, DL.w_eO3, DL.w_eO4, DL.w_runO, DL.w_app, DL.w_putB, DL.w_plA, DL.w_aug, DL.w_pq, DL.w_par, DL.w_chain, DL.w_ints, DL.w_inN, DL.w_inC, DL.w_inM, DL.w_pIntI, DL.w_pIntB, DL.w_tupL, DL.w_tupT, DL.w_tupB, DL.w_rg2, DL.w_rng2, DL.w_evT, DL.w_evL, DL.w_evA0, DL.w_evA1, DL.w_tix, DL.w_a3, DL.w_pMax3, DL.w_pMin3, DL.w_rev, DL.w_revN, DL.w_revB, DL.w_ext, DL.w_rawN, DL.w_rawB, DL.w_plE, DL.w_intsB, DL.w_at3, DL.w_pBB, DL.w_putBS, DL.w_chain3, List.getElem?_cons_zero, List.getElem?_cons_succ, List.set_cons_zero, List.set_cons_succ, ↓reduceIte, Bool.false_eq_true, w_getD h1.st, w_dC, w_getR h1.ce]
  have hj : ((t + 1) % (cells.length : Int)).toNat < cells.length := by
    have := Int.emod_lt_of_pos (t + 1) (show (0 : Int) < cells.length by omega)
    have := Int.emod_nonneg (t + 1) (show (cells.length : Int) ≠ 0 by omega)
    omega
  have hk : (t + 1) % (cells.length : Int) = (((t + 1) % (cells.length : Int)).toNat : Nat) := by
    have := Int.emod_nonneg (t + 1) (show (cells.length : Int) ≠ 0 by omega)
    omega
  generalize ((t + 1) % (cells.length : Int)).toNat = j at hj hk
  refine w_at j hk (x := .pu (.int cells[j])) (by rw [List.getElem?_map, List.getElem?_eq_getElem hj]; rfl) ?_
  rw [hk]
  generalize cells[j] = x
  have t0 := h.t0
  have st1 : small (t + 1) = true := small_of (by omega) (by omega)
  simp only [DL.w_bind, DL.w_some, DL.w_none, DL.w_var, DL.w_slv, DL.w_slo, DL.w_P, DL.w_D, DL.w_x1, DL.w_x2, DL.w_xA, DL.w_nil, DL.w_cons, DL.w_ite_x, DL.w_isi, DL.w_tOfE, DL.w_bD, DL.w_tNot, DL.w_tAnd, DL.w_tOr, DL.w_and, DL.w_or, DL.w_seq, DL.w_qnx, DL.w_qrt, DL.w_qbk, DL.w_qct, DL.w_sNil, DL.w_sBreak, DL.w_sCont, DL.w_sDrop, DL.w_asg, DL.w_set, DL.w_ret, DL.w_retN, DL.w_if, DL.w_for, DL.w_fq, DL.w_fqo, DL.w_fqv, DL.w_nmP, DL.w_nmW, DL.w_nmR, DL.w_gnNil, DL.w_gtNil, DL.w_gnCons, DL.w_gtCons, DL.w_pwN, DL.w_pwP, DL.w_pwW, DL.w_gtLst, DL.w_gSubT, DL.w_s1, DL.w_s2, DL.w_pI, DL.w_pIB, DL.w_pNeg, DL.w_pAbs, DL.w_pDm, DL.w_a1, DL.w_a2, DL.w_add, DL.w_not, DL.w_ixL, DL.w_ixT, DL.w_ixB, DL.w_ixWL, DL.w_ixWT, DL.w_getT, DL.w_getL, DL.w_getB, DL.w_getW, DL.w_keyS, DL.w_keyI, DL.w_lkN, DL.w_lkC, DL.w_lenL, DL.w_lenT, DL.w_lenB, DL.w_puN, DL.w_puC, DL.w_puM, DL.w_tup, DL.w_lst, DL.w_list, DL.w_listC, DL.w_lstC, DL.w_seL, DL.w_seT, DL.w_seWL, DL.w_seWT, DL.w_seB, DL.w_eq, DL.w_callF, DL.w_callP, DL.w_runF, DL.w_eqn, DL.w_eqr, DL.w_runP, DL.w_epn, DL.w_epr, DL.w_lqn, DL.w_lqc, DL.w_lqb, DL.w_lqr, DL.w_rg, DL.w_rng1, DL.w_sl, DL.w_oN, DL.w_iQ, DL.w_oS, DL.w_gSlL, DL.w_gSlB, DL.w_gSlW, DL.w_disp, DL.w_lc, DL.w_setLc, DL.w_puQ, DL.w_yes, DL.w_itN, DL.w_imL, DL.w_imT, DL.w_imWL, DL.w_imWT, DL.w_zqT, DL.w_zqL, DL.w_bls, DL.w_tyN, DL.w_tyB, DL.w_tyI, DL.w_tyS, DL.w_tyL, DL.w_tyT, DL.w_tyD, DL.w_isNN, DL.w_isNI, DL.w_isNB, DL.w_isNS, DL.w_isNT, DL.w_isNL, DL.w_evB, DL.w_evI, DL.w_shI, DL.w_shB, DL.w_shN, DL.w_wrI, DL.w_wrT, DL.w_wrL, DL.w_at0, DL.w_at1, DL.w_at2, DL.w_nmN, DL.w_listN, DL.w_limR, DL.w_lstN, DL.w_seN, DL.w_lsL, DL.w_lsB, DL.w_lsN, DL.w_catN, DL.w_addL, DL.w_addT, DL.w_slN, DL.w_gSlN, DL.w_lcN, DL.w_rsN1, DL.w_rsN2, DL.w_rsZ1, DL.w_rsZ2, DL.w_callO, DL.w_callZ, DL.w_eO1, DL.w_eO2, DL.w_eO3, DL.w_eO4, DL.w_runO, DL.w_app, DL.w_putB, DL.w_plA, DL.w_aug, DL.w_pq, DL.w_par, DL.w_chain, DL.w_ints, DL.w_inN, DL.w_inC, DL.w_inM, DL.w_pIntI, DL.w_pIntB, DL.w_tupL, DL.w_tupT, DL.w_tupB, DL.w_rg2, DL.w_rng2, DL.w_evT, DL.w_evL, DL.w_evA0, DL.w_evA1, DL.w_tix, DL.w_a3, DL.w_pMax3, DL.w_pMin3, DL.w_rev, DL.w_revN, DL.w_revB, DL.w_ext, DL.w_rawN, DL.w_rawB, DL.w_plE, DL.w_intsB, DL.w_at3, DL.w_pBB, DL.w_putBS, DL.w_chain3, List.getElem?_cons_zero, List.getElem?_cons_succ, List.set_cons_zero, List.set_cons_succ, ↓reduceIte, Bool.false_eq_true, sm1, sm2, sm3, sm4, sm5, Bool.or_true, Bool.and_true]
  refine ⟨by decide, ?_⟩
  refine both (fun _ => ?_) (fun _ => ?_)
  · refine ⟨⟨hm, hm2⟩, ?_⟩
    simp only [DL.w_bind, DL.w_some, DL.w_none, DL.w_var, DL.w_slv, DL.w_slo, DL.w_P, DL.w_D, DL.w_x1, DL.w_x2, DL.w_xA, DL.w_nil, DL.w_cons, DL.w_ite_x, DL.w_isi, DL.w_tOfE, DL.w_bD, DL.w_tNot, DL.w_tAnd, DL.w_tOr, DL.w_and, DL.w_or, DL.w_seq, DL.w_qnx, DL.w_qrt, DL.w_qbk, DL.w_qct, DL.w_sNil, DL.w_sBreak, DL.w_sCont, DL.w_sDrop, DL.w_asg, DL.w_set, DL.w_ret, DL.w_retN, DL.w_if, DL.w_for, DL.w_fq, DL.w_fqo, DL.w_fqv, DL.w_nmP, DL.w_nmW, DL.w_nmR, DL.w_gnNil, DL.w_gtNil, DL.w_gnCons, DL.w_gtCons, DL.w_pwN, DL.w_pwP, DL.w_pwW, DL.w_gtLst, DL.w_gSubT, DL.w_s1, DL.w_s2, DL.w_pI, DL.w_pIB, DL.w_pNeg, DL.w_pAbs, DL.w_pDm, DL.w_a1, DL.w_a2, DL.w_add, DL.w_not, DL.w_ixL, DL.w_ixT, DL.w_ixB, DL.w_ixWL, DL.w_ixWT, DL.w_getT, DL.w_getL, DL.w_getB, DL.w_getW, DL.w_keyS, DL.w_keyI, DL.w_lkN, DL.w_lkC, DL.w_lenL, DL.w_lenT, DL.w_lenB, DL.w_puN, DL.w_puC, DL.w_puM, DL.w_tup, DL.w_lst, DL.w_list, DL.w_listC, DL.w_lstC, DL.w_seL, DL.w_seT, DL.w_seWL, DL.w_seWT, DL.w_seB, DL.w_eq, DL.w_callF, DL.w_callP, DL.w_runF, DL.w_eqn, DL.w_eqr, DL.w_runP, DL.w_epn, DL.w_epr, DL.w_lqn, DL.w_lqc, DL.w_lqb, DL.w_lqr, DL.w_rg, DL.w_rng1, DL.w_sl, DL.w_oN, DL.w_iQ, DL.w_oS, DL.w_gSlL, DL.w_gSlB, DL.w_gSlW, DL.w_disp, DL.w_lc, DL.w_setLc, DL.w_puQ, DL.w_yes, DL.w_itN, DL.w_imL, DL.w_imT, DL.w_imWL, DL.w_imWT, DL.w_zqT, DL.w_zqL, DL.w_bls, DL.w_tyN, DL.w_tyB, DL.w_tyI, DL.w_tyS, DL.w_tyL, DL.w_tyT, DL.w_tyD, DL.w_isNN, DL.w_isNI, DL.w_isNB, DL.w_isNS, DL.w_isNT, DL.w_isNL, DL.w_evB, DL.w_evI, DL.w_shI, DL.w_shB, DL.w_shN, DL.w_wrI, DL.w_wrT, DL.w_wrL, DL.w_at0, DL.w_at1, DL.w_at2, DL.w_nmN, DL.w_listN, DL.w_limR, DL.w_lstN, DL.w_seN, DL.w_lsL, DL.w_lsB, DL.w_lsN, DL.w_catN, DL.w_addL, DL.w_addT, DL.w_slN, DL.w_gSlN, DL.w_lcN, DL.w_rsN1, DL.w_rsN2, DL.w_rsZ1, DL.w_rsZ2, DL.w_callO, DL.w_callZ, DL.w_eO1, DL.w_eO2, DL.w_eO3, DL.w_eO4, DL.w_runO, DL.w_app, DL.w_putB, DL.w_plA, DL.w_aug, DL.w_pq, DL.w_par, DL.w_chain, DL.w_ints, DL.w_inN, DL.w_inC, DL.w_inM, DL.w_pIntI, DL.w_pIntB, DL.w_tupL, DL.w_tupT, DL.w_tupB, DL.w_rg2, DL.w_rng2, DL.w_evT, DL.w_evL, DL.w_evA0, DL.w_evA1, DL.w_tix, DL.w_a3, DL.w_pMax3, DL.w_pMin3, DL.w_rev, DL.w_revN, DL.w_revB, DL.w_ext, DL.w_rawN, DL.w_rawB, DL.w_plE, DL.w_intsB, DL.w_at3, DL.w_pBB, DL.w_putBS, DL.w_chain3, List.getElem?_cons_zero, List.getElem?_cons_succ, List.set_cons_zero, List.set_cons_succ, ↓reduceIte, Bool.false_eq_true, List.map_cons, List.map_nil, List.length_cons, List.length_nil, w_getD h1.st, w_dC, put_cell h1 hj]
    refine ⟨by trivial, by trivial, by trivial, ?_⟩
    refine ⟨_, _, _, rfl, Int.emod_nonneg _ (by omega), Int.emod_lt_of_pos _ hm, h1.cut j _, by rw [List.length_set]; exact len, fun k k1 k2 => by rw [List.getElem?_set_ne (Ne.symm k2)]; exact oth k k1 k2⟩
  · have sx : ∀ y : Int, small (y % 2147483647) = true := fun y => small_of (Int.emod_nonneg _ (by decide)) (by have := Int.emod_lt_of_pos y (show (0 : Int) < 2147483647 by decide); omega)
    simp only [DL.w_bind, DL.w_some, DL.w_none, DL.w_var, DL.w_slv, DL.w_slo, DL.w_P, DL.w_D, DL.w_x1, DL.w_x2, DL.w_xA, DL.w_nil, DL.w_cons, DL.w_ite_x, DL.w_isi, DL.w_tOfE, DL.w_bD, DL.w_tNot, DL.w_tAnd, DL.w_tOr, DL.w_and, DL.w_or, DL.w_seq, DL.w_qnx, DL.w_qrt, DL.w_qbk, DL.w_qct, DL.w_sNil, DL.w_sBreak, DL.w_sCont, DL.w_sDrop, DL.w_asg, DL.w_set, DL.w_ret, DL.w_retN, DL.w_if, DL.w_for, DL.w_fq, DL.w_fqo, DL.w_fqv, DL.w_nmP, DL.w_nmW, DL.w_nmR, DL.w_gnNil, DL.w_gtNil, DL.w_gnCons, DL.w_gtCons, DL.w_pwN, DL.w_pwP, DL.w_pwW, DL.w_gtLst, DL.w_gSubT, DL.w_s1, DL.w_s2, DL.w_pI, DL.w_pIB, DL.w_pNeg, DL.w_pAbs, DL.w_pDm, DL.w_a1, DL.w_a2, DL.w_add, DL.w_not, DL.w_ixL, DL.w_ixT, DL.w_ixB, DL.w_ixWL, DL.w_ixWT, DL.w_getT, DL.w_getL, DL.w_getB, DL.w_getW, DL.w_keyS, DL.w_keyI, DL.w_lkN, DL.w_lkC, DL.w_lenL, DL.w_lenT, DL.w_lenB, DL.w_puN, DL.w_puC, DL.w_puM, DL.w_tup, DL.w_lst, DL.w_list, DL.w_listC, DL.w_lstC, DL.w_seL, DL.w_seT, DL.w_seWL, DL.w_seWT, DL.w_seB, DL.w_eq, DL.w_callF, DL.w_callP, DL.w_runF, DL.w_eqn, DL.w_eqr, DL.w_runP, DL.w_epn, DL.w_epr, DL.w_lqn, DL.w_lqc, DL.w_lqb, DL.w_lqr, DL.w_rg, DL.w_rng1, DL.w_sl, DL.w_oN, DL.w_iQ, DL.w_oS, DL.w_gSlL, DL.w_gSlB, DL.w_gSlW, DL.w_disp, DL.w_lc, DL.w_setLc, DL.w_puQ, DL.w_yes, DL.w_itN, DL.w_imL, DL.w_imT, DL.w_imWL, DL.w_imWT, DL.w_zqT, DL.w_zqL, DL.w_bls, DL.w_tyN, DL.w_tyB, DL.w_tyI, DL.w_tyS, DL.w_tyL, DL.w_tyT, DL.w_tyD, DL.w_isNN, DL.w_isNI, DL.w_isNB, DL.w_isNS, DL.w_isNT, DL.w_isNL, DL.w_evB, DL.w_evI, DL.w_shI, DL.w_shB, DL.w_shN, DL.w_wrI, DL.w_wrT, DL.w_wrL, DL.w_at0, DL.w_at1, DL.w_at2, DL.w_nmN, DL.w_listN, DL.w_limR, DL.w_lstN, DL.w_seN, DL.w_lsL, DL.w_lsB, DL.w_lsN, DL.w_catN, DL.w_addL, DL.w_addT, DL.w_slN, DL.w_gSlN, DL.w_lcN, DL.w_rsN1, DL.w_rsN2, DL.w_rsZ1, DL.w_rsZ2, DL.w_callO, DL.w_callZ, DL.w_eO1, DL.w_eO2, DL.w_eO3, DL.w_eO4, DL.w_runO, DL.w_app, DL.w_putB, DL.w_plA, DL.w_aug, DL.w_pq, DL.w_par, DL.w_chain, DL.w_ints, DL.w_inN, DL.w_inC, DL.w_inM, DL.w_pIntI, DL.w_pIntB, DL.w_tupL, DL.w_tupT, DL.w_tupB, DL.w_rg2, DL.w_rng2, DL.w_evT, DL.w_evL, DL.w_evA0, DL.w_evA1, DL.w_tix, DL.w_a3, DL.w_pMax3, DL.w_pMin3, DL.w_rev, DL.w_revN, DL.w_revB, DL.w_ext, DL.w_rawN, DL.w_rawB, DL.w_plE, DL.w_intsB, DL.w_at3, DL.w_pBB, DL.w_putBS, DL.w_chain3, List.getElem?_cons_zero, List.getElem?_cons_succ, List.set_cons_zero, List.set_cons_succ, ↓reduceIte, Bool.false_eq_true, st1, sx, sm1, sm2, sm3, sm4, Bool.or_true, Bool.true_or]
    refine ⟨by decide, trivial, trivial, trivial, by decide, trivial, by decide, trivial, trivial, by decide, by decide, by rw [decide_eq_true_eq]; exact hm, rfl, ?_⟩
    exact ⟨_, _, _, rfl, Int.emod_nonneg _ (by omega), Int.emod_lt_of_pos _ hm, h1, len, oth⟩
theorem cut63 {α : Type} {xs : List α} (h : xs.length ≤ 63) : cutL xs none (some 63) = xs := by
  unfold cutL
  rw [show HT.sIx xs.length 0 none = 0 from rfl, List.drop_zero, show HT.sIx xs.length xs.length (some 63) = xs.length by
    rw [show (some (63 : Int)) = some (((63 : Nat) : Int)) from rfl, HT.sIx_nat]; omega, Nat.sub_zero, List.take_length]
theorem dm_ct {α : Type} {a b : α} : dmerge [] [(keyP (.inr ("cells" : Str)), a), (keyP (.inr ("turn" : Str)), b)] = [(.str ("cells" : Str), a), (.str ("turn" : Str), b)] := by
  unfold dmerge
  simp only [List.foldl_cons, List.foldl_nil, dput, keyP, List.any_nil, List.any_cons, eqv_ct, Bool.or_false, Bool.false_eq_true, if_false, List.nil_append, List.cons_append]
theorem begin_go {ns : List Int} (h : ns.length ≤ 63) {d : D} (hd : ∀ Q : D × Sto → Prop, (∀ xs, xs = ns.map PyData.int → Q (.pu (.list (cutL xs none (some 63))), [])) → W (gSl d none (some 63) []) Q) :
    W (m__law_begin [d] []) fun r => ∃ n c cells S', r = (.rf n, S') ∧ StA S' n c cells 0 := by
  have hs : shp 9 (.list (ns.map PyData.int)) = true := by
    show (ns.map PyData.int).all (shp 8) = true
    rw [List.all_map]
    exact List.all_eq_true.mpr fun _ _ => rfl
  unfold m__law_begin
  rw [w_runF]
  refine ⟨⟨rfl, by decide⟩, ?_⟩
  rw [show env0 2 [d] = [some (.val d), none] from rfl]
  unfold b__law_begin
  simp only [DL.w_bind, DL.w_some, DL.w_none, DL.w_var, DL.w_slv, DL.w_slo, DL.w_P, DL.w_D, DL.w_x1, DL.w_x2, DL.w_xA, DL.w_nil, DL.w_cons, DL.w_ite_x, DL.w_isi, DL.w_tOfE, DL.w_bD, DL.w_tNot, DL.w_tAnd, DL.w_tOr, DL.w_and, DL.w_or, DL.w_seq, DL.w_qnx, DL.w_qrt, DL.w_qbk, DL.w_qct, DL.w_sNil, DL.w_sBreak, DL.w_sCont, DL.w_sDrop, DL.w_asg, DL.w_set, DL.w_ret, DL.w_retN, DL.w_if, DL.w_for, DL.w_fq, DL.w_fqo, DL.w_fqv, DL.w_nmP, DL.w_nmW, DL.w_nmR, DL.w_gnNil, DL.w_gtNil, DL.w_gnCons, DL.w_gtCons, DL.w_pwN, DL.w_pwP, DL.w_pwW, DL.w_gtLst, DL.w_gSubT, DL.w_s1, DL.w_s2, DL.w_pI, DL.w_pIB, DL.w_pNeg, DL.w_pAbs, DL.w_pDm, DL.w_a1, DL.w_a2, DL.w_add, DL.w_not, DL.w_ixL, DL.w_ixT, DL.w_ixB, DL.w_ixWL, DL.w_ixWT, DL.w_getT, DL.w_getL, DL.w_getB, DL.w_getW, DL.w_keyS, DL.w_keyI, DL.w_lkN, DL.w_lkC, DL.w_lenL, DL.w_lenT, DL.w_lenB, DL.w_puN, DL.w_puC, DL.w_puM, DL.w_tup, DL.w_lst, DL.w_list, DL.w_listC, DL.w_lstC, DL.w_seL, DL.w_seT, DL.w_seWL, DL.w_seWT, DL.w_seB, DL.w_eq, DL.w_callF, DL.w_callP, DL.w_runF, DL.w_eqn, DL.w_eqr, DL.w_runP, DL.w_epn, DL.w_epr, DL.w_lqn, DL.w_lqc, DL.w_lqb, DL.w_lqr, DL.w_rg, DL.w_rng1, DL.w_sl, DL.w_oN, DL.w_iQ, DL.w_oS, DL.w_gSlL, DL.w_gSlB, DL.w_gSlW, DL.w_disp, DL.w_lc, DL.w_setLc, DL.w_puQ, DL.w_yes, DL.w_itN, DL.w_imL, DL.w_imT, DL.w_imWL, DL.w_imWT, DL.w_zqT, DL.w_zqL, DL.w_bls, DL.w_tyN, DL.w_tyB, DL.w_tyI, DL.w_tyS, DL.w_tyL, DL.w_tyT, DL.w_tyD, DL.w_isNN, DL.w_isNI, DL.w_isNB, DL.w_isNS, DL.w_isNT, DL.w_isNL, DL.w_evB, DL.w_evI, DL.w_shI, DL.w_shB, DL.w_shN, DL.w_wrI, DL.w_wrT, DL.w_wrL, DL.w_at0, DL.w_at1, DL.w_at2, DL.w_nmN, DL.w_listN, DL.w_limR, DL.w_lstN, DL.w_seN, DL.w_lsL, DL.w_lsB, DL.w_lsN, DL.w_catN, DL.w_addL, DL.w_addT, DL.w_slN, DL.w_gSlN, DL.w_lcN, DL.w_rsN1, DL.w_rsN2, DL.w_rsZ1, DL.w_rsZ2, DL.w_callO, DL.w_callZ, DL.w_eO1, DL.w_eO2, DL.w_eO3, DL.w_eO4, DL.w_runO, DL.w_app, DL.w_putB, DL.w_plA, DL.w_aug, DL.w_pq, DL.w_par, DL.w_chain, DL.w_ints, DL.w_inN, DL.w_inC, DL.w_inM, DL.w_pIntI, DL.w_pIntB, DL.w_tupL, DL.w_tupT, DL.w_tupB, DL.w_rg2, DL.w_rng2, DL.w_evT, DL.w_evL, DL.w_evA0, DL.w_evA1, DL.w_tix, DL.w_a3, DL.w_pMax3, DL.w_pMin3, DL.w_rev, DL.w_revN, DL.w_revB, DL.w_ext, DL.w_rawN, DL.w_rawB, DL.w_plE, DL.w_intsB, DL.w_at3, DL.w_pBB, DL.w_putBS, DL.w_chain3, List.getElem?_cons_zero, List.getElem?_cons_succ, List.set_cons_zero, List.set_cons_succ, ↓reduceIte, Bool.false_eq_true]
  refine hd _ fun xs hx => ?_
  subst hx
  rw [cut63 (by rw [List.length_map]; exact h)]
  simp only [DL.w_bind, DL.w_some, DL.w_none, DL.w_var, DL.w_slv, DL.w_slo, DL.w_P, DL.w_D, DL.w_x1, DL.w_x2, DL.w_xA, DL.w_nil, DL.w_cons, DL.w_ite_x, DL.w_isi, DL.w_tOfE, DL.w_bD, DL.w_tNot, DL.w_tAnd, DL.w_tOr, DL.w_and, DL.w_or, DL.w_seq, DL.w_qnx, DL.w_qrt, DL.w_qbk, DL.w_qct, DL.w_sNil, DL.w_sBreak, DL.w_sCont, DL.w_sDrop, DL.w_asg, DL.w_set, DL.w_ret, DL.w_retN, DL.w_if, DL.w_for, DL.w_fq, DL.w_fqo, DL.w_fqv, DL.w_nmP, DL.w_nmW, DL.w_nmR, DL.w_gnNil, DL.w_gtNil, DL.w_gnCons, DL.w_gtCons, DL.w_pwN, DL.w_pwP, DL.w_pwW, DL.w_gtLst, DL.w_gSubT, DL.w_s1, DL.w_s2, DL.w_pI, DL.w_pIB, DL.w_pNeg, DL.w_pAbs, DL.w_pDm, DL.w_a1, DL.w_a2, DL.w_add, DL.w_not, DL.w_ixL, DL.w_ixT, DL.w_ixB, DL.w_ixWL, DL.w_ixWT, DL.w_getT, DL.w_getL, DL.w_getB, DL.w_getW, DL.w_keyS, DL.w_keyI, DL.w_lkN, DL.w_lkC, DL.w_lenL, DL.w_lenT, DL.w_lenB, DL.w_puN, DL.w_puC, DL.w_puM, DL.w_tup, DL.w_lst, DL.w_list, DL.w_listC, DL.w_lstC, DL.w_seL, DL.w_seT, DL.w_seWL, DL.w_seWT, DL.w_seB, DL.w_eq, DL.w_callF, DL.w_callP, DL.w_runF, DL.w_eqn, DL.w_eqr, DL.w_runP, DL.w_epn, DL.w_epr, DL.w_lqn, DL.w_lqc, DL.w_lqb, DL.w_lqr, DL.w_rg, DL.w_rng1, DL.w_sl, DL.w_oN, DL.w_iQ, DL.w_oS, DL.w_gSlL, DL.w_gSlB, DL.w_gSlW, DL.w_disp, DL.w_lc, DL.w_setLc, DL.w_puQ, DL.w_yes, DL.w_itN, DL.w_imL, DL.w_imT, DL.w_imWL, DL.w_imWT, DL.w_zqT, DL.w_zqL, DL.w_bls, DL.w_tyN, DL.w_tyB, DL.w_tyI, DL.w_tyS, DL.w_tyL, DL.w_tyT, DL.w_tyD, DL.w_isNN, DL.w_isNI, DL.w_isNB, DL.w_isNS, DL.w_isNT, DL.w_isNL, DL.w_evB, DL.w_evI, DL.w_shI, DL.w_shB, DL.w_shN, DL.w_wrI, DL.w_wrT, DL.w_wrL, DL.w_at0, DL.w_at1, DL.w_at2, DL.w_nmN, DL.w_listN, DL.w_limR, DL.w_lstN, DL.w_seN, DL.w_lsL, DL.w_lsB, DL.w_lsN, DL.w_catN, DL.w_addL, DL.w_addT, DL.w_slN, DL.w_gSlN, DL.w_lcN, DL.w_rsN1, DL.w_rsN2, DL.w_rsZ1, DL.w_rsZ2, DL.w_callO, DL.w_callZ, DL.w_eO1, DL.w_eO2, DL.w_eO3, DL.w_eO4, DL.w_runO, DL.w_app, DL.w_putB, DL.w_plA, DL.w_aug, DL.w_pq, DL.w_par, DL.w_chain, DL.w_ints, DL.w_inN, DL.w_inC, DL.w_inM, DL.w_pIntI, DL.w_pIntB, DL.w_tupL, DL.w_tupT, DL.w_tupB, DL.w_rg2, DL.w_rng2, DL.w_evT, DL.w_evL, DL.w_evA0, DL.w_evA1, DL.w_tix, DL.w_a3, DL.w_pMax3, DL.w_pMin3, DL.w_rev, DL.w_revN, DL.w_revB, DL.w_ext, DL.w_rawN, DL.w_rawB, DL.w_plE, DL.w_intsB, DL.w_at3, DL.w_pBB, DL.w_putBS, DL.w_chain3, List.getElem?_cons_zero, List.getElem?_cons_succ, List.set_cons_zero, List.set_cons_succ, ↓reduceIte, Bool.false_eq_true]
  have e0 : ([] ++ [MC.lst ((ns.map PyData.int).map D.pu)])[([] : Sto).length]? = some (.lst ((ns.map PyData.int).map D.pu)) := rfl
  rw [eqR e0]
  refine ⟨by decide, by rw [hs]; rfl, ?_⟩
  simp only [DL.w_bind, DL.w_some, DL.w_none, DL.w_var, DL.w_slv, DL.w_slo, DL.w_P, DL.w_D, DL.w_x1, DL.w_x2, DL.w_xA, DL.w_nil, DL.w_cons, DL.w_ite_x, DL.w_isi, DL.w_tOfE, DL.w_bD, DL.w_tNot, DL.w_tAnd, DL.w_tOr, DL.w_and, DL.w_or, DL.w_seq, DL.w_qnx, DL.w_qrt, DL.w_qbk, DL.w_qct, DL.w_sNil, DL.w_sBreak, DL.w_sCont, DL.w_sDrop, DL.w_asg, DL.w_set, DL.w_ret, DL.w_retN, DL.w_if, DL.w_for, DL.w_fq, DL.w_fqo, DL.w_fqv, DL.w_nmP, DL.w_nmW, DL.w_nmR, DL.w_gnNil, DL.w_gtNil, DL.w_gnCons, DL.w_gtCons, DL.w_pwN, DL.w_pwP, DL.w_pwW, DL.w_gtLst, DL.w_gSubT, DL.w_s1, DL.w_s2, DL.w_pI, DL.w_pIB, DL.w_pNeg, DL.w_pAbs, DL.w_pDm, DL.w_a1, DL.w_a2, DL.w_add, DL.w_not, DL.w_ixL, DL.w_ixT, DL.w_ixB, DL.w_ixWL, DL.w_ixWT, DL.w_getT, DL.w_getL, DL.w_getB, DL.w_getW, DL.w_keyS, DL.w_keyI, DL.w_lkN, DL.w_lkC, DL.w_lenL, DL.w_lenT, DL.w_lenB, DL.w_puN, DL.w_puC, DL.w_puM, DL.w_tup, DL.w_lst, DL.w_list, DL.w_listC, DL.w_lstC, DL.w_seL, DL.w_seT, DL.w_seWL, DL.w_seWT, DL.w_seB, DL.w_eq, DL.w_callF, DL.w_callP, DL.w_runF, DL.w_eqn, DL.w_eqr, DL.w_runP, DL.w_epn, DL.w_epr, DL.w_lqn, DL.w_lqc, DL.w_lqb, DL.w_lqr, DL.w_rg, DL.w_rng1, DL.w_sl, DL.w_oN, DL.w_iQ, DL.w_oS, DL.w_gSlL, DL.w_gSlB, DL.w_gSlW, DL.w_disp, DL.w_lc, DL.w_setLc, DL.w_puQ, DL.w_yes, DL.w_itN, DL.w_imL, DL.w_imT, DL.w_imWL, DL.w_imWT, DL.w_zqT, DL.w_zqL, DL.w_bls, DL.w_tyN, DL.w_tyB, DL.w_tyI, DL.w_tyS, DL.w_tyL, DL.w_tyT, DL.w_tyD, DL.w_isNN, DL.w_isNI, DL.w_isNB, DL.w_isNS, DL.w_isNT, DL.w_isNL, DL.w_evB, DL.w_evI, DL.w_shI, DL.w_shB, DL.w_shN, DL.w_wrI, DL.w_wrT, DL.w_wrL, DL.w_at0, DL.w_at1, DL.w_at2, DL.w_nmN, DL.w_listN, DL.w_limR, DL.w_lstN, DL.w_seN, DL.w_lsL, DL.w_lsB, DL.w_lsN, DL.w_catN, DL.w_addL, DL.w_addT, DL.w_slN, DL.w_gSlN, DL.w_lcN, DL.w_rsN1, DL.w_rsN2, DL.w_rsZ1, DL.w_rsZ2, DL.w_callO, DL.w_callZ, DL.w_eO1, DL.w_eO2, DL.w_eO3, DL.w_eO4, DL.w_runO, DL.w_app, DL.w_putB, DL.w_plA, DL.w_aug, DL.w_pq, DL.w_par, DL.w_chain, DL.w_ints, DL.w_inN, DL.w_inC, DL.w_inM, DL.w_pIntI, DL.w_pIntB, DL.w_tupL, DL.w_tupT, DL.w_tupB, DL.w_rg2, DL.w_rng2, DL.w_evT, DL.w_evL, DL.w_evA0, DL.w_evA1, DL.w_tix, DL.w_a3, DL.w_pMax3, DL.w_pMin3, DL.w_rev, DL.w_revN, DL.w_revB, DL.w_ext, DL.w_rawN, DL.w_rawB, DL.w_plE, DL.w_intsB, DL.w_at3, DL.w_pBB, DL.w_putBS, DL.w_chain3, List.getElem?_cons_zero, List.getElem?_cons_succ, List.set_cons_zero, List.set_cons_succ, ↓reduceIte, Bool.false_eq_true]
  cases ns with
  | nil =>
    simp [PyData.eqv, PyData.eqvAll]
    refine ⟨⟨rfl, by decide⟩, rfl, rfl, 2, 1, [7], _, ⟨rfl, rfl⟩, ?_, rfl, by decide, by decide, by decide, ?_⟩
    · rw [dm_ct]
      rfl
    · rw [dm_ct]
      rfl
  | cons x r =>
    simp [PyData.eqv, PyData.eqvAll]
    refine ⟨rfl, rfl, 1, 0, x :: r, _, ⟨rfl, rfl⟩, ?_, rfl, by simp, h, by decide, ?_⟩
    · rw [dm_ct]
      rfl
    · rw [dm_ct]
      show (flatM (.lst (D.pu (.int x) :: r.map (D.pu ∘ PyData.int))) && (flatM _ && true)) = true
      rw [show flatM (.lst (D.pu (.int x) :: r.map (D.pu ∘ PyData.int))) = true from flat_ints (x :: r)]
      rfl
theorem begin_pu {ns : List Int} (h : ns.length ≤ 63) : W (m__law_begin [.pu (.list (ns.map .int))] []) fun r => ∃ n c cells S', r = (.rf n, S') ∧ StA S' n c cells 0 :=
  begin_go h fun Q q => w_gSlL.mpr (q _ rfl)
theorem begin_wr {ns : List Int} (h : ns.length ≤ 63) : W (m__law_begin [.wr (.list (ns.map .int))] []) fun r => ∃ n c cells S', r = (.rf n, S') ∧ StA S' n c cells 0 :=
  begin_go h fun Q q => w_gSlW.mpr (q _ rfl)
/-- a state of the draws, its numbers left out -/
def St (S : Sto) (n : Nat) (T : Int) : Prop := ∃ c cells t, StA S n c cells t ∧ t ≤ T
theorem St.fl {S : Sto} {n : Nat} {T : Int} (h : St S n T) : flatS S = true := let ⟨_, _, _, h, _⟩ := h; h.fl
theorem take_st {S : Sto} {n : Nat} {T m : Int} (h : St S n T) (hm : 0 < m) (hm2 : m < 1073741824) (hT : T < 1000000) {Q : D × Sto → Prop} (q : ∀ v S', 0 ≤ v → v < m → St S' n (T + 1) → Q (.pu (.int v), S')) : W (m__law_take [.rf n, .pu (.int m)] S) Q := by
  obtain ⟨c, cells, t, h, ht⟩ := h
  refine (take_ok h hm hm2 (by omega)).imp fun r hr => ?_
  obtain ⟨v, cells', S', rfl, h1, h2, h3, _⟩ := hr
  exact q v S' h1 h2 ⟨c, cells', _, h3, by omega⟩
theorem at3 {α : Type} {a b c : α} {k : Int} {Q : α → Prop} (h0 : 0 ≤ k) (h1 : k < 3) (qa : Q a) (qb : Q b) (qc : Q c) : W (atI [a, b, c] k) Q := by
  rcases (show k = 0 ∨ k = 1 ∨ k = 2 by omega) with rfl | rfl | rfl
  · exact ⟨_, rfl, qa⟩
  · exact ⟨_, rfl, qb⟩
  · exact ⟨_, rfl, qc⟩
theorem at2 {α : Type} {a b : α} {k : Int} {Q : α → Prop} (h0 : 0 ≤ k) (h1 : k < 2) (qa : Q a) (qb : Q b) : W (atI [a, b] k) Q := by
  rcases (show k = 0 ∨ k = 1 by omega) with rfl | rfl
  · exact ⟨_, rfl, qa⟩
  · exact ⟨_, rfl, qb⟩
theorem at4 {α : Type} {a b c d : α} {k : Int} {Q : α → Prop} (h0 : 0 ≤ k) (h1 : k < 4) (qa : Q a) (qb : Q b) (qc : Q c) (qd : Q d) : W (atI [a, b, c, d] k) Q := by
  rcases (show k = 0 ∨ k = 1 ∨ k = 2 ∨ k = 3 by omega) with rfl | rfl | rfl | rfl
  · exact ⟨_, rfl, qa⟩
  · exact ⟨_, rfl, qb⟩
  · exact ⟨_, rfl, qc⟩
  · exact ⟨_, rfl, qd⟩
theorem far_ok {S : Sto} {n : Nat} {T : Int} (h : St S n T) (hT : T < 900000) {Q : D × Sto → Prop} (q : ∀ v S', -1000000000 < v → v < 1000000000 → St S' n (T + 4) → Q (.pu (.int v), S')) : W (m__law_far [.rf n] S) Q := by
  unfold m__law_far
  rw [w_runF]
  refine ⟨⟨rfl, by decide⟩, ?_⟩
  rw [show env0 2 [.rf n] = [some (.val (.rf n)), none] from rfl]
  unfold b__law_far
  simp only [DL.w_bind, DL.w_some, DL.w_none, DL.w_var, DL.w_slv, DL.w_slo, DL.w_P, DL.w_D, DL.w_x1, DL.w_x2, DL.w_xA, DL.w_nil, DL.w_cons, DL.w_ite_x, DL.w_isi, DL.w_tOfE, DL.w_bD, DL.w_tNot, DL.w_tAnd, DL.w_tOr, DL.w_and, DL.w_or, DL.w_seq, DL.w_qnx, DL.w_qrt, DL.w_qbk, DL.w_qct, DL.w_sNil, DL.w_sBreak, DL.w_sCont, DL.w_sDrop, DL.w_asg, DL.w_set, DL.w_ret, DL.w_retN, DL.w_if, DL.w_for, DL.w_fq, DL.w_fqo, DL.w_fqv, DL.w_nmP, DL.w_nmW, DL.w_nmR, DL.w_gnNil, DL.w_gtNil, DL.w_gnCons, DL.w_gtCons, DL.w_pwN, DL.w_pwP, DL.w_pwW, DL.w_gtLst, DL.w_gSubT, DL.w_s1, DL.w_s2, DL.w_pI, DL.w_pIB, DL.w_pNeg, DL.w_pAbs, DL.w_pDm, DL.w_a1, DL.w_a2, DL.w_add, DL.w_not, DL.w_ixL, DL.w_ixT, DL.w_ixB, DL.w_ixWL, DL.w_ixWT, DL.w_getT, DL.w_getL, DL.w_getB, DL.w_getW, DL.w_keyS, DL.w_keyI, DL.w_lkN, DL.w_lkC, DL.w_lenL, DL.w_lenT, DL.w_lenB, DL.w_puN, DL.w_puC, DL.w_puM, DL.w_tup, DL.w_lst, DL.w_list, DL.w_listC, DL.w_lstC, DL.w_seL, DL.w_seT, DL.w_seWL, DL.w_seWT, DL.w_seB, DL.w_eq, DL.w_callF, DL.w_callP, DL.w_runF, DL.w_eqn, DL.w_eqr, DL.w_runP, DL.w_epn, DL.w_epr, DL.w_lqn, DL.w_lqc, DL.w_lqb, DL.w_lqr, DL.w_rg, DL.w_rng1, DL.w_sl, DL.w_oN, DL.w_iQ, DL.w_oS, DL.w_gSlL, DL.w_gSlB, DL.w_gSlW, DL.w_disp, DL.w_lc, DL.w_setLc, DL.w_puQ, DL.w_yes, DL.w_itN, DL.w_imL, DL.w_imT, DL.w_imWL, DL.w_imWT, DL.w_zqT, DL.w_zqL, DL.w_bls, DL.w_tyN, DL.w_tyB, DL.w_tyI, DL.w_tyS, DL.w_tyL, DL.w_tyT, DL.w_tyD, DL.w_isNN, DL.w_isNI, DL.w_isNB, DL.w_isNS, DL.w_isNT, DL.w_isNL, DL.w_evB, DL.w_evI, DL.w_shI, DL.w_shB, DL.w_shN, DL.w_wrI, DL.w_wrT, DL.w_wrL, DL.w_at0, DL.w_at1, DL.w_at2, DL.w_nmN, DL.w_listN, DL.w_limR, DL.w_lstN, DL.w_seN, DL.w_lsL, DL.w_lsB, DL.w_lsN, DL.w_catN, DL.w_addL, DL.w_addT, DL.w_slN, DL.w_gSlN, DL.w_lcN, DL.w_rsN1, DL.w_rsN2, DL.w_rsZ1, DL.w_rsZ2, DL.w_callO, DL.w_callZ, DL.w_eO1, DL.w_eO2, DL.w_eO3, DL.w_eO4, DL.w_runO, DL.w_app, DL.w_putB, DL.w_plA, DL.w_aug, DL.w_pq, DL.w_par, DL.w_chain, DL.w_ints, DL.w_inN, DL.w_inC, DL.w_inM, DL.w_pIntI, DL.w_pIntB, DL.w_tupL, DL.w_tupT, DL.w_tupB, DL.w_rg2, DL.w_rng2, DL.w_evT, DL.w_evL, DL.w_evA0, DL.w_evA1, DL.w_tix, DL.w_a3, DL.w_pMax3, DL.w_pMin3, DL.w_rev, DL.w_revN, DL.w_revB, DL.w_ext, DL.w_rawN, DL.w_rawB, DL.w_plE, DL.w_intsB, DL.w_at3, DL.w_pBB, DL.w_putBS, DL.w_chain3, List.getElem?_cons_zero, List.getElem?_cons_succ, List.set_cons_zero, List.set_cons_succ, ↓reduceIte, Bool.false_eq_true]
  refine ⟨rfl, take_st h (by decide) (by decide) (by omega) fun v1 S1 a1 b1 h1 => ?_⟩
  simp only [DL.w_bind, DL.w_some, DL.w_none, DL.w_var, DL.w_slv, DL.w_slo, DL.w_P, DL.w_D, DL.w_x1, DL.w_x2, DL.w_xA, DL.w_nil, DL.w_cons, DL.w_ite_x, DL.w_isi, DL.w_tOfE, DL.w_bD, DL.w_tNot, DL.w_tAnd, DL.w_tOr, DL.w_and, DL.w_or, DL.w_seq, DL.w_qnx, DL.w_qrt, DL.w_qbk, DL.w_qct, DL.w_sNil, DL.w_sBreak, DL.w_sCont, DL.w_sDrop, DL.w_asg, DL.w_set, DL.w_ret, DL.w_retN, DL.w_if, DL.w_for, DL.w_fq, DL.w_fqo, DL.w_fqv, DL.w_nmP, DL.w_nmW, DL.w_nmR, DL.w_gnNil, DL.w_gtNil, DL.w_gnCons, DL.w_gtCons, DL.w_pwN, DL.w_pwP, DL.w_pwW, DL.w_gtLst, DL.w_gSubT, DL.w_s1, DL.w_s2, DL.w_pI, DL.w_pIB, DL.w_pNeg, DL.w_pAbs, DL.w_pDm, DL.w_a1, DL.w_a2, DL.w_add, DL.w_not, DL.w_ixL, DL.w_ixT, DL.w_ixB, DL.w_ixWL, DL.w_ixWT, DL.w_getT, DL.w_getL, DL.w_getB, DL.w_getW, DL.w_keyS, DL.w_keyI, DL.w_lkN, DL.w_lkC, DL.w_lenL, DL.w_lenT, DL.w_lenB, DL.w_puN, DL.w_puC, DL.w_puM, DL.w_tup, DL.w_lst, DL.w_list, DL.w_listC, DL.w_lstC, DL.w_seL, DL.w_seT, DL.w_seWL, DL.w_seWT, DL.w_seB, DL.w_eq, DL.w_callF, DL.w_callP, DL.w_runF, DL.w_eqn, DL.w_eqr, DL.w_runP, DL.w_epn, DL.w_epr, DL.w_lqn, DL.w_lqc, DL.w_lqb, DL.w_lqr, DL.w_rg, DL.w_rng1, DL.w_sl, DL.w_oN, DL.w_iQ, DL.w_oS, DL.w_gSlL, DL.w_gSlB, DL.w_gSlW, DL.w_disp, DL.w_lc, DL.w_setLc, DL.w_puQ, DL.w_yes, DL.w_itN, DL.w_imL, DL.w_imT, DL.w_imWL, DL.w_imWT, DL.w_zqT, DL.w_zqL, DL.w_bls, DL.w_tyN, DL.w_tyB, DL.w_tyI, DL.w_tyS, DL.w_tyL, DL.w_tyT, DL.w_tyD, DL.w_isNN, DL.w_isNI, DL.w_isNB, DL.w_isNS, DL.w_isNT, DL.w_isNL, DL.w_evB, DL.w_evI, DL.w_shI, DL.w_shB, DL.w_shN, DL.w_wrI, DL.w_wrT, DL.w_wrL, DL.w_at0, DL.w_at1, DL.w_at2, DL.w_nmN, DL.w_listN, DL.w_limR, DL.w_lstN, DL.w_seN, DL.w_lsL, DL.w_lsB, DL.w_lsN, DL.w_catN, DL.w_addL, DL.w_addT, DL.w_slN, DL.w_gSlN, DL.w_lcN, DL.w_rsN1, DL.w_rsN2, DL.w_rsZ1, DL.w_rsZ2, DL.w_callO, DL.w_callZ, DL.w_eO1, DL.w_eO2, DL.w_eO3, DL.w_eO4, DL.w_runO, DL.w_app, DL.w_putB, DL.w_plA, DL.w_aug, DL.w_pq, DL.w_par, DL.w_chain, DL.w_ints, DL.w_inN, DL.w_inC, DL.w_inM, DL.w_pIntI, DL.w_pIntB, DL.w_tupL, DL.w_tupT, DL.w_tupB, DL.w_rg2, DL.w_rng2, DL.w_evT, DL.w_evL, DL.w_evA0, DL.w_evA1, DL.w_tix, DL.w_a3, DL.w_pMax3, DL.w_pMin3, DL.w_rev, DL.w_revN, DL.w_revB, DL.w_ext, DL.w_rawN, DL.w_rawB, DL.w_plE, DL.w_intsB, DL.w_at3, DL.w_pBB, DL.w_putBS, DL.w_chain3, List.getElem?_cons_zero, List.getElem?_cons_succ, List.set_cons_zero, List.set_cons_succ, ↓reduceIte, Bool.false_eq_true]
  refine ⟨by decide, rfl, take_st h1 (by decide) (by decide) (by omega) fun v2 S2 a2 b2 h2 => ?_⟩
  simp only [DL.w_bind, DL.w_some, DL.w_none, DL.w_var, DL.w_slv, DL.w_slo, DL.w_P, DL.w_D, DL.w_x1, DL.w_x2, DL.w_xA, DL.w_nil, DL.w_cons, DL.w_ite_x, DL.w_isi, DL.w_tOfE, DL.w_bD, DL.w_tNot, DL.w_tAnd, DL.w_tOr, DL.w_and, DL.w_or, DL.w_seq, DL.w_qnx, DL.w_qrt, DL.w_qbk, DL.w_qct, DL.w_sNil, DL.w_sBreak, DL.w_sCont, DL.w_sDrop, DL.w_asg, DL.w_set, DL.w_ret, DL.w_retN, DL.w_if, DL.w_for, DL.w_fq, DL.w_fqo, DL.w_fqv, DL.w_nmP, DL.w_nmW, DL.w_nmR, DL.w_gnNil, DL.w_gtNil, DL.w_gnCons, DL.w_gtCons, DL.w_pwN, DL.w_pwP, DL.w_pwW, DL.w_gtLst, DL.w_gSubT, DL.w_s1, DL.w_s2, DL.w_pI, DL.w_pIB, DL.w_pNeg, DL.w_pAbs, DL.w_pDm, DL.w_a1, DL.w_a2, DL.w_add, DL.w_not, DL.w_ixL, DL.w_ixT, DL.w_ixB, DL.w_ixWL, DL.w_ixWT, DL.w_getT, DL.w_getL, DL.w_getB, DL.w_getW, DL.w_keyS, DL.w_keyI, DL.w_lkN, DL.w_lkC, DL.w_lenL, DL.w_lenT, DL.w_lenB, DL.w_puN, DL.w_puC, DL.w_puM, DL.w_tup, DL.w_lst, DL.w_list, DL.w_listC, DL.w_lstC, DL.w_seL, DL.w_seT, DL.w_seWL, DL.w_seWT, DL.w_seB, DL.w_eq, DL.w_callF, DL.w_callP, DL.w_runF, DL.w_eqn, DL.w_eqr, DL.w_runP, DL.w_epn, DL.w_epr, DL.w_lqn, DL.w_lqc, DL.w_lqb, DL.w_lqr, DL.w_rg, DL.w_rng1, DL.w_sl, DL.w_oN, DL.w_iQ, DL.w_oS, DL.w_gSlL, DL.w_gSlB, DL.w_gSlW, DL.w_disp, DL.w_lc, DL.w_setLc, DL.w_puQ, DL.w_yes, DL.w_itN, DL.w_imL, DL.w_imT, DL.w_imWL, DL.w_imWT, DL.w_zqT, DL.w_zqL, DL.w_bls, DL.w_tyN, DL.w_tyB, DL.w_tyI, DL.w_tyS, DL.w_tyL, DL.w_tyT, DL.w_tyD, DL.w_isNN, DL.w_isNI, DL.w_isNB, DL.w_isNS, DL.w_isNT, DL.w_isNL, DL.w_evB, DL.w_evI, DL.w_shI, DL.w_shB, DL.w_shN, DL.w_wrI, DL.w_wrT, DL.w_wrL, DL.w_at0, DL.w_at1, DL.w_at2, DL.w_nmN, DL.w_listN, DL.w_limR, DL.w_lstN, DL.w_seN, DL.w_lsL, DL.w_lsB, DL.w_lsN, DL.w_catN, DL.w_addL, DL.w_addT, DL.w_slN, DL.w_gSlN, DL.w_lcN, DL.w_rsN1, DL.w_rsN2, DL.w_rsZ1, DL.w_rsZ2, DL.w_callO, DL.w_callZ, DL.w_eO1, DL.w_eO2, DL.w_eO3, DL.w_eO4, DL.w_runO, DL.w_app, DL.w_putB, DL.w_plA, DL.w_aug, DL.w_pq, DL.w_par, DL.w_chain, DL.w_ints, DL.w_inN, DL.w_inC, DL.w_inM, DL.w_pIntI, DL.w_pIntB, DL.w_tupL, DL.w_tupT, DL.w_tupB, DL.w_rg2, DL.w_rng2, DL.w_evT, DL.w_evL, DL.w_evA0, DL.w_evA1, DL.w_tix, DL.w_a3, DL.w_pMax3, DL.w_pMin3, DL.w_rev, DL.w_revN, DL.w_revB, DL.w_ext, DL.w_rawN, DL.w_rawB, DL.w_plE, DL.w_intsB, DL.w_at3, DL.w_pBB, DL.w_putBS, DL.w_chain3, List.getElem?_cons_zero, List.getElem?_cons_succ, List.set_cons_zero, List.set_cons_succ, ↓reduceIte, Bool.false_eq_true]
  refine ⟨Nat.le_of_ble_eq_true rfl, rfl, take_st h2 (by decide) (by decide) (by omega) fun v3 S3 a3 b3 h3 => ?_⟩
  simp only [DL.w_bind, DL.w_some, DL.w_none, DL.w_var, DL.w_slv, DL.w_slo, DL.w_P, DL.w_D, DL.w_x1, DL.w_x2, DL.w_xA, DL.w_nil, DL.w_cons, DL.w_ite_x, DL.w_isi, DL.w_tOfE, DL.w_bD, DL.w_tNot, DL.w_tAnd, DL.w_tOr, DL.w_and, DL.w_or, DL.w_seq, DL.w_qnx, DL.w_qrt, DL.w_qbk, DL.w_qct, DL.w_sNil, DL.w_sBreak, DL.w_sCont, DL.w_sDrop, DL.w_asg, DL.w_set, DL.w_ret, DL.w_retN, DL.w_if, DL.w_for, DL.w_fq, DL.w_fqo, DL.w_fqv, DL.w_nmP, DL.w_nmW, DL.w_nmR, DL.w_gnNil, DL.w_gtNil, DL.w_gnCons, DL.w_gtCons, DL.w_pwN, DL.w_pwP, DL.w_pwW, DL.w_gtLst, DL.w_gSubT, DL.w_s1, DL.w_s2, DL.w_pI, DL.w_pIB, DL.w_pNeg, DL.w_pAbs, DL.w_pDm, DL.w_a1, DL.w_a2, DL.w_add, DL.w_not, DL.w_ixL, DL.w_ixT, DL.w_ixB, DL.w_ixWL, DL.w_ixWT, DL.w_getT, DL.w_getL, DL.w_getB, DL.w_getW, DL.w_keyS, DL.w_keyI, DL.w_lkN, DL.w_lkC, DL.w_lenL, DL.w_lenT, DL.w_lenB, DL.w_puN, DL.w_puC, DL.w_puM, DL.w_tup, DL.w_lst, DL.w_list, DL.w_listC, DL.w_lstC, DL.w_seL, DL.w_seT, DL.w_seWL, DL.w_seWT, DL.w_seB, DL.w_eq, DL.w_callF, DL.w_callP, DL.w_runF, DL.w_eqn, DL.w_eqr, DL.w_runP, DL.w_epn, DL.w_epr, DL.w_lqn, DL.w_lqc, DL.w_lqb, DL.w_lqr, DL.w_rg, DL.w_rng1, DL.w_sl, DL.w_oN, DL.w_iQ, DL.w_oS, DL.w_gSlL, DL.w_gSlB, DL.w_gSlW, DL.w_disp, DL.w_lc, DL.w_setLc, DL.w_puQ, DL.w_yes, DL.w_itN, DL.w_imL, DL.w_imT, DL.w_imWL, DL.w_imWT, DL.w_zqT, DL.w_zqL, DL.w_bls, DL.w_tyN, DL.w_tyB, DL.w_tyI, DL.w_tyS, DL.w_tyL, DL.w_tyT, DL.w_tyD, DL.w_isNN, DL.w_isNI, DL.w_isNB, DL.w_isNS, DL.w_isNT, DL.w_isNL, DL.w_evB, DL.w_evI, DL.w_shI, DL.w_shB, DL.w_shN, DL.w_wrI, DL.w_wrT, DL.w_wrL, DL.w_at0, DL.w_at1, DL.w_at2, DL.w_nmN, DL.w_listN, DL.w_limR, DL.w_lstN, DL.w_seN, DL.w_lsL, DL.w_lsB, DL.w_lsN, DL.w_catN, DL.w_addL, DL.w_addT, DL.w_slN, DL.w_gSlN, DL.w_lcN, DL.w_rsN1, DL.w_rsN2, DL.w_rsZ1, DL.w_rsZ2, DL.w_callO, DL.w_callZ, DL.w_eO1, DL.w_eO2, DL.w_eO3, DL.w_eO4, DL.w_runO, DL.w_app, DL.w_putB, DL.w_plA, DL.w_aug, DL.w_pq, DL.w_par, DL.w_chain, DL.w_ints, DL.w_inN, DL.w_inC, DL.w_inM, DL.w_pIntI, DL.w_pIntB, DL.w_tupL, DL.w_tupT, DL.w_tupB, DL.w_rg2, DL.w_rng2, DL.w_evT, DL.w_evL, DL.w_evA0, DL.w_evA1, DL.w_tix, DL.w_a3, DL.w_pMax3, DL.w_pMin3, DL.w_rev, DL.w_revN, DL.w_revB, DL.w_ext, DL.w_rawN, DL.w_rawB, DL.w_plE, DL.w_intsB, DL.w_at3, DL.w_pBB, DL.w_putBS, DL.w_chain3, List.getElem?_cons_zero, List.getElem?_cons_succ, List.set_cons_zero, List.set_cons_succ, ↓reduceIte, Bool.false_eq_true, List.map_cons, List.map_nil]
  refine ⟨by decide, ?_⟩
  have fin : ∀ u, -1000000000 < u → u < 1000000000 → W (gNm 1 (.pu (.int u)) [some (.val (.rf n)), none] S3) fun q =>
      W (slv 1 q.snd q.fst[1]?) fun r =>
        [PyData.int 1, PyData.int (-1)].length ≤ lim ∧
          W (slv 0 r.snd q.fst[0]?) fun q =>
            noBo [q.fst, D.pu (PyData.int 2)] = true ∧
              W (m__law_take [q.fst, D.pu (PyData.int 2)] q.snd) fun q =>
                W (gIx (D.pu (PyData.list [PyData.int 1, PyData.int (-1)])) q.fst q.snd) fun q =>
                  W (s2 pMul r.fst q.fst q.snd) fun r => noBo [r.fst] = true ∧ Q (r.fst, r.snd) := fun u u1 u2 => by
    simp only [DL.w_bind, DL.w_some, DL.w_none, DL.w_var, DL.w_slv, DL.w_slo, DL.w_P, DL.w_D, DL.w_x1, DL.w_x2, DL.w_xA, DL.w_nil, DL.w_cons, DL.w_ite_x, DL.w_isi, DL.w_tOfE, DL.w_bD, DL.w_tNot, DL.w_tAnd, DL.w_tOr, DL.w_and, DL.w_or, DL.w_seq, DL.w_qnx, DL.w_qrt, DL.w_qbk, DL.w_qct, DL.w_sNil, DL.w_sBreak, DL.w_sCont, DL.w_sDrop, DL.w_asg, DL.w_set, DL.w_ret, DL.w_retN, DL.w_if, DL.w_for, DL.w_fq, DL.w_fqo, DL.w_fqv, DL.w_nmP, DL.w_nmW, DL.w_nmR, DL.w_gnNil, DL.w_gtNil, DL.w_gnCons, DL.w_gtCons, DL.w_pwN, DL.w_pwP, DL.w_pwW, DL.w_gtLst, DL.w_gSubT, DL.w_s1, DL.w_s2, DL.w_pI, DL.w_pIB, DL.w_pNeg, DL.w_pAbs, DL.w_pDm, DL.w_a1, DL.w_a2, DL.w_add, DL.w_not, DL.w_ixL, DL.w_ixT, DL.w_ixB, DL.w_ixWL, DL.w_ixWT, DL.w_getT, DL.w_getL, DL.w_getB, DL.w_getW, DL.w_keyS, DL.w_keyI, DL.w_lkN, DL.w_lkC, DL.w_lenL, DL.w_lenT, DL.w_lenB, DL.w_puN, DL.w_puC, DL.w_puM, DL.w_tup, DL.w_lst, DL.w_list, DL.w_listC, DL.w_lstC, DL.w_seL, DL.w_seT, DL.w_seWL, DL.w_seWT, DL.w_seB, DL.w_eq, DL.w_callF, DL.w_callP, DL.w_runF, DL.w_eqn, DL.w_eqr, DL.w_runP, DL.w_epn, DL.w_epr, DL.w_lqn, DL.w_lqc, DL.w_lqb, DL.w_lqr, DL.w_rg, DL.w_rng1, DL.w_sl, DL.w_oN, DL.w_iQ, DL.w_oS, DL.w_gSlL, DL.w_gSlB, DL.w_gSlW, DL.w_disp, DL.w_lc, DL.w_setLc, DL.w_puQ, DL.w_yes, DL.w_itN, DL.w_imL, DL.w_imT, DL.w_imWL, DL.w_imWT, DL.w_zqT, DL.w_zqL, DL.w_bls, DL.w_tyN, DL.w_tyB, DL.w_tyI, DL.w_tyS, DL.w_tyL, DL.w_tyT, DL.w_tyD, DL.w_isNN, DL.w_isNI, DL.w_isNB, DL.w_isNS, DL.w_isNT, DL.w_isNL, DL.w_evB, DL.w_evI, DL.w_shI, DL.w_shB, DL.w_shN, DL.w_wrI, DL.w_wrT, DL.w_wrL, DL.w_at0, DL.w_at1, DL.w_at2, DL.w_nmN, DL.w_listN, DL.w_limR, DL.w_lstN, DL.w_seN, DL.w_lsL, DL.w_lsB, DL.w_lsN, DL.w_catN, DL.w_addL, DL.w_addT, DL.w_slN, DL.w_gSlN, DL.w_lcN, DL.w_rsN1, DL.w_rsN2, DL.w_rsZ1, DL.w_rsZ2, DL.w_callO, DL.w_callZ, DL.w_eO1, DL.w_eO2, DL.w_eO3, DL.w_eO4, DL.w_runO, DL.w_app, DL.w_putB, DL.w_plA, DL.w_aug, DL.w_pq, DL.w_par, DL.w_chain, DL.w_ints, DL.w_inN, DL.w_inC, DL.w_inM, DL.w_pIntI, DL.w_pIntB, DL.w_tupL, DL.w_tupT, DL.w_tupB, DL.w_rg2, DL.w_rng2, DL.w_evT, DL.w_evL, DL.w_evA0, DL.w_evA1, DL.w_tix, DL.w_a3, DL.w_pMax3, DL.w_pMin3, DL.w_rev, DL.w_revN, DL.w_revB, DL.w_ext, DL.w_rawN, DL.w_rawB, DL.w_plE, DL.w_intsB, DL.w_at3, DL.w_pBB, DL.w_putBS, DL.w_chain3, List.getElem?_cons_zero, List.getElem?_cons_succ, List.set_cons_zero, List.set_cons_succ, ↓reduceIte, Bool.false_eq_true]
    refine ⟨Nat.le_of_ble_eq_true rfl, rfl, take_st h3 (by decide) (by decide) (by omega) fun v4 S4 a4 b4 h4 => ?_⟩
    simp only [DL.w_bind, DL.w_some, DL.w_none, DL.w_var, DL.w_slv, DL.w_slo, DL.w_P, DL.w_D, DL.w_x1, DL.w_x2, DL.w_xA, DL.w_nil, DL.w_cons, DL.w_ite_x, DL.w_isi, DL.w_tOfE, DL.w_bD, DL.w_tNot, DL.w_tAnd, DL.w_tOr, DL.w_and, DL.w_or, DL.w_seq, DL.w_qnx, DL.w_qrt, DL.w_qbk, DL.w_qct, DL.w_sNil, DL.w_sBreak, DL.w_sCont, DL.w_sDrop, DL.w_asg, DL.w_set, DL.w_ret, DL.w_retN, DL.w_if, DL.w_for, DL.w_fq, DL.w_fqo, DL.w_fqv, DL.w_nmP, DL.w_nmW, DL.w_nmR, DL.w_gnNil, DL.w_gtNil, DL.w_gnCons, DL.w_gtCons, DL.w_pwN, DL.w_pwP, DL.w_pwW, DL.w_gtLst, DL.w_gSubT, DL.w_s1, DL.w_s2, DL.w_pI, DL.w_pIB, DL.w_pNeg, DL.w_pAbs, DL.w_pDm, DL.w_a1, DL.w_a2, DL.w_add, DL.w_not, DL.w_ixL, DL.w_ixT, DL.w_ixB, DL.w_ixWL, DL.w_ixWT, DL.w_getT, DL.w_getL, DL.w_getB, DL.w_getW, DL.w_keyS, DL.w_keyI, DL.w_lkN, DL.w_lkC, DL.w_lenL, DL.w_lenT, DL.w_lenB, DL.w_puN, DL.w_puC, DL.w_puM, DL.w_tup, DL.w_lst, DL.w_list, DL.w_listC, DL.w_lstC, DL.w_seL, DL.w_seT, DL.w_seWL, DL.w_seWT, DL.w_seB, DL.w_eq, DL.w_callF, DL.w_callP, DL.w_runF, DL.w_eqn, DL.w_eqr, DL.w_runP, DL.w_epn, DL.w_epr, DL.w_lqn, DL.w_lqc, DL.w_lqb, DL.w_lqr, DL.w_rg, DL.w_rng1, DL.w_sl, DL.w_oN, DL.w_iQ, DL.w_oS, DL.w_gSlL, DL.w_gSlB, DL.w_gSlW, DL.w_disp, DL.w_lc, DL.w_setLc, DL.w_puQ, DL.w_yes, DL.w_itN, DL.w_imL, DL.w_imT, DL.w_imWL, DL.w_imWT, DL.w_zqT, DL.w_zqL, DL.w_bls, DL.w_tyN, DL.w_tyB, DL.w_tyI, DL.w_tyS, DL.w_tyL, DL.w_tyT, DL.w_tyD, DL.w_isNN, DL.w_isNI, DL.w_isNB, DL.w_isNS, DL.w_isNT, DL.w_isNL, DL.w_evB, DL.w_evI, DL.w_shI, DL.w_shB, DL.w_shN, DL.w_wrI, DL.w_wrT, DL.w_wrL, DL.w_at0, DL.w_at1, DL.w_at2, DL.w_nmN, DL.w_listN, DL.w_limR, DL.w_lstN, DL.w_seN, DL.w_lsL, DL.w_lsB, DL.w_lsN, DL.w_catN, DL.w_addL, DL.w_addT, DL.w_slN, DL.w_gSlN, DL.w_lcN, DL.w_rsN1, DL.w_rsN2, DL.w_rsZ1, DL.w_rsZ2, DL.w_callO, DL.w_callZ, DL.w_eO1, DL.w_eO2, DL.w_eO3, DL.w_eO4, DL.w_runO, DL.w_app, DL.w_putB, DL.w_plA, DL.w_aug, DL.w_pq, DL.w_par, DL.w_chain, DL.w_ints, DL.w_inN, DL.w_inC, DL.w_inM, DL.w_pIntI, DL.w_pIntB, DL.w_tupL, DL.w_tupT, DL.w_tupB, DL.w_rg2, DL.w_rng2, DL.w_evT, DL.w_evL, DL.w_evA0, DL.w_evA1, DL.w_tix, DL.w_a3, DL.w_pMax3, DL.w_pMin3, DL.w_rev, DL.w_revN, DL.w_revB, DL.w_ext, DL.w_rawN, DL.w_rawB, DL.w_plE, DL.w_intsB, DL.w_at3, DL.w_pBB, DL.w_putBS, DL.w_chain3, List.getElem?_cons_zero, List.getElem?_cons_succ, List.set_cons_zero, List.set_cons_succ, ↓reduceIte, Bool.false_eq_true, List.map_cons, List.map_nil]
    have h5 : St S4 n (T + 4) := by
      have e : T + 1 + 1 + 1 + 1 = T + 4 := by omega
      rw [← e]; exact h4
    have s1 : small 1 = true := by decide
    have s2 : small (-1) = true := by decide
    refine at2 a4 b4 ?_ ?_
    · simp only [DL.w_bind, DL.w_some, DL.w_none, DL.w_var, DL.w_slv, DL.w_slo, DL.w_P, DL.w_D, DL.w_x1, DL.w_x2, DL.w_xA, DL.w_nil, DL.w_cons, DL.w_ite_x, DL.w_isi, DL.w_tOfE, DL.w_bD, DL.w_tNot, DL.w_tAnd, DL.w_tOr, DL.w_and, DL.w_or, DL.w_seq, DL.w_qnx, DL.w_qrt, DL.w_qbk, DL.w_qct, DL.w_sNil, DL.w_sBreak, DL.w_sCont, DL.w_sDrop, DL.w_asg, DL.w_set, DL.w_ret, DL.w_retN, DL.w_if, DL.w_for, DL.w_fq, DL.w_fqo, DL.w_fqv, DL.w_nmP, DL.w_nmW, DL.w_nmR, DL.w_gnNil, DL.w_gtNil, DL.w_gnCons, DL.w_gtCons, DL.w_pwN, DL.w_pwP, DL.w_pwW, DL.w_gtLst, DL.w_gSubT, DL.w_s1, DL.w_s2, DL.w_pI, DL.w_pIB, DL.w_pNeg, DL.w_pAbs, DL.w_pDm, DL.w_a1, DL.w_a2, DL.w_add, DL.w_not, DL.w_ixL, DL.w_ixT, DL.w_ixB, DL.w_ixWL, DL.w_ixWT, DL.w_getT, DL.w_getL, DL.w_getB, DL.w_getW, DL.w_keyS, DL.w_keyI, DL.w_lkN, DL.w_lkC, DL.w_lenL, DL.w_lenT, DL.w_lenB, DL.w_puN, DL.w_puC, DL.w_puM, DL.w_tup, DL.w_lst, DL.w_list, DL.w_listC, DL.w_lstC, DL.w_seL, DL.w_seT, DL.w_seWL, DL.w_seWT, DL.w_seB, DL.w_eq, DL.w_callF, DL.w_callP, DL.w_runF, DL.w_eqn, DL.w_eqr, DL.w_runP, DL.w_epn, DL.w_epr, DL.w_lqn, DL.w_lqc, DL.w_lqb, DL.w_lqr, DL.w_rg, DL.w_rng1, DL.w_sl, DL.w_oN, DL.w_iQ, DL.w_oS, DL.w_gSlL, DL.w_gSlB, DL.w_gSlW, DL.w_disp, DL.w_lc, DL.w_setLc, DL.w_puQ, DL.w_yes, DL.w_itN, DL.w_imL, DL.w_imT, DL.w_imWL, DL.w_imWT, DL.w_zqT, DL.w_zqL, DL.w_bls, DL.w_tyN, DL.w_tyB, DL.w_tyI, DL.w_tyS, DL.w_tyL, DL.w_tyT, DL.w_tyD, DL.w_isNN, DL.w_isNI, DL.w_isNB, DL.w_isNS, DL.w_isNT, DL.w_isNL, DL.w_evB, DL.w_evI, DL.w_shI, DL.w_shB, DL.w_shN, DL.w_wrI, DL.w_wrT, DL.w_wrL, DL.w_at0, DL.w_at1, DL.w_at2, DL.w_nmN, DL.w_listN, DL.w_limR, DL.w_lstN, DL.w_seN, DL.w_lsL, DL.w_lsB, DL.w_lsN, DL.w_catN, DL.w_addL, DL.w_addT, DL.w_slN, DL.w_gSlN, DL.w_lcN, DL.w_rsN1, DL.w_rsN2, DL.w_rsZ1, DL.w_rsZ2, DL.w_callO, DL.w_callZ, DL.w_eO1, DL.w_eO2, DL.w_eO3, DL.w_eO4, DL.w_runO, DL.w_app, DL.w_putB, DL.w_plA, DL.w_aug, DL.w_pq, DL.w_par, DL.w_chain, DL.w_ints, DL.w_inN, DL.w_inC, DL.w_inM, DL.w_pIntI, DL.w_pIntB, DL.w_tupL, DL.w_tupT, DL.w_tupB, DL.w_rg2, DL.w_rng2, DL.w_evT, DL.w_evL, DL.w_evA0, DL.w_evA1, DL.w_tix, DL.w_a3, DL.w_pMax3, DL.w_pMin3, DL.w_rev, DL.w_revN, DL.w_revB, DL.w_ext, DL.w_rawN, DL.w_rawB, DL.w_plE, DL.w_intsB, DL.w_at3, DL.w_pBB, DL.w_putBS, DL.w_chain3, List.getElem?_cons_zero, List.getElem?_cons_succ, List.set_cons_zero, List.set_cons_succ, ↓reduceIte, Bool.false_eq_true, s1, Bool.or_true]
      exact ⟨trivial, rfl, q _ _ (by omega) (by omega) h5⟩
    · simp only [DL.w_bind, DL.w_some, DL.w_none, DL.w_var, DL.w_slv, DL.w_slo, DL.w_P, DL.w_D, DL.w_x1, DL.w_x2, DL.w_xA, DL.w_nil, DL.w_cons, DL.w_ite_x, DL.w_isi, DL.w_tOfE, DL.w_bD, DL.w_tNot, DL.w_tAnd, DL.w_tOr, DL.w_and, DL.w_or, DL.w_seq, DL.w_qnx, DL.w_qrt, DL.w_qbk, DL.w_qct, DL.w_sNil, DL.w_sBreak, DL.w_sCont, DL.w_sDrop, DL.w_asg, DL.w_set, DL.w_ret, DL.w_retN, DL.w_if, DL.w_for, DL.w_fq, DL.w_fqo, DL.w_fqv, DL.w_nmP, DL.w_nmW, DL.w_nmR, DL.w_gnNil, DL.w_gtNil, DL.w_gnCons, DL.w_gtCons, DL.w_pwN, DL.w_pwP, DL.w_pwW, DL.w_gtLst, DL.w_gSubT, DL.w_s1, DL.w_s2, DL.w_pI, DL.w_pIB, DL.w_pNeg, DL.w_pAbs, DL.w_pDm, DL.w_a1, DL.w_a2, DL.w_add, DL.w_not, DL.w_ixL, DL.w_ixT, DL.w_ixB, DL.w_ixWL, DL.w_ixWT, DL.w_getT, DL.w_getL, DL.w_getB, DL.w_getW, DL.w_keyS, DL.w_keyI, DL.w_lkN, DL.w_lkC, DL.w_lenL, DL.w_lenT, DL.w_lenB, DL.w_puN, DL.w_puC, DL.w_puM, DL.w_tup, DL.w_lst, DL.w_list, DL.w_listC, DL.w_lstC, DL.w_seL, DL.w_seT, DL.w_seWL, DL.w_seWT, DL.w_seB, DL.w_eq, DL.w_callF, DL.w_callP, DL.w_runF, DL.w_eqn, DL.w_eqr, DL.w_runP, DL.w_epn, DL.w_epr, DL.w_lqn, DL.w_lqc, DL.w_lqb, DL.w_lqr, DL.w_rg, DL.w_rng1, DL.w_sl, DL.w_oN, DL.w_iQ, DL.w_oS, DL.w_gSlL, DL.w_gSlB, DL.w_gSlW, DL.w_disp, DL.w_lc, DL.w_setLc, DL.w_puQ, DL.w_yes, DL.w_itN, DL.w_imL, DL.w_imT, DL.w_imWL, DL.w_imWT, DL.w_zqT, DL.w_zqL, DL.w_bls, DL.w_tyN, DL.w_tyB, DL.w_tyI, DL.w_tyS, DL.w_tyL, DL.w_tyT, DL.w_tyD, DL.w_isNN, DL.w_isNI, DL.w_isNB, DL.w_isNS, DL.w_isNT, DL.w_isNL, DL.w_evB, DL.w_evI, DL.w_shI, DL.w_shB, DL.w_shN, DL.w_wrI, DL.w_wrT, DL.w_wrL, DL.w_at0, DL.w_at1, DL.w_at2, DL.w_nmN, DL.w_listN, DL.w_limR, DL.w_lstN, DL.w_seN, DL.w_lsL, DL.w_lsB, DL.w_lsN, DL.w_catN, DL.w_addL, DL.w_addT, DL.w_slN, DL.w_gSlN, DL.w_lcN, DL.w_rsN1, DL.w_rsN2, DL.w_rsZ1, DL.w_rsZ2, DL.w_callO, DL.w_callZ, DL.w_eO1, DL.w_eO2, DL.w_eO3, DL.w_eO4, DL.w_runO, DL.w_app, DL.w_putB, DL.w_plA, DL.w_aug, DL.w_pq, DL.w_par, DL.w_chain, DL.w_ints, DL.w_inN, DL.w_inC, DL.w_inM, DL.w_pIntI, DL.w_pIntB, DL.w_tupL, DL.w_tupT, DL.w_tupB, DL.w_rg2, DL.w_rng2, DL.w_evT, DL.w_evL, DL.w_evA0, DL.w_evA1, DL.w_tix, DL.w_a3, DL.w_pMax3, DL.w_pMin3, DL.w_rev, DL.w_revN, DL.w_revB, DL.w_ext, DL.w_rawN, DL.w_rawB, DL.w_plE, DL.w_intsB, DL.w_at3, DL.w_pBB, DL.w_putBS, DL.w_chain3, List.getElem?_cons_zero, List.getElem?_cons_succ, List.set_cons_zero, List.set_cons_succ, ↓reduceIte, Bool.false_eq_true, s2, Bool.or_true]
      exact ⟨trivial, rfl, q _ _ (by omega) (by omega) h5⟩
  have b2' : v2 < 100000000 := b2
  exact at3 (by omega) (by omega) (fin v1 (by omega) (by omega)) (fin v2 (by omega) (by omega)) (fin 99999999 (by omega) (by omega))
/-- data that are told to be the same: no True, no False, no dict -/
def okS : Nat → P → Bool
  | 0, _ => false
  | _ + 1, .none => true
  | _ + 1, .int _ => true
  | _ + 1, .str x => PyData.strOk x
  | j + 1, .list xs => xs.all (okS j) && decide (xs.length ≤ lim)
  | j + 1, .tuple xs => xs.all (okS j) && decide (xs.length ≤ lim)
  | _ + 1, _ => false
theorem zip_self {xs : List P} {d : D} (h : d ∈ zipD xs xs) : ∃ p ∈ xs, d = .pu (.tuple [p, p]) := by
  induction xs with
  | nil => cases h
  | cons x xs ih =>
    rcases List.mem_cons.mp h with rfl | h
    · exact ⟨x, List.mem_cons_self, rfl⟩
    · obtain ⟨p, h1, h2⟩ := ih h
      exact ⟨p, List.mem_cons_of_mem _ h1, h2⟩
theorem zip_len {xs : List P} : (zipD xs xs).length = xs.length := by
  induction xs with
  | nil => rfl
  | cons x xs ih => exact congrArg (· + 1) ih
theorem same_seq {j : Nat} {xs : List P} {e : Envi} {Q : D × Sto → Prop} (he : e = [none, none, none, none, none] ∨ ∃ a b, e = [a, b, none, none, none]) (ih : ∀ p ∈ xs, ∀ Q : P → Prop, Q (.bool true) → W (m__law_same j [p, p]) Q) (hl : xs.length ≤ lim) (q : Q (.pu (.bool true), [])) :
    W (compD (gtLst 2 (gnCons (gNm 3) (gnCons (gNm 4) gnNil))) tYesX (xA (gCallP (m__law_same j)) (aCons (xVar 3) (aCons (xVar 4) aNil))) e (zipD xs xs) [] []) fun r => W (blsOf (List.map D.pu r.1)) fun bs => Q (.pu (.bool (bs.all id)), r.2) := by
  obtain ⟨a, b, rfl⟩ : ∃ a b, e = [a, b, none, none, none] := by
    rcases he with rfl | h
    · exact ⟨none, none, rfl⟩
    · exact h
  refine comp_map (f := fun _ => some (.bool true)) (zipD xs xs) [] (fun d hd Q q1 _ => ?_) (by rw [zip_len]; simpa using hl) ((List.replicate xs.length true).map .bool) _ ?_ ?_
  · obtain ⟨p, hp, rfl⟩ := zip_self hd
    simp only [DL.w_bind, DL.w_some, DL.w_none, DL.w_var, DL.w_slv, DL.w_slo, DL.w_P, DL.w_D, DL.w_x1, DL.w_x2, DL.w_xA, DL.w_nil, DL.w_cons, DL.w_ite_x, DL.w_isi, DL.w_tOfE, DL.w_bD, DL.w_tNot, DL.w_tAnd, DL.w_tOr, DL.w_and, DL.w_or, DL.w_seq, DL.w_qnx, DL.w_qrt, DL.w_qbk, DL.w_qct, DL.w_sNil, DL.w_sBreak, DL.w_sCont, DL.w_sDrop, DL.w_asg, DL.w_set, DL.w_ret, DL.w_retN, DL.w_if, DL.w_for, DL.w_fq, DL.w_fqo, DL.w_fqv, DL.w_nmP, DL.w_nmW, DL.w_nmR, DL.w_gnNil, DL.w_gtNil, DL.w_gnCons, DL.w_gtCons, DL.w_pwN, DL.w_pwP, DL.w_pwW, DL.w_gtLst, DL.w_gSubT, DL.w_s1, DL.w_s2, DL.w_pI, DL.w_pIB, DL.w_pNeg, DL.w_pAbs, DL.w_pDm, DL.w_a1, DL.w_a2, DL.w_add, DL.w_not, DL.w_ixL, DL.w_ixT, DL.w_ixB, DL.w_ixWL, DL.w_ixWT, DL.w_getT, DL.w_getL, DL.w_getB, DL.w_getW, DL.w_keyS, DL.w_keyI, DL.w_lkN, DL.w_lkC, DL.w_lenL, DL.w_lenT, DL.w_lenB, DL.w_puN, DL.w_puC, DL.w_puM, DL.w_tup, DL.w_lst, DL.w_list, DL.w_listC, DL.w_lstC, DL.w_seL, DL.w_seT, DL.w_seWL, DL.w_seWT, DL.w_seB, DL.w_eq, DL.w_callF, DL.w_callP, DL.w_runF, DL.w_eqn, DL.w_eqr, DL.w_runP, DL.w_epn, DL.w_epr, DL.w_lqn, DL.w_lqc, DL.w_lqb, DL.w_lqr, DL.w_rg, DL.w_rng1, DL.w_sl, DL.w_oN, DL.w_iQ, DL.w_oS, DL.w_gSlL, DL.w_gSlB, DL.w_gSlW, DL.w_disp, DL.w_lc, DL.w_setLc, DL.w_puQ, DL.w_yes, DL.w_itN, DL.w_imL, DL.w_imT, DL.w_imWL, DL.w_imWT, DL.w_zqT, DL.w_zqL, DL.w_bls, DL.w_tyN, DL.w_tyB, DL.w_tyI, DL.w_tyS, DL.w_tyL, DL.w_tyT, DL.w_tyD, DL.w_isNN, DL.w_isNI, DL.w_isNB, DL.w_isNS, DL.w_isNT, DL.w_isNL, DL.w_evB, DL.w_evI, DL.w_shI, DL.w_shB, DL.w_shN, DL.w_wrI, DL.w_wrT, DL.w_wrL, DL.w_at0, DL.w_at1, DL.w_at2, DL.w_nmN, DL.w_listN, DL.w_limR, DL.w_lstN, DL.w_seN, DL.w_lsL, DL.w_lsB, DL.w_lsN, DL.w_catN, DL.w_addL, DL.w_addT, DL.w_slN, DL.w_gSlN, DL.w_lcN, DL.w_rsN1, DL.w_rsN2, DL.w_rsZ1, DL.w_rsZ2, DL.w_callO, DL.w_callZ, DL.w_eO1, DL.w_eO2, DL.w_eO3, DL.w_eO4, DL.w_runO, DL.w_app, DL.w_putB, DL.w_plA, DL.w_aug, DL.w_pq, DL.w_par, DL.w_chain, DL.w_ints, DL.w_inN, DL.w_inC, DL.w_inM, DL.w_pIntI, DL.w_pIntB, DL.w_tupL, DL.w_tupT, DL.w_tupB, DL.w_rg2, DL.w_rng2, DL.w_evT, DL.w_evL, DL.w_evA0, DL.w_evA1, DL.w_tix, DL.w_a3, DL.w_pMax3, DL.w_pMin3, DL.w_rev, DL.w_revN, DL.w_revB, DL.w_ext, DL.w_rawN, DL.w_rawB, DL.w_plE, DL.w_intsB, DL.w_at3, DL.w_pBB, DL.w_putBS, DL.w_chain3, List.getElem?_cons_zero, List.getElem?_cons_succ, List.set_cons_zero, List.set_cons_succ, ↓reduceIte, Bool.false_eq_true, List.map_cons, List.map_nil, List.length_cons, List.length_nil]
    exact ⟨trivial, trivial, ih p hp _ (q1 _ rfl)⟩
  · rw [List.map_map, List.map_replicate, List.map_const', zip_len]
    rfl
  · rw [List.nil_append, bls_map]
    refine w_some.mpr ?_
    rw [show (List.replicate xs.length true).all id = true by rw [List.all_eq_true]; intro x hx; rw [List.eq_of_mem_replicate hx]; rfl]
    exact q
theorem same_refl : ∀ (j : Nat) (p : P), okS j p = true → ∀ Q : P → Prop, Q (.bool true) → W (m__law_same j [p, p]) Q
  | 0, _, h, _, _ => by cases h
  | j + 1, p, h, Q, q => by
    have ih := same_refl j
    unfold m__law_same
    rw [w_runP]
    refine ⟨⟨rfl, by decide⟩, ?_⟩
    rw [show env0 5 (List.map D.pu [p, p]) = [some (.val (.pu p)), some (.val (.pu p)), none, none, none] from rfl]
    unfold b__law_same
    cases p with
    | none =>
      simp only [DL.w_bind, DL.w_some, DL.w_none, DL.w_var, DL.w_slv, DL.w_slo, DL.w_P, DL.w_D, DL.w_x1, DL.w_x2, DL.w_xA, DL.w_nil, DL.w_cons, DL.w_ite_x, DL.w_isi, DL.w_tOfE, DL.w_bD, DL.w_tNot, DL.w_tAnd, DL.w_tOr, DL.w_and, DL.w_or, DL.w_seq, DL.w_qnx, DL.w_qrt, DL.w_qbk, DL.w_qct, DL.w_sNil, DL.w_sBreak, DL.w_sCont, DL.w_sDrop, DL.w_asg, DL.w_set, DL.w_ret, DL.w_retN, DL.w_if, DL.w_for, DL.w_fq, DL.w_fqo, DL.w_fqv, DL.w_nmP, DL.w_nmW, DL.w_nmR, DL.w_gnNil, DL.w_gtNil, DL.w_gnCons, DL.w_gtCons, DL.w_pwN, DL.w_pwP, DL.w_pwW, DL.w_gtLst, DL.w_gSubT, DL.w_s1, DL.w_s2, DL.w_pI, DL.w_pIB, DL.w_pNeg, DL.w_pAbs, DL.w_pDm, DL.w_a1, DL.w_a2, DL.w_add, DL.w_not, DL.w_ixL, DL.w_ixT, DL.w_ixB, DL.w_ixWL, DL.w_ixWT, DL.w_getT, DL.w_getL, DL.w_getB, DL.w_getW, DL.w_keyS, DL.w_keyI, DL.w_lkN, DL.w_lkC, DL.w_lenL, DL.w_lenT, DL.w_lenB, DL.w_puN, DL.w_puC, DL.w_puM, DL.w_tup, DL.w_lst, DL.w_list, DL.w_listC, DL.w_lstC, DL.w_seL, DL.w_seT, DL.w_seWL, DL.w_seWT, DL.w_seB, DL.w_eq, DL.w_callF, DL.w_callP, DL.w_runF, DL.w_eqn, DL.w_eqr, DL.w_runP, DL.w_epn, DL.w_epr, DL.w_lqn, DL.w_lqc, DL.w_lqb, DL.w_lqr, DL.w_rg, DL.w_rng1, DL.w_sl, DL.w_oN, DL.w_iQ, DL.w_oS, DL.w_gSlL, DL.w_gSlB, DL.w_gSlW, DL.w_disp, DL.w_lc, DL.w_setLc, DL.w_puQ, DL.w_yes, DL.w_itN, DL.w_imL, DL.w_imT, DL.w_imWL, DL.w_imWT, DL.w_zqT, DL.w_zqL, DL.w_bls, DL.w_tyN, DL.w_tyB, DL.w_tyI, DL.w_tyS, DL.w_tyL, DL.w_tyT, DL.w_tyD, DL.w_isNN, DL.w_isNI, DL.w_isNB, DL.w_isNS, DL.w_isNT, DL.w_isNL, DL.w_evB, DL.w_evI, DL.w_shI, DL.w_shB, DL.w_shN, DL.w_wrI, DL.w_wrT, DL.w_wrL, DL.w_at0, DL.w_at1, DL.w_at2, DL.w_nmN, DL.w_listN, DL.w_limR, DL.w_lstN, DL.w_seN, DL.w_lsL, DL.w_lsB, DL.w_lsN, DL.w_catN, DL.w_addL, DL.w_addT, DL.w_slN, DL.w_gSlN, DL.w_lcN, DL.w_rsN1, DL.w_rsN2, DL.w_rsZ1, DL.w_rsZ2, DL.w_callO, DL.w_callZ, DL.w_eO1, DL.w_eO2, DL.w_eO3, DL.w_eO4, DL.w_runO, DL.w_app, DL.w_putB, DL.w_plA, DL.w_aug, DL.w_pq, DL.w_par, DL.w_chain, DL.w_ints, DL.w_inN, DL.w_inC, DL.w_inM, DL.w_pIntI, DL.w_pIntB, DL.w_tupL, DL.w_tupT, DL.w_tupB, DL.w_rg2, DL.w_rng2, DL.w_evT, DL.w_evL, DL.w_evA0, DL.w_evA1, DL.w_tix, DL.w_a3, DL.w_pMax3, DL.w_pMin3, DL.w_rev, DL.w_revN, DL.w_revB, DL.w_ext, DL.w_rawN, DL.w_rawB, DL.w_plE, DL.w_intsB, DL.w_at3, DL.w_pBB, DL.w_putBS, DL.w_chain3, List.getElem?_cons_zero, List.getElem?_cons_succ, List.set_cons_zero, List.set_cons_succ, ↓reduceIte, Bool.false_eq_true]
      exact q
    | int a =>
      simp only [DL.w_bind, DL.w_some, DL.w_none, DL.w_var, DL.w_slv, DL.w_slo, DL.w_P, DL.w_D, DL.w_x1, DL.w_x2, DL.w_xA, DL.w_nil, DL.w_cons, DL.w_ite_x, DL.w_isi, DL.w_tOfE, DL.w_bD, DL.w_tNot, DL.w_tAnd, DL.w_tOr, DL.w_and, DL.w_or, DL.w_seq, DL.w_qnx, DL.w_qrt, DL.w_qbk, DL.w_qct, DL.w_sNil, DL.w_sBreak, DL.w_sCont, DL.w_sDrop, DL.w_asg, DL.w_set, DL.w_ret, DL.w_retN, DL.w_if, DL.w_for, DL.w_fq, DL.w_fqo, DL.w_fqv, DL.w_nmP, DL.w_nmW, DL.w_nmR, DL.w_gnNil, DL.w_gtNil, DL.w_gnCons, DL.w_gtCons, DL.w_pwN, DL.w_pwP, DL.w_pwW, DL.w_gtLst, DL.w_gSubT, DL.w_s1, DL.w_s2, DL.w_pI, DL.w_pIB, DL.w_pNeg, DL.w_pAbs, DL.w_pDm, DL.w_a1, DL.w_a2, DL.w_add, DL.w_not, DL.w_ixL, DL.w_ixT, DL.w_ixB, DL.w_ixWL, DL.w_ixWT, DL.w_getT, DL.w_getL, DL.w_getB, DL.w_getW, DL.w_keyS, DL.w_keyI, DL.w_lkN, DL.w_lkC, DL.w_lenL, DL.w_lenT, DL.w_lenB, DL.w_puN, DL.w_puC, DL.w_puM, DL.w_tup, DL.w_lst, DL.w_list, DL.w_listC, DL.w_lstC, DL.w_seL, DL.w_seT, DL.w_seWL, DL.w_seWT, DL.w_seB, DL.w_eq, DL.w_callF, DL.w_callP, DL.w_runF, DL.w_eqn, DL.w_eqr, DL.w_runP, DL.w_epn, DL.w_epr, DL.w_lqn, DL.w_lqc, DL.w_lqb, DL.w_lqr, DL.w_rg, DL.w_rng1, DL.w_sl, DL.w_oN, DL.w_iQ, DL.w_oS, DL.w_gSlL, DL.w_gSlB, DL.w_gSlW, DL.w_disp, DL.w_lc, DL.w_setLc, DL.w_puQ, DL.w_yes, DL.w_itN, DL.w_imL, DL.w_imT, DL.w_imWL, DL.w_imWT, DL.w_zqT, DL.w_zqL, DL.w_bls, DL.w_tyN, DL.w_tyB, DL.w_tyI, DL.w_tyS, DL.w_tyL, DL.w_tyT, DL.w_tyD, DL.w_isNN, DL.w_isNI, DL.w_isNB, DL.w_isNS, DL.w_isNT, DL.w_isNL, DL.w_evB, DL.w_evI, DL.w_shI, DL.w_shB, DL.w_shN, DL.w_wrI, DL.w_wrT, DL.w_wrL, DL.w_at0, DL.w_at1, DL.w_at2, DL.w_nmN, DL.w_listN, DL.w_limR, DL.w_lstN, DL.w_seN, DL.w_lsL, DL.w_lsB, DL.w_lsN, DL.w_catN, DL.w_addL, DL.w_addT, DL.w_slN, DL.w_gSlN, DL.w_lcN, DL.w_rsN1, DL.w_rsN2, DL.w_rsZ1, DL.w_rsZ2, DL.w_callO, DL.w_callZ, DL.w_eO1, DL.w_eO2, DL.w_eO3, DL.w_eO4, DL.w_runO, DL.w_app, DL.w_putB, DL.w_plA, DL.w_aug, DL.w_pq, DL.w_par, DL.w_chain, DL.w_ints, DL.w_inN, DL.w_inC, DL.w_inM, DL.w_pIntI, DL.w_pIntB, DL.w_tupL, DL.w_tupT, DL.w_tupB, DL.w_rg2, DL.w_rng2, DL.w_evT, DL.w_evL, DL.w_evA0, DL.w_evA1, DL.w_tix, DL.w_a3, DL.w_pMax3, DL.w_pMin3, DL.w_rev, DL.w_revN, DL.w_revB, DL.w_ext, DL.w_rawN, DL.w_rawB, DL.w_plE, DL.w_intsB, DL.w_at3, DL.w_pBB, DL.w_putBS, DL.w_chain3, List.getElem?_cons_zero, List.getElem?_cons_succ, List.set_cons_zero, List.set_cons_succ, ↓reduceIte, Bool.false_eq_true, List.any_cons, List.any_nil, Ty.is, Bool.or_false]
      simpa using q
    | bool b => cases h
    | dict k => cases h
    | str x =>
      have hx : shp 9 (.str x) = true := h
      have e1 : PyData.eqv (.str x) (.str x) = true := by simp [PyData.eqv]
      simp only [DL.w_bind, DL.w_some, DL.w_none, DL.w_var, DL.w_slv, DL.w_slo, DL.w_P, DL.w_D, DL.w_x1, DL.w_x2, DL.w_xA, DL.w_nil, DL.w_cons, DL.w_ite_x, DL.w_isi, DL.w_tOfE, DL.w_bD, DL.w_tNot, DL.w_tAnd, DL.w_tOr, DL.w_and, DL.w_or, DL.w_seq, DL.w_qnx, DL.w_qrt, DL.w_qbk, DL.w_qct, DL.w_sNil, DL.w_sBreak, DL.w_sCont, DL.w_sDrop, DL.w_asg, DL.w_set, DL.w_ret, DL.w_retN, DL.w_if, DL.w_for, DL.w_fq, DL.w_fqo, DL.w_fqv, DL.w_nmP, DL.w_nmW, DL.w_nmR, DL.w_gnNil, DL.w_gtNil, DL.w_gnCons, DL.w_gtCons, DL.w_pwN, DL.w_pwP, DL.w_pwW, DL.w_gtLst, DL.w_gSubT, DL.w_s1, DL.w_s2, DL.w_pI, DL.w_pIB, DL.w_pNeg, DL.w_pAbs, DL.w_pDm, DL.w_a1, DL.w_a2, DL.w_add, DL.w_not, DL.w_ixL, DL.w_ixT, DL.w_ixB, DL.w_ixWL, DL.w_ixWT, DL.w_getT, DL.w_getL, DL.w_getB, DL.w_getW, DL.w_keyS, DL.w_keyI, DL.w_lkN, DL.w_lkC, DL.w_lenL, DL.w_lenT, DL.w_lenB, DL.w_puN, DL.w_puC, DL.w_puM, DL.w_tup, DL.w_lst, DL.w_list, DL.w_listC, DL.w_lstC, DL.w_seL, DL.w_seT, DL.w_seWL, DL.w_seWT, DL.w_seB, DL.w_eq, DL.w_callF, DL.w_callP, DL.w_runF, DL.w_eqn, DL.w_eqr, DL.w_runP, DL.w_epn, DL.w_epr, DL.w_lqn, DL.w_lqc, DL.w_lqb, DL.w_lqr, DL.w_rg, DL.w_rng1, DL.w_sl, DL.w_oN, DL.w_iQ, DL.w_oS, DL.w_gSlL, DL.w_gSlB, DL.w_gSlW, DL.w_disp, DL.w_lc, DL.w_setLc, DL.w_puQ, DL.w_yes, DL.w_itN, DL.w_imL, DL.w_imT, DL.w_imWL, DL.w_imWT, DL.w_zqT, DL.w_zqL, DL.w_bls, DL.w_tyN, DL.w_tyB, DL.w_tyI, DL.w_tyS, DL.w_tyL, DL.w_tyT, DL.w_tyD, DL.w_isNN, DL.w_isNI, DL.w_isNB, DL.w_isNS, DL.w_isNT, DL.w_isNL, DL.w_evB, DL.w_evI, DL.w_shI, DL.w_shB, DL.w_shN, DL.w_wrI, DL.w_wrT, DL.w_wrL, DL.w_at0, DL.w_at1, DL.w_at2, DL.w_nmN, DL.w_listN, DL.w_limR, DL.w_lstN, DL.w_seN, DL.w_lsL, DL.w_lsB, DL.w_lsN, DL.w_catN, DL.w_addL, DL.w_addT, DL.w_slN, DL.w_gSlN, DL.w_lcN, DL.w_rsN1, DL.w_rsN2, DL.w_rsZ1, DL.w_rsZ2, DL.w_callO, DL.w_callZ, DL.w_eO1, DL.w_eO2, DL.w_eO3, DL.w_eO4, DL.w_runO, DL.w_app, DL.w_putB, DL.w_plA, DL.w_aug, DL.w_pq, DL.w_par, DL.w_chain, DL.w_ints, DL.w_inN, DL.w_inC, DL.w_inM, DL.w_pIntI, DL.w_pIntB, DL.w_tupL, DL.w_tupT, DL.w_tupB, DL.w_rg2, DL.w_rng2, DL.w_evT, DL.w_evL, DL.w_evA0, DL.w_evA1, DL.w_tix, DL.w_a3, DL.w_pMax3, DL.w_pMin3, DL.w_rev, DL.w_revN, DL.w_revB, DL.w_ext, DL.w_rawN, DL.w_rawB, DL.w_plE, DL.w_intsB, DL.w_at3, DL.w_pBB, DL.w_putBS, DL.w_chain3, List.getElem?_cons_zero, List.getElem?_cons_succ, List.set_cons_zero, List.set_cons_succ, ↓reduceIte, Bool.false_eq_true, List.any_cons, List.any_nil, Ty.is, Bool.or_false, hx, e1]
      simpa using q
    | tuple xs =>
      have h' : (xs.all (okS j) && decide (xs.length ≤ lim)) = true := h
      rw [Bool.and_eq_true, decide_eq_true_eq] at h'
      simp only [DL.w_bind, DL.w_some, DL.w_none, DL.w_var, DL.w_slv, DL.w_slo, DL.w_P, DL.w_D, DL.w_x1, DL.w_x2, DL.w_xA, DL.w_nil, DL.w_cons, DL.w_ite_x, DL.w_isi, DL.w_tOfE, DL.w_bD, DL.w_tNot, DL.w_tAnd, DL.w_tOr, DL.w_and, DL.w_or, DL.w_seq, DL.w_qnx, DL.w_qrt, DL.w_qbk, DL.w_qct, DL.w_sNil, DL.w_sBreak, DL.w_sCont, DL.w_sDrop, DL.w_asg, DL.w_set, DL.w_ret, DL.w_retN, DL.w_if, DL.w_for, DL.w_fq, DL.w_fqo, DL.w_fqv, DL.w_nmP, DL.w_nmW, DL.w_nmR, DL.w_gnNil, DL.w_gtNil, DL.w_gnCons, DL.w_gtCons, DL.w_pwN, DL.w_pwP, DL.w_pwW, DL.w_gtLst, DL.w_gSubT, DL.w_s1, DL.w_s2, DL.w_pI, DL.w_pIB, DL.w_pNeg, DL.w_pAbs, DL.w_pDm, DL.w_a1, DL.w_a2, DL.w_add, DL.w_not, DL.w_ixL, DL.w_ixT, DL.w_ixB, DL.w_ixWL, DL.w_ixWT, DL.w_getT, DL.w_getL, DL.w_getB, DL.w_getW, DL.w_keyS, DL.w_keyI, DL.w_lkN, DL.w_lkC, DL.w_lenL, DL.w_lenT, DL.w_lenB, DL.w_puN, DL.w_puC, DL.w_puM, DL.w_tup, DL.w_lst, DL.w_list, DL.w_listC, DL.w_lstC, DL.w_seL, DL.w_seT, DL.w_seWL, DL.w_seWT, DL.w_seB, DL.w_eq, DL.w_callF, DL.w_callP, DL.w_runF, DL.w_eqn, DL.w_eqr, DL.w_runP, DL.w_epn, DL.w_epr, DL.w_lqn, DL.w_lqc, DL.w_lqb, DL.w_lqr, DL.w_rg, DL.w_rng1, DL.w_sl, DL.w_oN, DL.w_iQ, DL.w_oS, DL.w_gSlL, DL.w_gSlB, DL.w_gSlW, DL.w_disp, DL.w_lc, DL.w_setLc, DL.w_puQ, DL.w_yes, DL.w_itN, DL.w_imL, DL.w_imT, DL.w_imWL, DL.w_imWT, DL.w_zqT, DL.w_zqL, DL.w_bls, DL.w_tyN, DL.w_tyB, DL.w_tyI, DL.w_tyS, DL.w_tyL, DL.w_tyT, DL.w_tyD, DL.w_isNN, DL.w_isNI, DL.w_isNB, DL.w_isNS, DL.w_isNT, DL.w_isNL, DL.w_evB, DL.w_evI, DL.w_shI, DL.w_shB, DL.w_shN, DL.w_wrI, DL.w_wrT, DL.w_wrL, DL.w_at0, DL.w_at1, DL.w_at2, DL.w_nmN, DL.w_listN, DL.w_limR, DL.w_lstN, DL.w_seN, DL.w_lsL, DL.w_lsB, DL.w_lsN, DL.w_catN, DL.w_addL, DL.w_addT, DL.w_slN, DL.w_gSlN, DL.w_lcN, DL.w_rsN1, DL.w_rsN2, DL.w_rsZ1, DL.w_rsZ2, DL.w_callO, DL.w_callZ, DL.w_eO1, DL.w_eO2, DL.w_eO3, DL.w_eO4, DL.w_runO, DL.w_app, DL.w_putB, DL.w_plA, DL.w_aug, DL.w_pq, DL.w_par, DL.w_chain, DL.w_ints, DL.w_inN, DL.w_inC, DL.w_inM, DL.w_pIntI, DL.w_pIntB, DL.w_tupL, DL.w_tupT, DL.w_tupB, DL.w_rg2, DL.w_rng2, DL.w_evT, DL.w_evL, DL.w_evA0, DL.w_evA1, DL.w_tix, DL.w_a3, DL.w_pMax3, DL.w_pMin3, DL.w_rev, DL.w_revN, DL.w_revB, DL.w_ext, DL.w_rawN, DL.w_rawB, DL.w_plE, DL.w_intsB, DL.w_at3, DL.w_pBB, DL.w_putBS, DL.w_chain3, List.getElem?_cons_zero, List.getElem?_cons_succ, List.set_cons_zero, List.set_cons_succ, ↓reduceIte, Bool.false_eq_true, List.any_cons, List.any_nil, Ty.is, Bool.or_false, beq_self_eq_true, Bool.not_true, Bool.and_self, decide_true, true_and]
      refine zip_of ?_
      simp only [DL.w_bind, DL.w_some, DL.w_none, DL.w_var, DL.w_slv, DL.w_slo, DL.w_P, DL.w_D, DL.w_x1, DL.w_x2, DL.w_xA, DL.w_nil, DL.w_cons, DL.w_ite_x, DL.w_isi, DL.w_tOfE, DL.w_bD, DL.w_tNot, DL.w_tAnd, DL.w_tOr, DL.w_and, DL.w_or, DL.w_seq, DL.w_qnx, DL.w_qrt, DL.w_qbk, DL.w_qct, DL.w_sNil, DL.w_sBreak, DL.w_sCont, DL.w_sDrop, DL.w_asg, DL.w_set, DL.w_ret, DL.w_retN, DL.w_if, DL.w_for, DL.w_fq, DL.w_fqo, DL.w_fqv, DL.w_nmP, DL.w_nmW, DL.w_nmR, DL.w_gnNil, DL.w_gtNil, DL.w_gnCons, DL.w_gtCons, DL.w_pwN, DL.w_pwP, DL.w_pwW, DL.w_gtLst, DL.w_gSubT, DL.w_s1, DL.w_s2, DL.w_pI, DL.w_pIB, DL.w_pNeg, DL.w_pAbs, DL.w_pDm, DL.w_a1, DL.w_a2, DL.w_add, DL.w_not, DL.w_ixL, DL.w_ixT, DL.w_ixB, DL.w_ixWL, DL.w_ixWT, DL.w_getT, DL.w_getL, DL.w_getB, DL.w_getW, DL.w_keyS, DL.w_keyI, DL.w_lkN, DL.w_lkC, DL.w_lenL, DL.w_lenT, DL.w_lenB, DL.w_puN, DL.w_puC, DL.w_puM, DL.w_tup, DL.w_lst, DL.w_list, DL.w_listC, DL.w_lstC, DL.w_seL, DL.w_seT, DL.w_seWL, DL.w_seWT, DL.w_seB, DL.w_eq, DL.w_callF, DL.w_callP, DL.w_runF, DL.w_eqn, DL.w_eqr, DL.w_runP, DL.w_epn, DL.w_epr, DL.w_lqn, DL.w_lqc, DL.w_lqb, DL.w_lqr, DL.w_rg, DL.w_rng1, DL.w_sl, DL.w_oN, DL.w_iQ, DL.w_oS, DL.w_gSlL, DL.w_gSlB, DL.w_gSlW, DL.w_disp, DL.w_lc, DL.w_setLc, DL.w_puQ, DL.w_yes, DL.w_itN, DL.w_imL, DL.w_imT, DL.w_imWL, DL.w_imWT, DL.w_zqT, DL.w_zqL, DL.w_bls, DL.w_tyN, DL.w_tyB, DL.w_tyI, DL.w_tyS, DL.w_tyL, DL.w_tyT, DL.w_tyD, DL.w_isNN, DL.w_isNI, DL.w_isNB, DL.w_isNS, DL.w_isNT, DL.w_isNL, DL.w_evB, DL.w_evI, DL.w_shI, DL.w_shB, DL.w_shN, DL.w_wrI, DL.w_wrT, DL.w_wrL, DL.w_at0, DL.w_at1, DL.w_at2, DL.w_nmN, DL.w_listN, DL.w_limR, DL.w_lstN, DL.w_seN, DL.w_lsL, DL.w_lsB, DL.w_lsN, DL.w_catN, DL.w_addL, DL.w_addT, DL.w_slN, DL.w_gSlN, DL.w_lcN, DL.w_rsN1, DL.w_rsN2, DL.w_rsZ1, DL.w_rsZ2, DL.w_callO, DL.w_callZ, DL.w_eO1, DL.w_eO2, DL.w_eO3, DL.w_eO4, DL.w_runO, DL.w_app, DL.w_putB, DL.w_plA, DL.w_aug, DL.w_pq, DL.w_par, DL.w_chain, DL.w_ints, DL.w_inN, DL.w_inC, DL.w_inM, DL.w_pIntI, DL.w_pIntB, DL.w_tupL, DL.w_tupT, DL.w_tupB, DL.w_rg2, DL.w_rng2, DL.w_evT, DL.w_evL, DL.w_evA0, DL.w_evA1, DL.w_tix, DL.w_a3, DL.w_pMax3, DL.w_pMin3, DL.w_rev, DL.w_revN, DL.w_revB, DL.w_ext, DL.w_rawN, DL.w_rawB, DL.w_plE, DL.w_intsB, DL.w_at3, DL.w_pBB, DL.w_putBS, DL.w_chain3, List.getElem?_cons_zero, List.getElem?_cons_succ, List.set_cons_zero, List.set_cons_succ, ↓reduceIte, Bool.false_eq_true]
      exact same_seq (Q := fun r => match r.1 with | .pu p => Q p | _ => False) (.inr ⟨_, _, rfl⟩) (fun p hp => ih p (List.all_eq_true.mp h'.1 p hp)) h'.2 q
    | list xs =>
      have h' : (xs.all (okS j) && decide (xs.length ≤ lim)) = true := h
      rw [Bool.and_eq_true, decide_eq_true_eq] at h'
      simp only [DL.w_bind, DL.w_some, DL.w_none, DL.w_var, DL.w_slv, DL.w_slo, DL.w_P, DL.w_D, DL.w_x1, DL.w_x2, DL.w_xA, DL.w_nil, DL.w_cons, DL.w_ite_x, DL.w_isi, DL.w_tOfE, DL.w_bD, DL.w_tNot, DL.w_tAnd, DL.w_tOr, DL.w_and, DL.w_or, DL.w_seq, DL.w_qnx, DL.w_qrt, DL.w_qbk, DL.w_qct, DL.w_sNil, DL.w_sBreak, DL.w_sCont, DL.w_sDrop, DL.w_asg, DL.w_set, DL.w_ret, DL.w_retN, DL.w_if, DL.w_for, DL.w_fq, DL.w_fqo, DL.w_fqv, DL.w_nmP, DL.w_nmW, DL.w_nmR, DL.w_gnNil, DL.w_gtNil, DL.w_gnCons, DL.w_gtCons, DL.w_pwN, DL.w_pwP, DL.w_pwW, DL.w_gtLst, DL.w_gSubT, DL.w_s1, DL.w_s2, DL.w_pI, DL.w_pIB, DL.w_pNeg, DL.w_pAbs, DL.w_pDm, DL.w_a1, DL.w_a2, DL.w_add, DL.w_not, DL.w_ixL, DL.w_ixT, DL.w_ixB, DL.w_ixWL, DL.w_ixWT, DL.w_getT, DL.w_getL, DL.w_getB, DL.w_getW, DL.w_keyS, DL.w_keyI, DL.w_lkN, DL.w_lkC, DL.w_lenL, DL.w_lenT, DL.w_lenB, DL.w_puN, DL.w_puC, DL.w_puM, DL.w_tup, DL.w_lst, DL.w_list, DL.w_listC, DL.w_lstC, DL.w_seL, DL.w_seT, DL.w_seWL, DL.w_seWT, DL.w_seB, DL.w_eq, DL.w_callF, DL.w_callP, DL.w_runF, DL.w_eqn, DL.w_eqr, DL.w_runP, DL.w_epn, DL.w_epr, DL.w_lqn, DL.w_lqc, DL.w_lqb, DL.w_lqr, DL.w_rg, DL.w_rng1, DL.w_sl, DL.w_oN, DL.w_iQ, DL.w_oS, DL.w_gSlL, DL.w_gSlB, DL.w_gSlW, DL.w_disp, DL.w_lc, DL.w_setLc, DL.w_puQ, DL.w_yes, DL.w_itN, DL.w_imL, DL.w_imT, DL.w_imWL, DL.w_imWT, DL.w_zqT, DL.w_zqL, DL.w_bls, DL.w_tyN, DL.w_tyB, DL.w_tyI, DL.w_tyS, DL.w_tyL, DL.w_tyT, DL.w_tyD, DL.w_isNN, DL.w_isNI, DL.w_isNB, DL.w_isNS, DL.w_isNT, DL.w_isNL, DL.w_evB, DL.w_evI, DL.w_shI, DL.w_shB, DL.w_shN, DL.w_wrI, DL.w_wrT, DL.w_wrL, DL.w_at0, DL.w_at1, DL.w_at2, DL.w_nmN, DL.w_listN, DL.w_limR, DL.w_lstN, DL.w_seN, DL.w_lsL, DL.w_lsB, DL.w_lsN, DL.w_catN, DL.w_addL, DL.w_addT, DL.w_slN, DL.w_gSlN, DL.w_lcN, DL.w_rsN1, DL.w_rsN2, DL.w_rsZ1, DL.w_rsZ2, DL.w_callO, DL.w_callZ, DL.w_eO1, DL.w_eO2, DL.w_eO3, DL.w_eO4, DL.w_runO, DL.w_app, DL.w_putB, DL.w_plA, DL.w_aug, DL.w_pq, DL.w_par, DL.w_chain, DL.w_ints, DL.w_inN, DL.w_inC, DL.w_inM, DL.w_pIntI, DL.w_pIntB, DL.w_tupL, DL.w_tupT, DL.w_tupB, DL.w_rg2, DL.w_rng2, DL.w_evT, DL.w_evL, DL.w_evA0, DL.w_evA1, DL.w_tix, DL.w_a3, DL.w_pMax3, DL.w_pMin3, DL.w_rev, DL.w_revN, DL.w_revB, DL.w_ext, DL.w_rawN, DL.w_rawB, DL.w_plE, DL.w_intsB, DL.w_at3, DL.w_pBB, DL.w_putBS, DL.w_chain3, List.getElem?_cons_zero, List.getElem?_cons_succ, List.set_cons_zero, List.set_cons_succ, ↓reduceIte, Bool.false_eq_true, List.any_cons, List.any_nil, Ty.is, Bool.or_false, beq_self_eq_true, Bool.not_true, Bool.and_self, decide_true, true_and]
      refine zip_of ?_
      simp only [DL.w_bind, DL.w_some, DL.w_none, DL.w_var, DL.w_slv, DL.w_slo, DL.w_P, DL.w_D, DL.w_x1, DL.w_x2, DL.w_xA, DL.w_nil, DL.w_cons, DL.w_ite_x, DL.w_isi, DL.w_tOfE, DL.w_bD, DL.w_tNot, DL.w_tAnd, DL.w_tOr, DL.w_and, DL.w_or, DL.w_seq, DL.w_qnx, DL.w_qrt, DL.w_qbk, DL.w_qct, DL.w_sNil, DL.w_sBreak, DL.w_sCont, DL.w_sDrop, DL.w_asg, DL.w_set, DL.w_ret, DL.w_retN, DL.w_if, DL.w_for, DL.w_fq, DL.w_fqo, DL.w_fqv, DL.w_nmP, DL.w_nmW, DL.w_nmR, DL.w_gnNil, DL.w_gtNil, DL.w_gnCons, DL.w_gtCons, DL.w_pwN, DL.w_pwP, DL.w_pwW, DL.w_gtLst, DL.w_gSubT, DL.w_s1, DL.w_s2, DL.w_pI, DL.w_pIB, DL.w_pNeg, DL.w_pAbs, DL.w_pDm, DL.w_a1, DL.w_a2, DL.w_add, DL.w_not, DL.w_ixL, DL.w_ixT, DL.w_ixB, DL.w_ixWL, DL.w_ixWT, DL.w_getT, DL.w_getL, DL.w_getB, DL.w_getW, DL.w_keyS, DL.w_keyI, DL.w_lkN, DL.w_lkC, DL.w_lenL, DL.w_lenT, DL.w_lenB, DL.w_puN, DL.w_puC, DL.w_puM, DL.w_tup, DL.w_lst, DL.w_list, DL.w_listC, DL.w_lstC, DL.w_seL, DL.w_seT, DL.w_seWL, DL.w_seWT, DL.w_seB, DL.w_eq, DL.w_callF, DL.w_callP, DL.w_runF, DL.w_eqn, DL.w_eqr, DL.w_runP, DL.w_epn, DL.w_epr, DL.w_lqn, DL.w_lqc, DL.w_lqb, DL.w_lqr, DL.w_rg, DL.w_rng1, DL.w_sl, DL.w_oN, DL.w_iQ, DL.w_oS, DL.w_gSlL, DL.w_gSlB, DL.w_gSlW, DL.w_disp, DL.w_lc, DL.w_setLc, DL.w_puQ, DL.w_yes, DL.w_itN, DL.w_imL, DL.w_imT, DL.w_imWL, DL.w_imWT, DL.w_zqT, DL.w_zqL, DL.w_bls, DL.w_tyN, DL.w_tyB, DL.w_tyI, DL.w_tyS, DL.w_tyL, DL.w_tyT, DL.w_tyD, DL.w_isNN, DL.w_isNI, DL.w_isNB, DL.w_isNS, DL.w_isNT, DL.w_isNL, DL.w_evB, DL.w_evI, DL.w_shI, DL.w_shB, DL.w_shN, DL.w_wrI, DL.w_wrT, DL.w_wrL, DL.w_at0, DL.w_at1, DL.w_at2, DL.w_nmN, DL.w_listN, DL.w_limR, DL.w_lstN, DL.w_seN, DL.w_lsL, DL.w_lsB, DL.w_lsN, DL.w_catN, DL.w_addL, DL.w_addT, DL.w_slN, DL.w_gSlN, DL.w_lcN, DL.w_rsN1, DL.w_rsN2, DL.w_rsZ1, DL.w_rsZ2, DL.w_callO, DL.w_callZ, DL.w_eO1, DL.w_eO2, DL.w_eO3, DL.w_eO4, DL.w_runO, DL.w_app, DL.w_putB, DL.w_plA, DL.w_aug, DL.w_pq, DL.w_par, DL.w_chain, DL.w_ints, DL.w_inN, DL.w_inC, DL.w_inM, DL.w_pIntI, DL.w_pIntB, DL.w_tupL, DL.w_tupT, DL.w_tupB, DL.w_rg2, DL.w_rng2, DL.w_evT, DL.w_evL, DL.w_evA0, DL.w_evA1, DL.w_tix, DL.w_a3, DL.w_pMax3, DL.w_pMin3, DL.w_rev, DL.w_revN, DL.w_revB, DL.w_ext, DL.w_rawN, DL.w_rawB, DL.w_plE, DL.w_intsB, DL.w_at3, DL.w_pBB, DL.w_putBS, DL.w_chain3, List.getElem?_cons_zero, List.getElem?_cons_succ, List.set_cons_zero, List.set_cons_succ, ↓reduceIte, Bool.false_eq_true]
      exact same_seq (Q := fun r => match r.1 with | .pu p => Q p | _ => False) (.inr ⟨_, _, rfl⟩) (fun p hp => ih p (List.all_eq_true.mp h'.1 p hp)) h'.2 q
theorem at_mem {α : Type} {xs : List α} {k : Int} {Q : α → Prop} (h0 : 0 ≤ k) (h1 : k < xs.length) (q : ∀ z ∈ xs, Q z) : W (atI xs k) Q := by
  have hk : k.toNat < xs.length := by omega
  exact w_at k.toNat (by omega) (List.getElem?_eq_getElem hk) (q _ (List.getElem_mem hk))
theorem St.mono {S : Sto} {n : Nat} {T T' : Int} (h : St S n T) (l : T ≤ T') : St S n T' := let ⟨c, cells, t, h1, h2⟩ := h; ⟨c, cells, t, h1, by omega⟩
end DL
/-! DM4: d != {} of a dict. -/
namespace DL
open PySem PySem.Spec PyProof.Rows L2
section
variable {prog : Program} {w : World} {A : Around} {E : Value → Shared → Prop} {s : Shared}
def DOb (h : Heap) (a : Addr) (n : Nat) : Prop := (a == sysModules) = false ∧ ∃ o es ep, h.get? a = some o ∧ o.cls = .type "dict" ∧ o.data = .dict es ep ∧ es.size = n
theorem same0 {nm : String} {a b : Addr} {n : Nat} {Q : Bool → Shared → Prop} (da : DOb s.heap a n) (db : DOb s.heap b 0) (h : Q (n == 0) s) :
    wpAny (model prog w) A (Builtin.Dict.samePairs nm a b) Q E s := by
  obtain ⟨ha, oa, es, ep, hoa, hca, hda, hla⟩ := da
  obtain ⟨hb, ob, es', ep', hob, hcb, hdb, hlb⟩ := db
  unfold Builtin.Dict.samePairs Builtin.Dict.showsAll
  rw [if_neg (show ¬ (a == sysModules) = true by rw [ha]; exact Bool.false_ne_true), if_neg (show ¬ (b == sysModules) = true by rw [hb]; exact Bool.false_ne_true)]
  refine wpAny_bind (wpAny_pure (wpAny_bind (wpAny_pure ?_)))
  refine wpAny_bind (wpAny_dictEntries hoa hda ?_)
  dsimp only
  refine wpAny_bind (wpAny_dictEntries hob hdb ?_)
  by_cases hsz : n = 0
  · rw [if_neg (by rw [hla, hlb, hsz]; simp)]
    refine wpAny_bind (wpAny_dictEpoch hoa hda ?_)
    refine wpAny_bind ?_
    rw [Std.Legacy.Range.forIn_eq_forIn_range', hla, hsz]
    subst hsz
    exact wpAny_pure (wpAny_pure h)
  · rw [if_pos (by rw [hla, hlb]; simpa using hsz)]
    have : (n == 0) = false := by simpa using hsz
    rw [this] at h
    exact wpAny_bind (wpAny_rule (wpAny_pure h))
theorem ne0 {a b : Addr} {n : Nat} {Q : Value → Shared → Prop} (da : DOb s.heap a n) (db : DOb s.heap b 0) (hu : A.units < cLine) (h : Q (.bool (!(n == 0))) s) : wpAny (model prog w) A (compareOp .NotEq (.ref a) (.ref b)) Q E s := by
  have ta : s.TypeIs (.ref a) "dict" := let ⟨_, o, es, ep, h1, h2, _⟩ := da; ⟨o, h1, h2⟩
  have tb : s.TypeIs (.ref b) "dict" := let ⟨_, o, es, ep, h1, h2, _⟩ := db; ⟨o, h1, h2⟩
  refine wpAny_richCompare_same_room (op := .NotEq) ta tb PySem.F.slot_dict_ne (wpAny_call_entry PySem.F.slot_dict_ne ta PySem.F.entry_dict_ne ?_ (PySem.F.args_dict_ne_2 _ _)) hu
  show wpAny _ _ (Builtin.Dict.dictSlotArgs "__ne__" ⟨[.ref a, .ref b], []⟩ >>= _) _ _ s
  refine wpAny_bind ?_
  unfold Builtin.Dict.dictSlotArgs
  refine wpAny_bind (wpAny_notOrdered_dict ta ?_)
  show wpAny _ _ (pure (Value.ref a, Value.ref b)) _ _ s
  refine wpAny_pure ?_
  refine wpAny_bind (wpAny_isInstance (T := "dict") tb PySem.F.sub_dict_dict ?_)
  simp only [Bool.not_true, Bool.false_eq_true, if_false]
  refine wpAny_bind (wpAny_pure (wpAny_bind (wpAny_pure ?_)))
  refine wpAny_bind (same0 da db ?_)
  refine wpAny_pure ⟨_, rfl, ?_, ?_⟩
  · exact fun x => nomatch x
  · simpa using h
end
section
variable {X : Cx} {G : Gx} {σ : L2.St} {H : Hp} {e : Envi} {S : Sto} {f : Nat → Addr}
def RdN (H : Hp) (a : Addr) (n : Nat) : Prop := (∃ kvs, Rd H a (.dK kvs) ∧ kvs.length = n) ∨ ∃ kvs, Rd H a (.dT kvs) ∧ kvs.length = n
theorem RdN.ob {P : Program} {w : World} {h : Heap} {a : Addr} {n : Nat} (ok : HOk P w H h) (r : RdN H a n) : DOb h a n := by
  rcases r with ⟨kvs, r, e⟩ | ⟨kvs, r, e⟩
  · obtain ⟨z, hd, vs, rk, o, es, ep, ho, ⟨hc, _⟩, hdat, hk, hp, _⟩ := dk_rd ok r
    refine ⟨hd, o, es, ep, ho, hc, hdat, ?_⟩
    rw [← e, Paired.length rk, ← hp.length]
    simp
  · obtain ⟨z, hd, ys, rel, o, es, ep, ho, ⟨hc, _⟩, hdat, he, _⟩ := dt_rd ok r
    refine ⟨hd, o, es, ep, ho, hc, hdat, ?_⟩
    rw [← e, Paired.length rel, size_of_entries he]
def rNe0 : R2 := fun x y H Q => ∃ a b n, x = .ref a ∧ y = .ref b ∧ RdN H a n ∧ RdN H b 0 ∧ Q (.bl (!(n == 0))) H
theorem op_ne0 (hu : X.A.units < cLine) : OpR X (compareOp .NotEq) rNe0 := by
  intro pins s σ H x y v u Q I rx ry h
  obtain ⟨a, b, n, rfl, rfl, ra, rb, q⟩ := h
  obtain rfl : v = Value.ref a := rx
  obtain rfl : u = Value.ref b := ry
  exact ne0 (ra.ob I.hok) (rb.ob I.hok) hu ⟨.bl _, H, I, rfl, q⟩
def gNe0 (d1 d2 : D) (S : Sto) : Option (D × Sto) := (dicD d1 S).bind fun ps => match d2 with
  | .pu (.dict []) => some (.pu (.bool (!(ps.length == 0))), S)
  | _ => none
theorem v_ne0 : V2 G rNe0 gNe0 := by
  intro σ H e S f x y dx dy d S' Q r0 rx ry hg q
  obtain ⟨ps, h1, hg⟩ := Option.bind_eq_some_iff.mp hg
  split at hg
  · cases hg
    obtain ⟨a, rfl, ha⟩ := dic_ok r0 rx h1
    obtain ⟨b, rfl, hb⟩ := dic_ok (ps := []) r0 ry rfl
    refine ⟨a, b, ps.length, rfl, rfl, ?_, ?_, .inl (q _ H f r0 (.refl _ _ _) (.bl _))⟩
    · rcases ha with ⟨kvs, h, k⟩ | ⟨kvs, h, k⟩
      · exact .inl ⟨kvs, h, Paired.length k⟩
      · exact .inr ⟨kvs, h, Paired.length k⟩
    · rcases hb with ⟨kvs, h, k⟩ | ⟨kvs, h, k⟩
      · exact .inl ⟨kvs, h, Paired.length k⟩
      · exact .inr ⟨kvs, h, Paired.length k⟩
  · cases hg
end
end DL
/-! DM7: x in d, x not in d, where d may be empty (x a tuple). -/
namespace DL
open PySem PySem.Spec PyProof.Rows L2
section
variable {X : Cx} {G : Gx} {σ : L2.St} {H : Hp} {e : Envi} {S : Sto} {f : Nat → Addr}
theorem empty_keys {P : Program} {w : World} {h : Heap} {a : Addr} (ok : HOk P w H h) (r : RdN H a 0) : (a == sysModules) = false ∧ h.DictOfH (tupleKind (mixKind P w)) a [] := by
  rcases r with ⟨kvs, r, e⟩ | ⟨kvs, r, e⟩
  · have ez : kvs = [] := List.length_eq_zero_iff.mp e
    subst ez
    obtain ⟨z, hd, vs, rk, o, es, ep, ho, hc, hdat, hk, hp, _⟩ := dk_rd ok r
    cases rk
    refine ⟨hd, o, es, ep, ho, hc, hdat, ?_, fun x hx => (by cases hx), List.nodup_nil⟩
    have := hp.length
    exact List.length_eq_zero_iff.mp (by simpa using this)
  · have ez : kvs = [] := List.length_eq_zero_iff.mp e
    subst ez
    obtain ⟨z, hd, ys, rel, dd⟩ := dt_rd ok r
    cases rel
    exact ⟨hd, dd⟩
def rInE (neg : Bool) : R2 := fun x y H Q => ∃ a b ks, y = .ref a ∧ x = .ref b ∧ H b = some (.tup (List.map kV ks)) ∧ RdN H a 0 ∧ Q (.bl neg) H
def rInZ (neg : Bool) (K : PySem.W.Frag) : R2 := fun x y H Q => rInX neg K x y H Q ∨ rInE neg x y H Q
theorem op_inZ (hu : X.A.units + 65 < cLine) : OpR X (compareOp .In) (rInZ false X.K) := by
  intro pins s σ H x y v u Q I rx ry h
  rcases h with h | ⟨a, b, ks, rfl, rfl, hb, hr, q⟩
  · exact op_inX hu pins s σ H x y v u Q I rx ry h
  · obtain rfl : u = .ref a := ry
    obtain rfl : v = .ref b := rx
    obtain ⟨hd, dd⟩ := empty_keys I.hok hr
    exact wpAny_in_heap (tupleKind_room_in1 (by omega)) (key_of I.hok hb) hd dd ⟨.bl false, H, I.tok _, rfl, q⟩
theorem op_notInZ (hu : X.A.units + 65 < cLine) : OpR X (compareOp .NotIn) (rInZ true X.K) := by
  intro pins s σ H x y v u Q I rx ry h
  rcases h with h | ⟨a, b, ks, rfl, rfl, hb, hr, q⟩
  · exact op_notInX hu pins s σ H x y v u Q I rx ry h
  · obtain rfl : u = .ref a := ry
    obtain rfl : v = .ref b := rx
    obtain ⟨hd, dd⟩ := empty_keys I.hok hr
    exact wpAny_notIn_heap (tupleKind_room_in1 (by omega)) (key_of I.hok hb) hd dd ⟨.bl true, H, I.tok _, rfl, q⟩
/-- in, of dicts; an empty one holds no tuple -/
def gInZ (neg : Bool) (d1 d2 : D) (S : Sto) : Option (D × Sto) := match dicD d2 S, d1 with
  | some [], .pu (.tuple xs) => (flatKs xs).bind fun _ => some (.pu (.bool neg), S)
  | _, _ => gInX neg d1 d2 S
theorem v_inZ {neg : Bool} (hK : X.K = G.K) : V2 G (rInZ neg X.K) (gInZ neg) := by
  intro σ H e S f x y dx dy d S' Q r0 rx ry hg q
  unfold gInZ at hg
  split at hg
  · rename_i xs hd
    obtain ⟨ks, hk, hg⟩ := Option.bind_eq_some_iff.mp hg
    cases hg
    have ek := flatKs_eq hk
    subst ek
    cases (show Rep H x (.tuple (ks.map keyP)) from rx) with
    | tup hb hbs =>
      rename_i b vs
      have e5 := rep_keys hbs
      subst e5
      obtain ⟨a, rfl, h⟩ := dic_ok r0 ry hd
      refine .inr ⟨a, b, ks, rfl, rfl, hb, ?_, .inl (q _ H f r0 (.refl _ _ _) (.bl _))⟩
      rcases h with ⟨kvs, h, kp⟩ | ⟨kvs, h, kp⟩
      · exact .inl ⟨kvs, h, Paired.length kp⟩
      · exact .inr ⟨kvs, h, Paired.length kp⟩
  · exact .inl (v_inX hK σ H e S f x y _ _ d S' Q r0 rx ry hg q)
theorem inZ_as {neg : Bool} {qs : List T3} {a : T3} {Q : D × Sto → Prop} (q : Q (.pu (.bool (if neg then !decide (a ∈ qs) else decide (a ∈ qs))), S)) : W (gInZ neg (.pu (qe a)) (.pu (.dict (asD qe qs))) S) Q := by
  cases qs with
  | nil =>
    have e : (if neg = true then !decide (a ∈ ([] : List T3)) else decide (a ∈ ([] : List T3))) = neg := by cases neg <;> simp
    rw [e] at q
    exact w_some.mpr q
  | cons b qs =>
    show W (gInX neg (.pu (qe a)) (.pu (.dict (asD qe (b :: qs)))) S) Q
    refine in_as enc_q (List.cons_ne_nil _ _) ?_
    cases neg with
    | true =>
      rw [if_pos rfl] at q ⊢
      by_cases h : a ∈ b :: qs <;> simpa [h] using q
    | false =>
      rw [if_neg (by decide)] at q ⊢
      by_cases h : a ∈ b :: qs <;> simpa [h] using q
theorem inZ_bo {neg : Bool} {i : Nat} {qs : List T3} {a : T3} {Q : D × Sto → Prop} (q : Q (.pu (.bool (if neg then !decide (a ∈ qs) else decide (a ∈ qs))), S)) : W (gInZ neg (.pu (qe a)) (.bo i (.dct (asD qe qs))) S) Q := by
  have h : gInZ neg (.pu (qe a)) (.bo i (.dct (asD qe qs))) S = gInZ neg (.pu (qe a)) (.pu (.dict (asD qe qs))) S := rfl
  rw [h]
  exact inZ_as q
theorem w_inZL {neg : Bool} {a : P} {ds : List P} {Q : D × Sto → Prop} : W (gInZ neg (.pu a) (.pu (.list ds)) S) Q ↔ W (gIn neg (.pu a) (.pu (.list ds)) S) Q := Iff.rfl
end
end DL
/-! DM8: dict(xs) of pairs, new. -/
namespace DL
open PySem PySem.Spec PyProof.Rows L2
section
variable {X : Cx} {G : Gx} {S : Sto}
def gDictN : List D → Sto → Option (D × Sto)
  | [d], S => (seqD d S).bind fun q => if q.1 = true then none else (pusOf q.2).bind fun xs => (prsD xs).bind fun prs => if (tkeys prs).isSome then some (.nw (.dct (dmP [] prs)), S) else none
  | _, _ => none
theorem v_dictN (hK : X.K = G.K) : VA G (fun xs H Q => rDictT X.K xs H Q ∨ rDictP X.K xs H Q) gDictN := by
  intro σ H e S f vs ds d S' Q r0 rs hg q
  match ds, rs with
  | [dx], .cons (a := x) rx .nil =>
    obtain ⟨⟨k, is⟩, h1, hg⟩ := Option.bind_eq_some_iff.mp (show (seqD dx S).bind _ = _ from hg)
    cases k with
    | true => cases hg
    | false =>
      obtain ⟨xs, h2, hg⟩ := Option.bind_eq_some_iff.mp (show (pusOf is).bind _ = _ from hg)
      obtain ⟨prs, h3, hg⟩ := Option.bind_eq_some_iff.mp hg
      have e2 := pusOf_eq h2
      subst e2
      obtain ⟨a, us, rfl, ht, hl, hp⟩ := seq_ok r0 rx h1
      obtain ⟨as, vs, rfl, p1, p2⟩ := pairs_rep xs us prs (rd_reps hp) h3
      by_cases c : (tkeys prs).isSome = true
      · replace hg := ‹(if (tkeys prs).isSome = true then some (D.nw (.dct (dmP [] prs)), S) else none) = some (d, S')›
        rw [if_pos c] at hg
        cases hg
        rw [hK]
        obtain ⟨kss, hk⟩ := Option.isSome_iff_exists.mp c
        obtain ⟨kvs, q1, q2⟩ := pairs_T as vs prs kss p1 p2 hk
        refine .inl ⟨a, as, kvs, rfl, hl rfl, Paired.mapP q1 fun _ _ ⟨b, z1, z2⟩ => ⟨b, SqT.of z1, z2⟩, fun p np => ?_⟩
        have tp := TP'.merge kvs [] prs [] q2 .nil
        exact .inl (q _ _ f (r0.same (upd_new np)) (.of (upd_new np) _ _) (RE.fresh r0 np ⟨qT (mergeT [] kvs), .inr ⟨_, upd_same, rfl⟩, RepL.ext (.of (upd_new np)) (RepL.un tp.to.1), tp.to.2⟩))
      · replace hg := ‹(if (tkeys prs).isSome = true then some (D.nw (.dct (dmP [] prs)), S) else none) = some (d, S')›
        rw [if_neg c] at hg
        cases hg
  | [], _ => cases hg
  | _ :: _ :: _, _ => cases hg
theorem w_dictN {xs : List P} {Q : D × Sto → Prop} : W (gDictN [.pu (.list xs)] S) Q ↔ W (prsD xs) fun prs => (tkeys prs).isSome = true ∧ Q (.nw (.dct (dmP [] prs)), S) := by
  show W ((pusOf (xs.map D.pu)).bind fun xs => (prsD xs).bind fun prs => if (tkeys prs).isSome = true then some (D.nw (.dct (dmP [] prs)), S) else none) Q ↔ _
  rw [pus_map, Option.bind_some, w_bind]
  refine ⟨fun h => h.imp fun q h => ?_, fun h => h.imp fun q h => ?_⟩
  · by_cases c : (tkeys q).isSome = true
    · rw [if_pos c] at h; exact ⟨c, w_some.mp h⟩
    · rw [if_neg c] at h; exact (w_none.mp h).elim
  · rw [if_pos h.1]; exact w_some.mpr h.2
end
end DL
/-! DM2: d.pop(k, x) of a dict that stands by itself, its keys tuples, what it tells thrown away. -/
namespace DT
open PySem PySem.Spec PyProof.Rows L2
section
variable {K : Type} [DecidableEq K] {prog : Program} {w : World} {knd : HeapKind prog w K}
/-- d.pop(k), the key being there -/
theorem meetsPop1 {d b : Addr} {k : K} (hd : (d == sysModules) = false) :
    MeetsIn prog w (Builtin.«dict.pop» ⟨[.ref d, .ref b], []⟩) (fun A R s => ∃ xs p, knd.room A.in1 ∧ knd.is s.heap k b ∧ s.heap.DictOfH knd d xs ∧ xs.length ≤ sizeLine ∧ atKey xs k = some p ∧
      ∀ h' tk, h'.DictOfH knd d (dropH xs k) → Heap.SameBut d s.heap h' → R (.ok (.ret p.2)) { s with heap := h', toks := tk }) :=
  .of_wp fun A R s ⟨xs, p, hu, hkey, hm, hsz, hp, hsome⟩ => by
    obtain ⟨o, es, ep, ho, hc, hdat, he, his, hn⟩ := id hm
    have hes : es.size = xs.length := size_of_entries he
    have hpart : (keyPart (Value.ref b)).isSome = false := rfl
    unfold Builtin.«dict.pop»
    refine wpAny_bind ?_
    unfold Builtin.Dict.keyAndDefault
    refine wpAny_bind (wpAny_notOrdered_dict hm.typeIs ?_)
    show wpAny _ _ (pure (d, Value.ref b, none)) _ _ s
    refine wpAny_pure ?_
    simp only [hpart, Bool.false_eq_true, if_false]
    refine wpAny_bind (wpAny_dictEntries ho hdat (wpAny_bind (wpAny_pure ?_)))
    cases hem : es.isEmpty with
    | true =>
      have h0 : xs = [] := by
        have z : es.size = 0 := by simpa using hem
        exact List.length_eq_zero_iff.mp (by omega)
      rw [h0] at hp
      cases hp
    | false =>
      simp only [Bool.false_eq_true, if_false]
      refine wpAny_bind (takeH hu hkey hm hsz (fun hno => ?_) fun p' e hp' hev h' hm' hs' => ?_)
      · rw [hno] at hp
        cases hp
      · rw [hp'] at hp
        cases hp
        simp only [Option.isNone_some, Bool.false_eq_true, if_false]
        exact wpAny_bind (wpAny_letGo (wpAny_pure ⟨e.val, rfl, by rw [hev]; exact hsome h' _ hm' hs'⟩))
end
end DT
namespace DL
open PySem PySem.Spec PyProof.Rows L2
section
variable {X : Cx} {G : Gx} {σ : L2.St} {H : Hp} {e : Envi} {S : Sto} {f : Nat → Addr}
/-- without one key -/
def dpop {α : Type} (ps : List (P × α)) (p : P) : List (P × α) := ps.filter fun q => !PyData.eqv q.1 p
theorem TP'.drop {α : Type} {F : V → α → Prop} {k : List Key} : ∀ {kvs : List (List Key × V)} {ps : List (P × α)}, TP' F kvs ps → TP' F (dropK kvs k) (dpop ps (.tuple (k.map keyP)))
  | [], [], .nil => .nil
  | kv :: kvs, q :: ps, .cons h t => by
    have ih := TP'.drop (k := k) t
    have e1 : PyData.eqv q.1 (.tuple (k.map keyP)) = decide (kv.1 = k) := by rw [h.1, eqv_tkeys]
    unfold dropK dpop at ih ⊢
    by_cases c : kv.1 = k
    · rw [List.filter_cons_of_neg (by simp [c]), List.filter_cons_of_neg (by rw [e1, decide_eq_true c]; simp)]
      exact ih
    · rw [List.filter_cons_of_pos (by simp [c]), List.filter_cons_of_pos (by rw [e1, decide_eq_false c]; rfl)]
      exact .cons h ih
theorem dpop_none {α : Type} {ps : List (P × α)} {p : P} (h : (ps.any fun q => PyData.eqv q.1 p) = false) : dpop ps p = ps := by
  unfold dpop
  refine List.filter_eq_self.mpr fun q hq => ?_
  have := List.any_eq_false.mp h q hq
  simpa using this
def rPopX : V → List V → Hp → VK → Prop := fun x xs H Q => ∃ (a : Addr) (H1 : Hp), x = .ref a ∧ Kin H a H1 ∧ L2.DX.rPopT x xs H1 Q
theorem mt_popX (hu : X.A.units + 1 < cLine) : MtR X "dict.pop" rPopX := by
  intro pins s σ H x xs v us Q I rx rxs h
  obtain ⟨a, H1, e, k, h⟩ := h
  exact L2.DX.mt_popT hu pins s σ H1 x xs v us Q (k.inv I) rx rxs h
theorem raw_pop {α : Type} {F : V → α → Prop} {a : Addr} {qs : List (P × V)} {ps : List (P × α)} {ks : List Key} {y d : V} (hraw : RawD H a qs) (h2 : Paired F (qs.map (·.2)) (ps.map (·.2))) (h3 : qs.map (·.1) = ps.map (·.1))
    (ry : Rep H y (.tuple (ks.map keyP))) (ok : kOk ps (.tuple (ks.map keyP)) = true) (Q : VK)
    (q : ∀ v kvs, RawD (upd H a (.dT kvs)) a (qT kvs) → Paired F ((qT kvs).map (·.2)) ((dpop ps (.tuple (ks.map keyP))).map (·.2)) → (qT kvs).map (·.1) = (dpop ps (.tuple (ks.map keyP))).map (·.1) → Q v (upd H a (.dT kvs))) : rPopX (.ref a) [y, d] H Q := by
  obtain ⟨b, vs, rfl, hb, hv⟩ : ∃ b vs, y = .ref b ∧ H b = some (.tup vs) ∧ RepL H vs (ks.map keyP) := by
    cases ry with
    | tup h1 h2 => exact ⟨_, _, rfl, h1, h2⟩
  have ev := rep_keys hv
  subst ev
  have fin : ∀ (H1 : Hp) (kvs : List (List Key × V)), Kin H a H1 → H1 a = some (.dT kvs) → H1 b = some (.tup (ks.map kV)) → TP' F kvs ps → (∀ o, upd H1 a o = upd H a o) → rPopX (.ref a) [.ref b, d] H Q := fun H1 kvs k1 h1 hb1 kp ee => by
    have kq := kp.drop (k := ks)
    have done : ∀ v, Q v (upd H a (.dT (dropK kvs ks))) := fun v => q v (dropK kvs ks) (.inr ⟨_, upd_same, rfl⟩) kq.to.1 kq.to.2
    refine ⟨a, H1, rfl, k1, a, kvs, ks, b, d, rfl, rfl, h1, hb1, fun v hv => by rw [ee]; exact done v, fun hn => ?_⟩
    have no : ∀ kv ∈ kvs, ¬ kv.1 = ks := fun kv hkv e => by
      unfold valV at hn
      rw [Option.map_eq_none_iff, List.find?_eq_none] at hn
      exact hn kv hkv (by simp [e])
    have same : dropK kvs ks = kvs := List.filter_eq_self.mpr fun kv hkv => by simp [no kv hkv]
    have eH : H1 = upd H a (.dT (dropK kvs ks)) := by
      rw [same, ← ee]
      funext c
      by_cases hc : c = a
      · rw [hc, h1, upd_same]
      · rw [upd_ne hc]
    rw [eH]
    exact done d
  rcases hraw with ⟨kvs, h, z⟩ | ⟨kvs, h, z⟩
  · subst z
    have kp := KP.of h2 h3
    cases kp with
    | cons h0 t0 =>
      exfalso
      simp only [kOk] at ok
      rw [h0.1, isT_key] at ok
      simp [isT] at ok
    | nil =>
      have nb : b ≠ a := ne_of hb h (fun z => by cases z)
      exact fin (upd H a (.dT [])) [] (.inr (.inr ⟨h, rfl⟩)) upd_same (by rw [upd_ne nb]; exact hb) .nil fun o => upd_upd
  · subst z
    exact fin H kvs (.inl rfl) h hb (TP'.of h2 h3) fun _ => rfl
/-- d.pop(k, x), as a row -/
def sPop (o k x : Ex) : Sx := fun e S => (o e S).bind fun r => (k e r.2).bind fun w => (x e w.2).bind fun q => match r.1, w.1 with
  | .bo i (.dct _), .pu (.tuple xs) => match e[i]? with
    | some (some (.ow (.dct ps))) => (flatKs xs).bind fun _ => if kOk ps (.tuple xs) = true then some (.nx (e.set i (some (.ow (.dct (dpop ps (.tuple xs)))))) q.2) else none
    | _ => none
  | _, _ => none
theorem ds_pop {o i a : Expr} {xo xi xa : Ex} {apos cpos pos : Pos} (hu : X.A.units + 1 < cLine) (ho : DE X G o xo) (hi : DE X G i xi) (ha : DE X G a xa)
    (hbase : attributeBase o "pop" X.env (eval o X.env) = eval o X.env := by rfl)
    (hfew : ((backTo cpos (starEach [i, a] X.env)).all (fun x => !x.1) && (backToKw cpos (keywordEach [] X.env)).all (fun x => x.1.isSome)
      && decide (([i, a] : List Expr).length + ([] : List Keyword).length + (if ([] : List Keyword).isEmpty then 0 else 1) < 30)) = true := by rfl)
    (hline : (apos.endLine == cpos.line) = true := by rfl) (hs : starEach [i, a] X.env = (false, eval i X.env) :: starEach [a] X.env := by rfl) (hs2 : starEach [a] X.env = (false, eval a X.env) :: starEach [] X.env := by rfl) (hplain : (backTo cpos (starEach [a] X.env)).any (·.1) = false := by rfl) (hsw : swapsWith (.Call (.Attribute o "pop" apos) [i, a] [] cpos) none pos.line X.env = pure false := by rfl) :
    DS X G (.Expr (.Call (.Attribute o "pop" apos) [i, a] [] cpos) pos) (sPop xo xi xa) :=
  ps_mono (ps_expr (pe_bm PySem.F.plainAttrs_dict PySem.F.slot_dict_pop PySem.F.type_dict_pop (mt_popX hu) ho (pa_cons hi (pa_cons ha pa_nil hs2) hs) hbase hfew hline hs hplain) hsw) fun T σ H hw => by
    obtain ⟨e, S, f, r, o, hx, q⟩ := hw
    obtain ⟨⟨d0, S0⟩, h0, hx⟩ := Option.bind_eq_some_iff.mp hx
    obtain ⟨⟨d1, S1⟩, h1, hx⟩ := Option.bind_eq_some_iff.mp hx
    obtain ⟨⟨d2, S2⟩, h2, hx⟩ := Option.bind_eq_some_iff.mp hx
    cases d0 with
    | bo j c =>
      cases c with
      | lst _ => cases hx
      | dct ps0 =>
        cases d1 with
        | pu p1 =>
          cases p1 with
          | tuple ys =>
            dsimp only at hx
            cases h3 : e[j]? with
            | none => rw [h3] at hx; cases hx
            | some sl =>
              rw [h3] at hx
              cases sl with
              | none => cases hx
              | some sl =>
                cases sl with
                | val _ => cases hx
                | ow c =>
                  cases c with
                  | lst _ => cases hx
                  | dct ps =>
                    obtain ⟨ks, hk, hx⟩ := Option.bind_eq_some_iff.mp (show (flatKs ys).bind _ = _ from hx)
                    have ek := flatKs_eq hk
                    subst ek
                    by_cases c : kOk ps (.tuple (ks.map keyP)) = true
                    · rw [if_pos c] at hx
                      cases hx
                      refine ⟨e, S, f, r, _, S0, h0, fun v0 H0 f0 r0 n0 p0 => ?_⟩
                      obtain ⟨hv0, _⟩ := (show σ[j]? = some (some v0) ∧ e[j]? = some (some (.ow (.dct ps0))) from p0)
                      obtain ⟨a0, g1, ⟨qs0, g2, _⟩, _⟩ := r0.own j _ h3
                      rw [g1] at hv0
                      cases hv0
                      refine ⟨?_, e, S0, f0, r0, _, S1, h1, fun v1 H1 f1 r1 n1 p1 => ⟨e, S1, f1, r1, d2, S2, h2, fun v2 H2 f2 r2 n2 p2 => ?_⟩⟩
                      · rcases g2 with ⟨kvs, g, _⟩ | ⟨kvs, g, _⟩
                        · exact .inr (.inr (.inl ⟨rfl, .inl ⟨kvs, g⟩⟩))
                        · exact .inr (.inr (.inl ⟨rfl, .inr ⟨kvs, g⟩⟩))
                      · obtain ⟨a, k1, ⟨qs, k4, k5, k6⟩, _⟩ := r2.own j _ h3
                        rw [g1] at k1
                        cases k1
                        have py : Rep H2 v1 (.tuple (ks.map keyP)) := p1.nx n2
                        refine raw_pop k4 k5.pr k6 py c _ fun v kvs raw pr ke => ?_
                        obtain ⟨u, hu', mu⟩ := OCok.raw (c := .dct ps) ⟨qs, k4, k5, k6⟩
                        have x := raw_ext (o' := .dT kvs) hu' mu
                        exact q _ _ f2 (r2.own_set h3 g1 ⟨qT kvs, raw, RepL.ext x (RepL.un pr), ke⟩) (((n0.trans n1).trans n2).ext.trans x)
                    · rw [if_neg c] at hx
                      cases hx
          | _ => cases hx
        | _ => cases hx
    | _ => cases hx
/-! ### d.pop(k) -/
def rPop1T : V → List V → Hp → VK → Prop := fun x xs H Q => ∃ (a : Addr) (kvs : List (List L2.Key × V)) (k : List L2.Key) (b : Addr) (v : V), x = .ref a ∧ xs = [.ref b] ∧ H a = some (.dT kvs) ∧ H b = some (.tup (k.map kV)) ∧ valV kvs k = some v ∧ Q v (upd H a (.dT (dropK kvs k)))
theorem mt_pop1T (hu : X.A.units + 1 < cLine) : MtR X "dict.pop" rPop1T := by
  intro pins s σ H x xs v us Q I rx rxs h
  obtain ⟨a, kvs, k, b, v0, rfl, rfl, ha, hb, hv, q⟩ := h
  cases rx
  obtain rfl := Vals.ref1 rxs
  obtain ⟨z, hd, xs', rel, dd⟩ := dt_of I.hok ha
  have hz : xs'.length ≤ sizeLine := by rw [← Paired.length rel]; exact z
  have r := rel.val k
  rw [hv] at r
  obtain ⟨p, hp, rv⟩ : ∃ p, atKey xs' k = some p ∧ RelV v0 p.2 := by
    cases ep : atKey xs' k with
    | none =>
      rw [ep] at r
      exact (show False from r).elim
    | some p =>
      rw [ep] at r
      exact ⟨p, rfl, r⟩
  refine call_meetsIn PySem.F.slot_dict_pop dd.typeIs PySem.F.entry_dict_pop (PySem.F.args_dict_pop_2 _ _) (DT.meetsPop1 (knd := tupleKind (mixKind X.prog X.w)) (k := k) hd)
    ⟨xs', p, tupleKind_room_in1 hu, key_of I.hok hb, dd, hz, hp, fun h' tk dd' hs => ?_⟩
  obtain ⟨o, es, ep, hq, h2, h3, h4, _, h5⟩ := dd'
  have I2 : Inv X pins σ (upd H a (.dT (dropK kvs k))) { s with heap := h', toks := tk } :=
    d_write I (by rw [ha]; exact True.intro) hs ⟨o, hq⟩ ⟨Nat.le_trans (dropK_le kvs k) z, hd, _, (L2.DX.KT_drop k rel).keeps (fun c ys ec => (by rw [upd_ne (ne_of ec ha (fun z => nomatch z))]; exact ec)), o, es, ep, hq, h2, h3, h4, h5⟩
  show EP X pins σ Q p.2 _
  exact ⟨v0, _, I2, rv, q⟩
/-- d.pop(k), as a row -/
def sPop1 (o k : Ex) : Sx := fun e S => (o e S).bind fun r => (k e r.2).bind fun w => match r.1, w.1 with
  | .bo i (.dct _), .pu (.tuple xs) => match e[i]? with
    | some (some (.ow (.dct ps))) => (flatKs xs).bind fun _ => if (kOk ps (.tuple xs) && ps.any fun q => PyData.eqv q.1 (.tuple xs)) = true then some (.nx (e.set i (some (.ow (.dct (dpop ps (.tuple xs)))))) w.2) else none
    | _ => none
  | _, _ => none
theorem ds_pop1 {o i : Expr} {xo xi : Ex} {apos cpos pos : Pos} (hu : X.A.units + 1 < cLine) (ho : DE X G o xo) (hi : DE X G i xi)
    (hbase : attributeBase o "pop" X.env (eval o X.env) = eval o X.env := by rfl)
    (hfew : ((backTo cpos (starEach [i] X.env)).all (fun x => !x.1) && (backToKw cpos (keywordEach [] X.env)).all (fun x => x.1.isSome)
      && decide (([i] : List Expr).length + ([] : List Keyword).length + (if ([] : List Keyword).isEmpty then 0 else 1) < 30)) = true := by rfl)
    (hline : (apos.endLine == cpos.line) = true := by rfl) (hs : starEach [i] X.env = (false, eval i X.env) :: starEach [] X.env := by rfl) (hplain : (backTo cpos (starEach [] X.env)).any (·.1) = false := by rfl) (hsw : swapsWith (.Call (.Attribute o "pop" apos) [i] [] cpos) none pos.line X.env = pure false := by rfl) :
    DS X G (.Expr (.Call (.Attribute o "pop" apos) [i] [] cpos) pos) (sPop1 xo xi) :=
  ps_mono (ps_expr (pe_bm PySem.F.plainAttrs_dict PySem.F.slot_dict_pop PySem.F.type_dict_pop (mt_pop1T hu) ho (pa_cons hi pa_nil hs) hbase hfew hline hs hplain) hsw) fun T σ H hw => by
    obtain ⟨e, S, f, r, o, hx, q⟩ := hw
    obtain ⟨⟨d0, S0⟩, h0, hx⟩ := Option.bind_eq_some_iff.mp hx
    obtain ⟨⟨d1, S1⟩, h1, hx⟩ := Option.bind_eq_some_iff.mp hx
    cases d0 with
    | bo j c =>
      cases c with
      | lst _ => cases hx
      | dct ps0 =>
        cases d1 with
        | pu p1 =>
          cases p1 with
          | tuple ys =>
            dsimp only at hx
            cases h3 : e[j]? with
            | none => rw [h3] at hx; cases hx
            | some sl =>
              rw [h3] at hx
              cases sl with
              | none => cases hx
              | some sl =>
                cases sl with
                | val _ => cases hx
                | ow c =>
                  cases c with
                  | lst _ => cases hx
                  | dct ps =>
                    obtain ⟨ks, hk, hx⟩ := Option.bind_eq_some_iff.mp (show (flatKs ys).bind _ = _ from hx)
                    have ek := flatKs_eq hk
                    subst ek
                    by_cases c : (kOk ps (.tuple (ks.map keyP)) && ps.any fun q => PyData.eqv q.1 (.tuple (ks.map keyP))) = true
                    · rw [if_pos c] at hx
                      cases hx
                      rw [Bool.and_eq_true] at c
                      refine ⟨e, S, f, r, _, S0, h0, fun v0 H0 f0 r0 n0 p0 => ?_⟩
                      obtain ⟨hv0, _⟩ := (show σ[j]? = some (some v0) ∧ e[j]? = some (some (.ow (.dct ps0))) from p0)
                      obtain ⟨a0, g1, ⟨qs0, g2, _⟩, _⟩ := r0.own j _ h3
                      rw [g1] at hv0
                      cases hv0
                      refine ⟨?_, e, S0, f0, r0, _, S1, h1, fun v1 H1 f1 r1 n1 p1 => ?_⟩
                      · rcases g2 with ⟨kvs, g, _⟩ | ⟨kvs, g, _⟩
                        · exact .inr (.inr (.inl ⟨rfl, .inl ⟨kvs, g⟩⟩))
                        · exact .inr (.inr (.inl ⟨rfl, .inr ⟨kvs, g⟩⟩))
                      · obtain ⟨a, k1, ⟨qs, k4, k5, k6⟩, _⟩ := r1.own j _ h3
                        rw [g1] at k1
                        cases k1
                        have py : Rep H1 v1 (.tuple (ks.map keyP)) := p1
                        have pr5 := k5.pr
                        have k40 := k4
                        rcases k4 with ⟨kvs, g, z⟩ | ⟨kvs, g, z⟩
                        · subst z
                          have kp := KP.of pr5 k6
                          exfalso
                          cases kp with
                          | cons h0' t0 =>
                            have c1 := c.1
                            simp only [kOk] at c1
                            rw [h0'.1, isT_key] at c1
                            simp [isT] at c1
                          | nil => simp at c
                        · subst z
                          have kp := TP'.of pr5 k6
                          obtain ⟨b, vs, rfl, hb, hvs⟩ : ∃ b vs, v1 = .ref b ∧ H1 b = some (.tup vs) ∧ RepL H1 vs (ks.map keyP) := by
                            cases py with
                            | tup h1 h2 => exact ⟨_, _, rfl, h1, h2⟩
                          have ev := rep_keys hvs
                          subst ev
                          have an : (kvs.any fun kv => decide (kv.1 = ks)) = true := by rw [kp.any]; exact c.2
                          obtain ⟨v, hv⟩ : ∃ v, valV kvs ks = some v := by
                            unfold valV
                            cases hf : kvs.find? (fun kv => decide (kv.1 = ks)) with
                            | none =>
                              rw [List.find?_eq_none] at hf
                              obtain ⟨kv, m1, m2⟩ := List.any_eq_true.mp an
                              exact absurd m2 (hf kv m1)
                            | some kv => exact ⟨kv.2, rfl⟩
                          have kq := kp.drop (k := ks)
                          obtain ⟨u, hu', mu⟩ := OCok.raw (c := .dct ps) ⟨_, k40, k5, k6⟩
                          have x := raw_ext (o' := .dT (dropK kvs ks)) hu' mu
                          exact ⟨a0, kvs, ks, b, v, rfl, rfl, g, hb, hv, q _ _ f1 (r1.own_set h3 g1 ⟨qT (dropK kvs ks), .inr ⟨_, upd_same, rfl⟩, RepL.ext x (RepL.un kq.to.1), kq.to.2⟩) ((n0.trans n1).ext.trans x)⟩
                    · rw [if_neg c] at hx
                      cases hx
          | _ => cases hx
        | _ => cases hx
    | _ => cases hx
end
end DL
/-! DM9: d.pop(k) of a dict that is a cell, its keys tuples. -/
namespace DL
open PySem PySem.Spec PyProof.Rows L2
section
variable {X : Cx} {G : Gx} {σ : L2.St} {H : Hp} {e : Envi} {S : Sto} {f : Nat → Addr}
def popC (n : Nat) (xs : List P) (S : Sto) : Option Sto := match S[n]? with
  | some (.dct ps) => (flatKs xs).bind fun _ => if (kOk ps (.tuple xs) && ps.any fun q => PyData.eqv q.1 (.tuple xs)) = true then some (S.set n (.dct (dpop ps (.tuple xs)))) else none
  | _ => none
/-- d.pop(k), as a row -/
def sPopC (o k : Ex) : Sx := fun e S => (o e S).bind fun r => (k e r.2).bind fun w => match r.1, w.1 with
  | .rf n, .pu (.tuple xs) => match r.2[n]? with
    | some (.dct _) => (popC n xs w.2).bind fun S' => some (.nx e S')
    | _ => none
  | _, _ => none
theorem ds_popC {o i : Expr} {xo xi : Ex} {apos cpos pos : Pos} (hu : X.A.units + 1 < cLine) (ho : DE X G o xo) (hi : DE X G i xi)
    (hbase : attributeBase o "pop" X.env (eval o X.env) = eval o X.env := by rfl)
    (hfew : ((backTo cpos (starEach [i] X.env)).all (fun x => !x.1) && (backToKw cpos (keywordEach [] X.env)).all (fun x => x.1.isSome)
      && decide (([i] : List Expr).length + ([] : List Keyword).length + (if ([] : List Keyword).isEmpty then 0 else 1) < 30)) = true := by rfl)
    (hline : (apos.endLine == cpos.line) = true := by rfl) (hs : starEach [i] X.env = (false, eval i X.env) :: starEach [] X.env := by rfl) (hplain : (backTo cpos (starEach [] X.env)).any (·.1) = false := by rfl) (hsw : swapsWith (.Call (.Attribute o "pop" apos) [i] [] cpos) none pos.line X.env = pure false := by rfl) :
    DS X G (.Expr (.Call (.Attribute o "pop" apos) [i] [] cpos) pos) (sPopC xo xi) :=
  ps_mono (ps_expr (pe_bm PySem.F.plainAttrs_dict PySem.F.slot_dict_pop PySem.F.type_dict_pop (mt_pop1T hu) ho (pa_cons hi pa_nil hs) hbase hfew hline hs hplain) hsw) fun T σ H hw => by
    obtain ⟨e, S, f, r, o, hx, q⟩ := hw
    obtain ⟨⟨d0, S0⟩, h0, hx⟩ := Option.bind_eq_some_iff.mp hx
    obtain ⟨⟨d1, S1⟩, h1, hx⟩ := Option.bind_eq_some_iff.mp hx
    cases d0 with
    | rf n =>
        cases d1 with
        | pu p1 =>
          cases p1 with
          | tuple ys =>
            dsimp only at hx
            cases h3 : S0[n]? with
            | none => rw [h3] at hx; cases hx
            | some c0 =>
              rw [h3] at hx
              cases c0 with
              | dct ps0 =>
                obtain ⟨S', h4, hx⟩ := Option.bind_eq_some_iff.mp hx
                cases hx
                unfold popC at h4
                cases h5 : S1[n]? with
                | none => rw [h5] at h4; cases h4
                | some c1 =>
                  rw [h5] at h4
                  cases c1 with
                  | dct ps =>
                    obtain ⟨ks, hk, h4⟩ := Option.bind_eq_some_iff.mp (show (flatKs ys).bind _ = _ from h4)
                    have ek := flatKs_eq hk
                    subst ek
                    by_cases c : (kOk ps (.tuple (ks.map keyP)) && ps.any fun q => PyData.eqv q.1 (.tuple (ks.map keyP))) = true
                    · rw [if_pos c] at h4
                      cases h4
                      rw [Bool.and_eq_true] at c
                      refine ⟨e, S, f, r, _, S0, h0, fun v0 H0 f0 r0 n0 p0 => ?_⟩
                      obtain ⟨hv0, hl0⟩ := (show v0 = .ref (f0 n) ∧ n < S0.length from p0)
                      subst hv0
                      obtain ⟨qs0, g2, _⟩ := r0.cel n _ h3
                      refine ⟨?_, e, S0, f0, r0, _, S1, h1, fun v1 H1 f1 r1 n1 p1 => ?_⟩
                      · rcases g2 with ⟨kvs, g, _⟩ | ⟨kvs, g, _⟩
                        · exact .inr (.inr (.inl ⟨rfl, .inl ⟨kvs, g⟩⟩))
                        · exact .inr (.inr (.inl ⟨rfl, .inr ⟨kvs, g⟩⟩))
                      · obtain ⟨qs, k4, k5, k6⟩ := r1.cel n _ h5
                        have py : Rep H1 v1 (.tuple (ks.map keyP)) := p1
                        have ef : f1 n = f0 n := n1.ag n hl0
                        rw [← ef]
                        obtain ⟨u, hu', mu⟩ := r1.cell_mut h5 rfl
                        rcases k4 with ⟨kvs, g, z⟩ | ⟨kvs, g, z⟩
                        · subst z
                          have kp := KP.of k5 k6
                          exfalso
                          cases kp with
                          | cons h0' t0 =>
                            have c1 := c.1
                            simp only [kOk] at c1
                            rw [h0'.1, isT_key] at c1
                            simp [isT] at c1
                          | nil => simp at c
                        · subst z
                          have kp := TP'.of k5 k6
                          obtain ⟨b, vs, rfl, hb, hvs⟩ : ∃ b vs, v1 = .ref b ∧ H1 b = some (.tup vs) ∧ RepL H1 vs (ks.map keyP) := by
                            cases py with
                            | tup h1 h2 => exact ⟨_, _, rfl, h1, h2⟩
                          have ev := rep_keys hvs
                          subst ev
                          have an : (kvs.any fun kv => decide (kv.1 = ks)) = true := by rw [kp.any]; exact c.2
                          obtain ⟨v, hv⟩ : ∃ v, valV kvs ks = some v := by
                            unfold valV
                            cases hf : kvs.find? (fun kv => decide (kv.1 = ks)) with
                            | none =>
                              rw [List.find?_eq_none] at hf
                              obtain ⟨kv, m1, m2⟩ := List.any_eq_true.mp an
                              exact absurd m2 (hf kv m1)
                            | some kv => exact ⟨kv.2, rfl⟩
                          have kq := kp.drop (k := ks)
                          have x := raw_ext (o' := .dT (dropK kvs ks)) hu' mu
                          obtain ⟨r2, x2⟩ := r1.cel_set (c := .dct (dpop ps (.tuple (ks.map keyP)))) (o' := .dT (dropK kvs ks)) h5 rfl ⟨qT (dropK kvs ks), .inr ⟨_, upd_same, rfl⟩, Paired.mapP kq.to.1 fun _ _ => RD.ext x, kq.to.2⟩
                          exact ⟨f1 n, kvs, ks, b, v, rfl, rfl, g, hb, hv, q _ _ f1 r2 ((n0.trans n1).ext.trans x2)⟩
                    · rw [if_neg c] at h4
                      cases h4
                  | _ => cases h4
              | _ => cases hx
          | _ => cases hx
        | _ => cases hx
    | _ => cases hx
end
end DL
/-! DMA: list(range(n)). -/
namespace DL
open PySem PySem.Spec PyProof.Rows L2
section
variable {X : Cx} {G : Gx}
def xLr1 (mk : List P → D) (xa : Ex) : Ex := fun e S => (xa e S).bind fun r => match r.1 with
  | .pu (.int j) => if (rOk j && decide (j.toNat ≤ 100000)) = true then some (mk (rngP 0 j.toNat), r.2) else none
  | _ => none
theorem lr1_mid {xa : Ex} {mk : List P → D} {e : Envi} {S S' : Sto} {d : D} (hx : xLr1 mk xa e S = some (d, S')) : ∃ j, xa e S = some (.pu (.int j), S') ∧ RgOk 0 j ∧ d = mk (rngP 0 j.toNat) := by
  obtain ⟨⟨d1, S1⟩, h1, hx⟩ := Option.bind_eq_some_iff.mp hx
  dsimp only at hx
  match d1, h1, hx with
  | .pu (.int j), h1, hx =>
    by_cases c : (rOk j && decide (j.toNat ≤ 100000)) = true
    · dsimp only at hx
      rw [if_pos c] at hx
      cases hx
      rw [Bool.and_eq_true, rOk_iff, decide_eq_true_eq] at c
      exact ⟨j, h1, ⟨by omega, by omega, by omega, by omega, by omega⟩, rfl⟩
    · dsimp only at hx
      rw [if_neg c] at hx
      cases hx
theorem d_listRg1 {a : Expr} {xa : Ex} {p p2 pos pos2 : Pos} (hc : X.calm = true) (hg : Gl X "list") (hm : X.mg "list" = none) (hg2 : Gl X "range") (hm2 : X.mg "range" = none) (ha : DE X G a xa)
    (na : starEach [a] X.env = (false, eval a X.env) :: starEach [] X.env := by rfl)
    (ns : starEach [.Call (.Name "range" p2) [a] [] pos2] X.env = (false, eval (.Call (.Name "range" p2) [a] [] pos2) X.env) :: starEach [] X.env := by rfl) : DE X G (.Call (.Name "list" p) [.Call (.Name "range" p2) [a] [] pos2] [] pos) (xLr1 (fun ps => .pu (.list ps)) xa) :=
  pe_mono (pe_gh (pe_listRg hc hg hm (prg_1 hg2 hm2 ha na) ns)) fun σ H Q hw => by
    obtain ⟨e, S, f, r, d, S', hx, q⟩ := hw
    obtain ⟨j, h1, ok, rfl⟩ := lr1_mid hx
    refine ⟨e, S, f, r, _, S', h1, fun v1 H1 f1 r1 n1 p1 => ?_⟩
    cases (show Rep H1 _ (.int j) from p1)
    have e0 : (j - 0).toNat = j.toNat := by omega
    refine ⟨j, rfl, ok, fun p np => lst_fin np ?_ fun v H' s rv => q v H' f1 (r1.same s) (n1.trans (.of s _ _)) rv⟩
    have := rep_rng (H := H1) 0 j.toNat
    rw [← e0] at this ⊢
    exact this
theorem d_listRg1N {a : Expr} {xa : Ex} {p p2 pos pos2 : Pos} (hc : X.calm = true) (hg : Gl X "list") (hm : X.mg "list" = none) (hg2 : Gl X "range") (hm2 : X.mg "range" = none) (ha : DE X G a xa)
    (na : starEach [a] X.env = (false, eval a X.env) :: starEach [] X.env := by rfl)
    (ns : starEach [.Call (.Name "range" p2) [a] [] pos2] X.env = (false, eval (.Call (.Name "range" p2) [a] [] pos2) X.env) :: starEach [] X.env := by rfl) : DE X G (.Call (.Name "list" p) [.Call (.Name "range" p2) [a] [] pos2] [] pos) (xLr1 (fun ps => .nw (.lst ps)) xa) :=
  pe_mono (pe_gh (pe_listRg hc hg hm (prg_1 hg2 hm2 ha na) ns)) fun σ H Q hw => by
    obtain ⟨e, S, f, r, d, S', hx, q⟩ := hw
    obtain ⟨j, h1, ok, rfl⟩ := lr1_mid hx
    refine ⟨e, S, f, r, _, S', h1, fun v1 H1 f1 r1 n1 p1 => ?_⟩
    cases (show Rep H1 _ (.int j) from p1)
    have e0 : (j - 0).toNat = j.toNat := by omega
    refine ⟨j, rfl, ok, fun p np => nw_fin r1 np ?_ fun v H' f' r' n' p' => q v H' f' r' (n1.trans n') p'⟩
    have := rep_rng (H := H1) 0 j.toNat
    rw [← e0] at this ⊢
    exact this
end
end DL
/-! DMB: calls without arguments. -/
namespace DL
open PySem PySem.Spec PyProof.Rows L2
section
variable {X : Cx} {G : Gx} {σ : L2.St} {H : Hp} {e : Envi} {S : Sto} {f : Nat → Addr}
theorem d_cP0 {m : List P → Option P} {k n : Nat} {ps : List Str} {x : Str} {p pos : Pos} (F : Callee X.prog X.w X.K X.mg X.base k x ps (SpP n m)) (hl : ∀ ps p, m ps = some p → ps.length = n) (hr : Room k X.A)
    (hg : Gl X x := by rfl) (hdb : (x == ("__debug__" : Str)) = false := by decide) : DE X G (.Call (.Name x p) [] [] pos) (xA (gCallP m) aNil) := by
  obtain ⟨g, fd, F, hm, hk, hb⟩ := F
  refine pe_mono (pe_gh (pe_call0 F hr hg hm hk hb .nil pass0 hdb)) fun σ H Q hw => ?_
  obtain ⟨e, S, f, r0, hx⟩ := tE.bA (v_callP (E := fun _ _ _ => False) hl) σ H Q hw
  obtain ⟨ds, S', h1, q⟩ := hx
  cases h1
  exact q [] H f r0 (.refl _ _ _) .nil
end
end DL
/-! DMC: {} as a cell. -/
namespace DL
open PySem PySem.Spec PyProof.Rows L2
section
variable {X : Cx} {G : Gx} {σ : L2.St} {H : Hp} {e : Envi} {S : Sto} {f : Nat → Addr}
def xDct : Ex := fun _ S => some (.rf S.length, S ++ [.dct []])
theorem d_dct {pos : Pos} : DE X G (.Dict [] [] pos) xDct := pe_mono (pe_gh pe_dnewT) fun σ H Q hw => by
  obtain ⟨e, S, f, r, d, S', hx, q⟩ := hw
  cases hx
  refine fun p np => .inl ?_
  have ra := r.alloc (o := .dT []) (c := .dct []) np ⟨[], .inr ⟨[], upd_same, rfl⟩, .nil, rfl⟩
  have nx := nx_alloc (f := f) (o := .dT []) S.length np
  rw [← len1 S (.dct [])] at nx
  exact q (.ref p) _ _ ra nx ⟨by rw [put1_at], by rw [len1]; omega⟩
end
end DL
namespace DL
open PySem PySem.Spec PyProof.Rows L2
noncomputable def b__law_great_box : Sx := sSeq (sAsg (xA gTup (aCons (x2 (s2 pSub) (xA (gCallF m__law_take) (aCons (xVar 0) (aCons (xP (.int 41)) (aNil)))) (xP (.int 20))) (aCons (x2 (s2 pSub) (xA (gCallF m__law_take) (aCons (xVar 0) (aCons (xP (.int 41)) (aNil)))) (xP (.int 20))) (aNil)))) (gtLst 2 (gnCons (gNm 3) (gnCons (gNm 4) (gnNil))))) (sSeq (sSetLc 1 (iRange1 (aCons (xP (.int 900)) (aNil))) (gNm 5) (tYesX) (xA gTup (aCons (x2 gAdd (xVar 3) (x2 (s2 pDiv) (xVar 5) (xP (.int 30)))) (aCons (x2 gAdd (xVar 4) (x2 (s2 pMod) (xVar 5) (xP (.int 30)))) (aNil)))) [5]) (sSeq (sSet 2 (xA (gCallF m__law_take) (aCons (xVar 0) (aCons (xP (.int 900)) (aNil))))) (sSeq (sSet 1 (x2 gCatN (xSl (xVar 1) (oSome (xVar 2)) (oNone)) (xSl (xVar 1) (oNone) (oSome (xVar 2))))) (sSeq (sIf (tOfE (x2 (gEq false) (xA (gCallF m__law_take) (aCons (xVar 0) (aCons (xP (.int 2)) (aNil)))) (xP (.int 0)))) (sFq 1 (sSeq (sSetLc 1 (iSeq (xVar 1)) (gNm 6) (tOfE (x2 (s2 (pIB fun i j => decide (j < i))) (x2 (s2 pMod) (x2 gAdd (x2 (s2 pMul) (x2 gIx (xVar 6) (xP (.int 0))) (xP (.int 7))) (x2 (s2 pMul) (x2 gIx (xVar 6) (xP (.int 1))) (x2 gIx (xVar 6) (xP (.int 1))))) (xP (.int 11))) (xP (.int 0)))) (xVar 6) [6]) (sNil))) (sNil)) (sFq 1 (sSeq (sRet (xVar 1)) (sNil)))))))
noncomputable def m__law_great_box : List D → Sto → Option (D × Sto) := runF 1 7 b__law_great_box
theorem l__law_great_box {ds : List D} {S : Sto} {p : D × Sto} (h : m__law_great_box ds S = some p) : ds.length = 1 := runF_len h
noncomputable def b__law_points : Sx := sSeq (sSet 1 (xA (gCallF m__law_take) (aCons (xVar 0) (aCons (xP (.int 7)) (aNil))))) (sSeq (sSetLc 2 (iRange1 (aCons (xP (.int 2)) (aNil))) (gNm 8) (tYesX) (x2 gAdd (xP (.int 1)) (xA (gCallF m__law_take) (aCons (xVar 0) (aCons (x2 gIx (xA gLst (aCons (xP (.int 3)) (aCons (xP (.int 7)) (aCons (xP (.int 20)) (aNil))))) (xA (gCallF m__law_take) (aCons (xVar 0) (aCons (xP (.int 3)) (aNil))))) (aNil))))) [8]) (sSeq (sPar 5 6 (aCons (x2 (s2 pSub) (xA (gCallF m__law_take) (aCons (xVar 0) (aCons (xP (.int 41)) (aNil)))) (xP (.int 20))) (aCons (x2 (s2 pSub) (xA (gCallF m__law_take) (aCons (xVar 0) (aCons (xP (.int 41)) (aNil)))) (xP (.int 20))) (aNil)))) (sSeq (sSet 3 (xA gLstN (aNil))) (sSeq (sFor (iRange1 (aCons (x2 gIx (xVar 2) (xP (.int 0))) (aNil))) (gNm 4) (sSeq (sFor (iRange1 (aCons (x2 gIx (xVar 2) (xP (.int 1))) (aNil))) (gNm 7) (sSeq (sSet 9 (xOrX (x2 (gIn false) (xVar 4) (xA gTup (aCons (xP (.int 0)) (aCons (x2 (s2 pSub) (x2 gIx (xVar 2) (xP (.int 0))) (xP (.int 1))) (aNil))))) (x2 (gIn false) (xVar 7) (xA gTup (aCons (xP (.int 0)) (aCons (x2 (s2 pSub) (x2 gIx (xVar 2) (xP (.int 1))) (xP (.int 1))) (aNil))))))) (sSeq (sSet 10 (x2 gIx (xA gLst (aCons (xP (.bool true)) (aCons (xVar 9) (aCons (x2 (gEq false) (x2 (s2 pMod) (x2 gAdd (xVar 4) (xVar 7)) (xP (.int 2))) (xP (.int 0))) (aCons (x2 (gEq false) (x2 (s2 pMod) (x2 (s2 pSub) (xVar 4) (xVar 7)) (xP (.int 3))) (xP (.int 0))) (aCons (xOrX (x2 (gEq false) (x2 (s2 pMod) (xVar 7) (xP (.int 2))) (xP (.int 0))) (x2 (gEq false) (x2 (s2 pMod) (xVar 4) (xP (.int 5))) (xP (.int 0)))) (aCons (xP (.bool true)) (aCons (xP (.bool true)) (aNil))))))))) (xVar 1))) (sSeq (sIf (tOfE (x2 (s2 (pIB fun i j => decide (j < i))) (xVar 1) (xP (.int 4)))) (sSeq (sSet 10 (x2 (s2 (pIB fun i j => decide (j < i))) (xA (gCallF m__law_take) (aCons (xVar 0) (aCons (x2 (s2 pSub) (xVar 1) (xP (.int 3))) (aNil)))) (xP (.int 0)))) (sNil)) (sNil)) (sSeq (sIf (tOfE (xVar 10)) (sSeq (sIns (xVar 3) (xA (gCallF m__law_take) (aCons (xVar 0) (aCons (x2 gAdd (xA gLen (aCons (xVar 3) (aNil))) (xP (.int 1))) (aNil)))) (xA gTup (aCons (x2 gAdd (xVar 5) (xVar 4)) (aCons (x2 gAdd (xVar 6) (xVar 7)) (aNil))))) (sNil)) (sNil)) (sNil)))))) (sNil))) (sFq 3 (sSeq (sRet (xVar 3)) (sNil)))))))
noncomputable def m__law_points : List D → Sto → Option (D × Sto) := runF 1 11 b__law_points
theorem l__law_points {ds : List D} {S : Sto} {p : D × Sto} (h : m__law_points ds S = some p) : ds.length = 1 := runF_len h
noncomputable def b__law_ways : Sx := sSeq (sRet (xA gLst (aCons (xA gTup (aCons (xP (.int 1)) (aCons (xP (.int 0)) (aNil)))) (aCons (xA gTup (aCons (xP (.int 1)) (aCons (xP (.int 1)) (aNil)))) (aCons (xA gTup (aCons (xP (.int 0)) (aCons (xP (.int 1)) (aNil)))) (aCons (xA gTup (aCons (x1 (s1 pNeg) (xP (.int 1))) (aCons (xP (.int 1)) (aNil)))) (aCons (xA gTup (aCons (x1 (s1 pNeg) (xP (.int 1))) (aCons (xP (.int 0)) (aNil)))) (aCons (xA gTup (aCons (x1 (s1 pNeg) (xP (.int 1))) (aCons (x1 (s1 pNeg) (xP (.int 1))) (aNil)))) (aCons (xA gTup (aCons (xP (.int 0)) (aCons (x1 (s1 pNeg) (xP (.int 1))) (aNil)))) (aCons (xA gTup (aCons (xP (.int 1)) (aCons (x1 (s1 pNeg) (xP (.int 1))) (aNil)))) (aNil))))))))))) (sNil)
noncomputable def m__law_ways : List P → Option P := runP 0 0 b__law_ways
theorem l__law_ways {ps : List P} {p : P} (h : m__law_ways ps = some p) : ps.length = 0 := runP_len h
noncomputable def b__law_runs : Sx := sSeq (sSet 1 (xA (gCallP m__law_ways) (aNil))) (sSeq (sSet 2 (xA gDictN (aCons (xLc (iAny (xVar 0)) (gNm 4) (tYesX) (xA gTup (aCons (xVar 4) (aCons (xP (.bool true)) (aNil)))) [4]) (aNil)))) (sSeq (sSet 3 (xA gLstN (aNil))) (sSeq (sFor (iAny (xA gSortedA (aCons (xVar 0) (aNil)))) (gNm 4) (sSeq (sIf (tOfE (x2 (gInZ false) (xVar 4) (xVar 2))) (sSeq (sSet 5 (xA gLstN (aNil))) (sSeq (sSet 6 (xLr1 (fun ps => .nw (.lst ps)) (xP (.int 8)))) (sSeq (sWhile (tOfE (x2 (gIsN true) (xVar 4) (xP .none))) (sSeq (sApp (xVar 5) (xVar 4)) (sSeq (sPop1 (xVar 2) (xVar 4)) (sSeq (sSet 7 (xVar 4)) (sSeq (sSet 4 (xP .none)) (sFq 6 (sSeq (sFor (iAny (xVar 6)) (gNm 8) (sSeq (sSet 9 (xA gTup (aCons (x2 gAdd (x2 gIx (xVar 7) (xP (.int 0))) (x2 gIx (x2 gGet (xVar 1) (xVar 8)) (xP (.int 0)))) (aCons (x2 gAdd (x2 gIx (xVar 7) (xP (.int 1))) (x2 gIx (x2 gGet (xVar 1) (xVar 8)) (xP (.int 1)))) (aNil))))) (sSeq (sIf (tAndX (tOfE (x2 (gIsN false) (xVar 4) (xP .none))) (tOfE (x2 (gInZ false) (xVar 9) (xVar 2)))) (sSeq (sSet 4 (xVar 9)) (sSeq (sSetLc 6 (iAny (xA gTup (aCons (xP (.int 0)) (aCons (xP (.int 1)) (aCons (xP (.int 7)) (aCons (xP (.int 2)) (aCons (xP (.int 6)) (aCons (xP (.int 3)) (aCons (xP (.int 5)) (aNil)))))))))) (gNm 10) (tYesX) (x2 (s2 pMod) (x2 gAdd (xVar 8) (xVar 10)) (xP (.int 8))) [10]) (sNil))) (sNil)) (sNil)))) (sNil)))))))) (sSeq (sIf (tAndX (tOfE (x2 (s2 (pIB fun i j => decide (j < i))) (xA gLenA (aCons (xVar 5) (aNil))) (xP (.int 2)))) (tOfE (x2 (gEq false) (xA (a2 pMax2) (aCons (xA (a1 pAbs) (aCons (x2 (s2 pSub) (x2 gIx (x2 gIx (xVar 5) (xP (.int 0))) (xP (.int 0))) (x2 gIx (x2 gIx (xVar 5) (x1 (s1 pNeg) (xP (.int 1)))) (xP (.int 0)))) (aNil))) (aCons (xA (a1 pAbs) (aCons (x2 (s2 pSub) (x2 gIx (x2 gIx (xVar 5) (xP (.int 0))) (xP (.int 1))) (x2 gIx (x2 gIx (xVar 5) (x1 (s1 pNeg) (xP (.int 1)))) (xP (.int 1)))) (aNil))) (aNil)))) (xP (.int 1))))) (sSeq (sApp (xVar 5) (x2 gIx (xVar 5) (xP (.int 0)))) (sNil)) (sNil)) (sFq 5 (sSeq (sApp (xVar 3) (xVar 5)) (sNil))))))) (sNil)) (sNil))) (sFq 3 (sSeq (sRet (xVar 3)) (sNil))))))
noncomputable def m__law_runs : List P → Option P := runP 1 11 b__law_runs
theorem l__law_runs {ps : List P} {p : P} (h : m__law_runs ps = some p) : ps.length = 1 := runP_len h
noncomputable def b_sign_of_r : Sx := sSeq (sIf (tOfE (x2 (s2 (pIB fun i j => decide (j < i))) (xVar 0) (xP (.int 0)))) (sSeq (sRet (xP (.int 1))) (sNil)) (sNil)) (sSeq (sRet (x1 (s1 pNeg) (xA (a1 pInt) (aCons (x2 (s2 (pIB fun i j => decide (i < j))) (xVar 0) (xP (.int 0))) (aNil))))) (sNil))
noncomputable def m_sign_of_r : List P → Option P := runP 1 1 b_sign_of_r
theorem l_sign_of_r {ps : List P} {p : P} (h : m_sign_of_r ps = some p) : ps.length = 1 := runP_len h
def p_DIRECTIONS_corners : P := .tuple [(.tuple [(.int 1), (.int 0)]), (.tuple [(.int 1), (.int 1)]), (.tuple [(.int 0), (.int 1)]), (.tuple [(.int (-1)), (.int 1)]), (.tuple [(.int (-1)), (.int 0)]), (.tuple [(.int (-1)), (.int (-1))]), (.tuple [(.int 0), (.int (-1))]), (.tuple [(.int 1), (.int (-1))])]
noncomputable def b_straight_r : Sx := sSeq (sPar 3 4 (aCons (x2 (s2 pSub) (x2 gIx (xVar 1) (xP (.int 0))) (x2 gIx (xVar 0) (xP (.int 0)))) (aCons (x2 (s2 pSub) (x2 gIx (xVar 1) (xP (.int 1))) (x2 gIx (xVar 0) (xP (.int 1)))) (aNil)))) (sSeq (sSet 2 (xA (a2 pMax2) (aCons (xA (a1 pAbs) (aCons (xVar 3) (aNil))) (aCons (xA (a1 pAbs) (aCons (xVar 4) (aNil))) (aNil))))) (sSeq (sIf (tOrX (tOfE (x2 (gEq false) (xVar 2) (xP (.int 0)))) (tAndX (tOfE (x2 (gEq true) (xVar 3) (xP (.int 0)))) (tAndX (tOfE (x2 (gEq true) (xVar 4) (xP (.int 0)))) (tOfE (x2 (gEq true) (xA (a1 pAbs) (aCons (xVar 3) (aNil))) (xA (a1 pAbs) (aCons (xVar 4) (aNil)))))))) (sSeq (sRet (xP .none)) (sNil)) (sNil)) (sSeq (sRet (xA gTup (aCons (x2 gTIx (xD (wrD p_DIRECTIONS_corners)) (xA gTup (aCons (xA (gCallP m_sign_of_r) (aCons (xVar 3) (aNil))) (aCons (xA (gCallP m_sign_of_r) (aCons (xVar 4) (aNil))) (aNil))))) (aCons (xVar 2) (aNil))))) (sNil))))
noncomputable def m_straight_r : List P → Option P := runP 2 5 b_straight_r
theorem l_straight_r {ps : List P} {p : P} (h : m_straight_r ps = some p) : ps.length = 2 := runP_len h
noncomputable def b_is_step : Sx := sSeq (sSet 2 (xA (gCallP m_straight_r) (aCons (xVar 0) (aCons (xVar 1) (aNil))))) (sSeq (sRet (xAndX (x2 (gIsN true) (xVar 2) (xP .none)) (x2 (gEq false) (x2 gIx (xVar 2) (xP (.int 1))) (xP (.int 1))))) (sNil))
noncomputable def m_is_step : List P → Option P := runP 2 3 b_is_step
theorem l_is_step {ps : List P} {p : P} (h : m_is_step ps = some p) : ps.length = 2 := runP_len h
def p_LEAST_CLOSED : P := .int 3
noncomputable def b_closed_run : Sx := sSeq (sIf (tAndX (tOfE (x2 (s2 (pIB fun i j => decide (j ≤ i))) (xA gLen (aCons (xVar 0) (aNil))) (xD (wrD p_LEAST_CLOSED)))) (tOfE (xA (gCallP m_is_step) (aCons (x2 gIx (xVar 0) (x1 (s1 pNeg) (xP (.int 1)))) (aCons (x2 gIx (xVar 0) (xP (.int 0))) (aNil)))))) (sSeq (sRet (x2 gAdd (xVar 0) (xA gLst (aCons (x2 gIx (xVar 0) (xP (.int 0))) (aNil))))) (sNil)) (sNil)) (sSeq (sRet (xVar 0)) (sNil))
noncomputable def m_closed_run : List P → Option P := runP 1 1 b_closed_run
theorem l_closed_run {ps : List P} {p : P} (h : m_closed_run ps = some p) : ps.length = 1 := runP_len h
def p_DIRECTIONS_runs : P := .int 8
def p_TURNS : P := .tuple [(.int 0), (.int 1), (.int (-1)), (.int 2), (.int (-2)), (.int 3), (.int (-3))]
noncomputable def b_directions_from : Sx := sSeq (sIf (tOfE (x2 (gIsN false) (xVar 0) (xP .none))) (sSeq (sRet (xLr1 (fun ps => .pu (.list ps)) (xD (wrD p_DIRECTIONS_runs)))) (sNil)) (sNil)) (sSeq (sRet (xLc (iSeq (xD (wrD p_TURNS))) (gNm 1) (tYesX) (x2 (s2 pMod) (x2 gAdd (xVar 0) (xVar 1)) (xD (wrD p_DIRECTIONS_runs))) [1])) (sNil))
noncomputable def m_directions_from : List P → Option P := runP 1 2 b_directions_from
theorem l_directions_from {ps : List P} {p : P} (h : m_directions_from ps = some p) : ps.length = 1 := runP_len h
noncomputable def b_stepped : Sx := sSeq (sAsg (x2 gGet (xD (wrD p_DIRECTIONS_corners)) (xVar 1)) (gtLst 2 (gnCons (gNm 3) (gnCons (gNm 4) (gnNil))))) (sSeq (sRet (xA gTup (aCons (x2 gAdd (x2 gIx (xVar 0) (xP (.int 0))) (x2 (s2 pMul) (xVar 3) (xVar 2))) (aCons (x2 gAdd (x2 gIx (xVar 0) (xP (.int 1))) (x2 (s2 pMul) (xVar 4) (xVar 2))) (aNil))))) (sNil))
noncomputable def m_stepped : List P → Option P := runP 3 5 b_stepped
theorem l_stepped {ps : List P} {p : P} (h : m_stepped ps = some p) : ps.length = 3 := runP_len h
noncomputable def b_next_direction : Sx := sSeq (sFor (iAny (xA (gCallP m_directions_from) (aCons (xVar 2) (aNil)))) (gNm 3) (sSeq (sIf (tOfE (x2 (gInZ false) (xA (gCallP m_stepped) (aCons (xVar 1) (aCons (xVar 3) (aCons (xP (.int 1)) (aNil))))) (xVar 0))) (sSeq (sRet (xVar 3)) (sNil)) (sNil)) (sNil))) (sSeq (sRet (xP .none)) (sNil))
noncomputable def m_next_direction : List D → Sto → Option (D × Sto) := runF 3 4 b_next_direction
theorem l_next_direction {ds : List D} {S : Sto} {p : D × Sto} (h : m_next_direction ds S = some p) : ds.length = 3 := runF_len h
noncomputable def b_run_from : Sx := sSeq (sSet 2 (xA gLstN (aCons (xVar 1) (aNil)))) (sSeq (sPopC (xVar 0) (xVar 1)) (sSeq (sSet 3 (xA (gCallF m_next_direction) (aCons (xVar 0) (aCons (xVar 1) (aCons (xP .none) (aNil)))))) (sSeq (sWhile (tOfE (x2 (gIsN true) (xVar 3) (xP .none))) (sSeq (sApp (xVar 2) (xA (gCallP m_stepped) (aCons (x2 gIx (xVar 2) (x1 (s1 pNeg) (xP (.int 1)))) (aCons (xVar 3) (aCons (xP (.int 1)) (aNil)))))) (sSeq (sPopC (xVar 0) (x2 gIx (xVar 2) (x1 (s1 pNeg) (xP (.int 1))))) (sSeq (sSet 3 (xA (gCallF m_next_direction) (aCons (xVar 0) (aCons (x2 gIx (xVar 2) (x1 (s1 pNeg) (xP (.int 1)))) (aCons (xVar 3) (aNil)))))) (sNil))))) (sFq 2 (sSeq (sRet (xVar 2)) (sNil))))))
noncomputable def m_run_from : List D → Sto → Option (D × Sto) := runF 2 4 b_run_from
theorem l_run_from {ds : List D} {S : Sto} {p : D × Sto} (h : m_run_from ds S = some p) : ds.length = 2 := runF_len h
noncomputable def b_runs : Sx := sSeq (sSet 1 (xDct)) (sSeq (sFor (iAny (xVar 0)) (gNm 2) (sSeq (sAsg (xP (.bool true)) (gSubT (xVar 1) (xA gTupleA (aCons (xVar 2) (aNil))))) (sNil))) (sSeq (sSet 3 (xA gLstN (aNil))) (sSeq (sFor (iAny (xA gSortedA (aCons (xA gListA (aCons (xVar 1) (aNil))) (aNil)))) (gNm 2) (sSeq (sIf (tOfE (x2 (gInZ false) (xVar 2) (xVar 1))) (sSeq (sApp (xVar 3) (xA (gCallP m_closed_run) (aCons (xA (gCallF m_run_from) (aCons (xVar 1) (aCons (xVar 2) (aNil)))) (aNil)))) (sNil)) (sNil)) (sNil))) (sFq 3 (sSeq (sRet (xVar 3)) (sNil))))))
noncomputable def m_runs : List P → Option P := runP 1 4 b_runs
theorem l_runs {ps : List P} {p : P} (h : m_runs ps = some p) : ps.length = 1 := runP_len h
end DL
namespace K29
open PySem PySem.Spec PyProof.Rows L2 DL
def topS (i : Nat) : Stmt := PySem.Challenge.pw_millpath_k29_runs_walked.main.body.getD i (.Pass ⟨0, 0, 0, 0⟩)
/-! ### _law_begin -/
abbrev s__law_begin : Stmt := topS 16
abbrev N__law_begin : List Str := ["_law_script", "_law_cells"]
theorem sc__law_begin : FnScope N__law_begin ["_law_script"] (defScope s__law_begin) := ⟨rfl, rfl, rfl, by decide +kernel, rfl, by decide +kernel, by decide +kernel⟩
theorem ok__law_begin {Pg : Program} {w : World} {K : PySem.W.Frag} {mg : Str → Option Value} {base : Heap} {cl : Str → Option Addr} {f : Addr} {fd : FuncData} (F : Fun K "_law_begin" "_law_begin" s__law_begin f fd) (z_list : mg "list" = none) : FnOk Pg w K mg base CX0 1 f fd ["_law_script"] (SpF K cl 1 m__law_begin) :=
  fnF (k := 0) (cl := cl) F sc__law_begin rfl fun cdv A outer s H E G hG hcl hr => by
    have nd := sc__law_begin.nd
    have hK : K = G.K := hG.symm
    have hu := hu_of hr
    have hu2 := hr.units
    have hu3 := hu65 hr
    exact ds_cons (ds_set nd rfl (by first | exact .inl rfl | exact .inr rfl) (d_callTy call_list_of (v_listC hK) (by rfl) z_list (by rfl) (d_acons (d_slice hK (d_var 0) (d_onone) (d_osome (d_int))) (d_anil)))) (ds_cons (ds_if (d_cmpT (op_eqD hu2) (v_eq hK) (d_var 1) (d_lst (d_anil)) (nomark _)) (ds_cons (ds_set nd rfl (by first | exact .inl rfl | exact .inr rfl) (d_lstC (d_acons (d_int) (d_anil)))) (ds_nil)) (ds_nil)) (ds_cons (ds_ret (d_disp (dps_cons pe_str (d_var 1) (dps_cons pe_str (d_int) (dps_nil))))) (ds_nil)))
/-! ### _law_take -/
abbrev s__law_take : Stmt := topS 17
abbrev N__law_take : List Str := ["_law_state", "_law_many", "_law_turn", "_law_place", "_law_cell", "_law_mixed", "_law_digit"]
theorem sc__law_take : FnScope N__law_take ["_law_state", "_law_many"] (defScope s__law_take) := ⟨rfl, rfl, rfl, by decide +kernel, rfl, by decide +kernel, by decide +kernel⟩
theorem ok__law_take {Pg : Program} {w : World} {K : PySem.W.Frag} {mg : Str → Option Value} {base : Heap} {cl : Str → Option Addr} {f : Addr} {fd : FuncData} (F : Fun K "_law_take" "_law_take" s__law_take f fd) (z_divmod : mg "divmod" = none) (z_len : mg "len" = none) : FnOk Pg w K mg base CX0 1 f fd ["_law_state", "_law_many"] (SpF K cl 2 m__law_take) :=
  fnF (k := 0) (cl := cl) F sc__law_take rfl fun cdv A outer s H E G hG hcl hr => by
    have nd := sc__law_take.nd
    have hK : K = G.K := hG.symm
    have hu := hu_of hr
    have hu2 := hr.units
    have hu3 := hu65 hr
    exact ds_cons (ds_set nd rfl (by first | exact .inl rfl | exact .inr rfl) (d_op op_addA (v_add hK) (d_get hK hu (d_var 0) (d_str) (fun _ _ => rfl) (fun _ _ => rfl)) (d_int))) (ds_cons (ds_asg (u := fun _ => true) (d_var 2) (dg_sub hu (d_var 0) (d_str))) (ds_cons (ds_set nd rfl (by first | exact .inl rfl | exact .inr rfl) (d_op op_mod vp_mod.v (d_var 2) (d_callB call_len (v_len hK) (by rfl) z_len (by rfl) (d_acons (d_get hK hu (d_var 0) (d_str) (fun _ _ => rfl) (fun _ _ => rfl)) (d_anil))))) (ds_cons (ds_set nd rfl (by first | exact .inl rfl | exact .inr rfl) (d_get hK hu (d_get hK hu (d_var 0) (d_str) (fun _ _ => rfl) (fun _ _ => rfl)) (d_var 3) (fun _ _ => rfl) (fun _ _ => rfl))) (ds_cons (ds_if (d_cmpT op_ge vp_IB.v (d_var 4) (d_op op_pow vp_pow.v (d_int) (d_int)) (nomark _)) (ds_cons (ds_asg (u := fun _ => true) (d_callB call_divmod vp_divmod.v (by rfl) z_divmod (by rfl) (d_acons (d_var 4) (d_acons (d_var 1) (d_anil)))) (dg_any hK rfl (dgs_cons (dg_sub hu (d_get hK hu (d_var 0) (d_str) (fun _ _ => rfl) (fun _ _ => rfl)) (d_var 3)) (dgs_cons (dg_name (i := 6) (by decide) nd rfl (by first | exact .inl rfl | exact .inr rfl)) (dgs_nil))))) (ds_cons (ds_ret (d_var 6)) (ds_nil))) (ds_nil)) (ds_cons (ds_set nd rfl (by first | exact .inl rfl | exact .inr rfl) (d_op op_mod vp_mod.v (d_op op_mul vp_mul.v (d_op op_addA (v_add hK) (d_op op_addA (v_add hK) (d_op op_mod vp_mod.v (d_var 4) (d_int)) (d_op op_mul vp_mul.v (d_op op_mul vp_mul.v (d_var 2) (d_var 2)) (d_int))) (d_int)) (d_int)) (d_int))) (ds_cons (ds_set nd rfl (by first | exact .inl rfl | exact .inr rfl) (d_op op_mod vp_mod.v (d_op op_mul vp_mul.v (d_var 5) (d_var 5)) (d_int))) (ds_cons (ds_ret (d_op op_mod vp_mod.v (d_op op_fdiv vp_div.v (d_op op_mod vp_mod.v (d_op op_mul vp_mul.v (d_op op_addA (v_add hK) (d_var 5) (d_op op_mul vp_mul.v (d_var 2) (d_int))) (d_int)) (d_int)) (d_int)) (d_var 1))) (ds_nil))))))))
/-! ### _law_great_box -/
abbrev s__law_great_box : Stmt := topS 22
abbrev N__law_great_box : List Str := ["_law_state", "_law_points_here", "_law_cut", "_law_left", "_law_low", "_law_k", "_law_point"]
theorem sc__law_great_box : FnScope N__law_great_box ["_law_state"] (defScope s__law_great_box) := ⟨rfl, rfl, rfl, by decide +kernel, rfl, by decide +kernel, by decide +kernel⟩
theorem ok__law_great_box {Pg : Program} {w : World} {K : PySem.W.Frag} {mg : Str → Option Value} {base : Heap} {cl : Str → Option Addr} {f : Addr} {fd : FuncData} (F : Fun K "_law_great_box" "_law_great_box" s__law_great_box f fd) (z_range : mg "range" = none) (G__law_take : Callee Pg w K mg base 1 "_law_take" ["_law_state", "_law_many"] (SpF K cl 2 (m__law_take))) : FnOk Pg w K mg base CX0 2 f fd ["_law_state"] (SpF K cl 1 m__law_great_box) :=
  fnF (k := 1) (cl := cl) F sc__law_great_box rfl fun cdv A outer s H E G hG hcl hr => by
    have nd := sc__law_great_box.nd
    have hK : K = G.K := hG.symm
    have hu := hu_of hr
    have hu2 := hr.units
    have hu3 := hu65 hr
    exact ds_cons (ds_asg (u := fun _ => true) (d_tup (d_acons (d_op op_sub vp_sub.v (d_cF (by rw [hG, hcl]; exact G__law_take) (fun _ _ _ h => l__law_take h) (hr.mono (by decide)) (d_acons (d_var 0) (d_acons (d_int) (d_anil)))) (d_int)) (d_acons (d_op op_sub vp_sub.v (d_cF (by rw [hG, hcl]; exact G__law_take) (fun _ _ _ h => l__law_take h) (hr.mono (by decide)) (d_acons (d_var 0) (d_acons (d_int) (d_anil)))) (d_int)) (d_anil)))) (dn_dg (dn_tup hK rfl (dns_cons (dn_name (i := 3) (by decide) nd rfl (by first | exact .inl rfl | exact .inr rfl)) (keep_nm) (dns_cons (dn_name (i := 4) (by decide) nd rfl (by first | exact .inl rfl | exact .inr rfl)) (keep_nm) (dns_nil)))) (keep_lst (keep_cons (keep_cons (keep_nil)))))) (ds_cons (ds_setLc (own := [("_law_k", 5)]) (keep_nm) rfl nd rfl rfl (sw_true rfl rfl rfl (by decide +kernel)) (di_range1 (by rfl) z_range (d_acons (d_int) (d_anil))) (blkOk_by (N := N__law_great_box) (sc := defScope s__law_great_box) (by decide +kernel)) (fun _ _ _ _ _ => dn_name (i := 5) (by decide) nd rfl (by first | exact .inl rfl | exact .inr rfl)) (fun _ _ _ _ _ => dts_nil) (fun _ _ _ _ _ => d_tup (d_acons (d_op op_addA (v_add hK) (d_var 3) (d_op op_fdiv vp_div.v (d_var 5) (d_int))) (d_acons (d_op op_addA (v_add hK) (d_var 4) (d_op op_mod vp_mod.v (d_var 5) (d_int))) (d_anil))))) (ds_cons (ds_set nd rfl (by first | exact .inl rfl | exact .inr rfl) (d_cF (by rw [hG, hcl]; exact G__law_take) (fun _ _ _ h => l__law_take h) (hr.mono (by decide)) (d_acons (d_var 0) (d_acons (d_int) (d_anil))))) (ds_cons (ds_set nd rfl (by first | exact .inl rfl | exact .inr rfl) (d_op op_catL v_catN (d_slice hK (d_var 1) (d_osome (d_var 2)) (d_onone)) (d_slice hK (d_var 1) (d_onone) (d_osome (d_var 2))))) (ds_cons (ds_if (d_cmpT (op_eqD hu2) (v_eq hK) (d_cF (by rw [hG, hcl]; exact G__law_take) (fun _ _ _ h => l__law_take h) (hr.mono (by decide)) (d_acons (d_var 0) (d_acons (d_int) (d_anil)))) (d_int) (nomark _)) (ds_fq 1 (ds_cons (ds_setLc (own := [("_law_point", 6)]) (keep_nm) rfl nd rfl rfl (sw_true rfl rfl rfl (by decide +kernel)) (di_seq hK (d_var 1)) (blkOk_by (N := N__law_great_box) (sc := defScope s__law_great_box) (by decide +kernel)) (fun _ _ _ _ _ => dn_name (i := 6) (by decide) nd rfl (by first | exact .inl rfl | exact .inr rfl)) (fun _ _ _ _ _ => dts_one (d_cmpT op_gt vp_IB.v (d_op op_mod vp_mod.v (d_op op_addA (v_add hK) (d_op op_mul vp_mul.v (d_ix hK (d_var 6) (d_int) (fun _ _ => rfl)) (d_int)) (d_op op_mul vp_mul.v (d_ix hK (d_var 6) (d_int) (fun _ _ => rfl)) (d_ix hK (d_var 6) (d_int) (fun _ _ => rfl)))) (d_int)) (d_int) (nomark _))) (fun _ _ _ _ _ => d_var 6)) (ds_nil))) (ds_nil)) (ds_fq 1 (ds_cons (ds_ret (d_var 1)) (ds_nil)))))))
/-! ### _law_points -/
abbrev s__law_points : Stmt := topS 20
abbrev N__law_points : List Str := ["_law_state", "_law_way", "_law_sizes", "_law_points_here", "_law_x", "_law_left", "_law_low", "_law_y", "_law_turn", "_law_edge", "_law_in_it"]
theorem sc__law_points : FnScope N__law_points ["_law_state"] (defScope s__law_points) := ⟨rfl, rfl, rfl, by decide +kernel, rfl, by decide +kernel, by decide +kernel⟩
theorem ok__law_points {Pg : Program} {w : World} {K : PySem.W.Frag} {mg : Str → Option Value} {base : Heap} {cl : Str → Option Addr} {f : Addr} {fd : FuncData} (F : Fun K "_law_points" "_law_points" s__law_points f fd) (z_len : mg "len" = none) (z_range : mg "range" = none) (G__law_take : Callee Pg w K mg base 1 "_law_take" ["_law_state", "_law_many"] (SpF K cl 2 (m__law_take))) : FnOk Pg w K mg base CX0 2 f fd ["_law_state"] (SpF K cl 1 m__law_points) :=
  fnF (k := 1) (cl := cl) F sc__law_points rfl fun cdv A outer s H E G hG hcl hr => by
    have nd := sc__law_points.nd
    have hK : K = G.K := hG.symm
    have hu := hu_of hr
    have hu2 := hr.units
    have hu3 := hu65 hr
    exact ds_cons (ds_set nd rfl (by first | exact .inl rfl | exact .inr rfl) (d_cF (by rw [hG, hcl]; exact G__law_take) (fun _ _ _ h => l__law_take h) (hr.mono (by decide)) (d_acons (d_var 0) (d_acons (d_int) (d_anil))))) (ds_cons (ds_setLc (own := [("_law_turn", 8)]) (keep_nm) rfl nd rfl rfl (sw_true rfl rfl rfl (by decide +kernel)) (di_range1 (by rfl) z_range (d_acons (d_int) (d_anil))) (blkOk_by (N := N__law_points) (sc := defScope s__law_points) (by decide +kernel)) (fun _ _ _ _ _ => dn_name (i := 8) (by decide) nd rfl (by first | exact .inl rfl | exact .inr rfl)) (fun _ _ _ _ _ => dts_nil) (fun _ _ _ _ _ => d_op op_addA (v_add hK) (d_int) (d_cF (by rw [hG, hcl]; exact G__law_take) (fun _ _ _ h => l__law_take h) (hr.mono (by decide)) (d_acons (d_var 0) (d_acons (d_ix hK (d_lst (d_acons (d_int) (d_acons (d_int) (d_acons (d_int) (d_anil))))) (d_cF (by rw [hG, hcl]; exact G__law_take) (fun _ _ _ h => l__law_take h) (hr.mono (by decide)) (d_acons (d_var 0) (d_acons (d_int) (d_anil)))) (fun _ _ => rfl)) (d_anil)))))) (ds_cons (ds_par rfl nd rfl rfl (by decide) rfl rfl (d_acons (d_op op_sub vp_sub.v (d_cF (by rw [hG, hcl]; exact G__law_take) (fun _ _ _ h => l__law_take h) (hr.mono (by decide)) (d_acons (d_var 0) (d_acons (d_int) (d_anil)))) (d_int)) (d_acons (d_op op_sub vp_sub.v (d_cF (by rw [hG, hcl]; exact G__law_take) (fun _ _ _ h => l__law_take h) (hr.mono (by decide)) (d_acons (d_var 0) (d_acons (d_int) (d_anil)))) (d_int)) (d_anil))) (by rfl)) (ds_cons (ds_set nd rfl (by first | exact .inl rfl | exact .inr rfl) (d_lstN (d_anil))) (ds_cons (ds_for (u := fun _ => true) PassesOwn.never rfl (di_range1 (by rfl) z_range (d_acons (d_ix hK (d_var 2) (d_int) (fun _ _ => rfl)) (d_anil))) (dg_name (i := 4) (by decide) nd rfl (by first | exact .inl rfl | exact .inr rfl)) (ds_cons (ds_for (u := fun _ => true) PassesOwn.never rfl (di_range1 (by rfl) z_range (d_acons (d_ix hK (d_var 2) (d_int) (fun _ _ => rfl)) (d_anil))) (dg_name (i := 7) (by decide) nd rfl (by first | exact .inl rfl | exact .inr rfl)) (ds_cons (ds_set nd rfl (by first | exact .inl rfl | exact .inr rfl) (d_or (d_cmp (op_inA hu3) (v_in hK) (d_var 4) (d_tup (d_acons (d_int) (d_acons (d_op op_sub vp_sub.v (d_ix hK (d_var 2) (d_int) (fun _ _ => rfl)) (d_int)) (d_anil)))) (by rfl)) (d_one (d_cmp (op_inA hu3) (v_in hK) (d_var 7) (d_tup (d_acons (d_int) (d_acons (d_op op_sub vp_sub.v (d_ix hK (d_var 2) (d_int) (fun _ _ => rfl)) (d_int)) (d_anil)))) (by rfl))))) (ds_cons (ds_set nd rfl (by first | exact .inl rfl | exact .inr rfl) (d_ix hK (d_lst (d_acons (d_bl) (d_acons (d_var 9) (d_acons (d_cmp (op_eqD hu2) (v_eq hK) (d_op op_mod vp_mod.v (d_op op_addA (v_add hK) (d_var 4) (d_var 7)) (d_int)) (d_int) (nomark _)) (d_acons (d_cmp (op_eqD hu2) (v_eq hK) (d_op op_mod vp_mod.v (d_op op_sub vp_sub.v (d_var 4) (d_var 7)) (d_int)) (d_int) (nomark _)) (d_acons (d_or (d_cmp (op_eqD hu2) (v_eq hK) (d_op op_mod vp_mod.v (d_var 7) (d_int)) (d_int) (nomark _)) (d_one (d_cmp (op_eqD hu2) (v_eq hK) (d_op op_mod vp_mod.v (d_var 4) (d_int)) (d_int) (nomark _)))) (d_acons (d_bl) (d_acons (d_bl) (d_anil))))))))) (d_var 1) (fun _ _ => rfl))) (ds_cons (ds_if (d_cmpT op_gt vp_IB.v (d_var 1) (d_int) (nomark _)) (ds_cons (ds_set nd rfl (by first | exact .inl rfl | exact .inr rfl) (d_cmp op_gt vp_IB.v (d_cF (by rw [hG, hcl]; exact G__law_take) (fun _ _ _ h => l__law_take h) (hr.mono (by decide)) (d_acons (d_var 0) (d_acons (d_op op_sub vp_sub.v (d_var 1) (d_int)) (d_anil)))) (d_int) (nomark _))) (ds_nil)) (ds_nil)) (ds_cons (ds_if (d_test (d_var 10)) (ds_cons (ds_ins (d_var 3) (d_cF (by rw [hG, hcl]; exact G__law_take) (fun _ _ _ h => l__law_take h) (hr.mono (by decide)) (d_acons (d_var 0) (d_acons (d_op op_addA (v_add hK) (d_callB call_len (v_len hK) (by rfl) z_len (by rfl) (d_acons (d_var 3) (d_anil))) (d_int)) (d_anil)))) (d_tup (d_acons (d_op op_addA (v_add hK) (d_var 5) (d_var 4)) (d_acons (d_op op_addA (v_add hK) (d_var 6) (d_var 7)) (d_anil))))) (ds_nil)) (ds_nil)) (ds_nil)))))) (ds_nil))) (ds_fq 3 (ds_cons (ds_ret (d_var 3)) (ds_nil)))))))
/-! ### _law_ways -/
abbrev s__law_ways : Stmt := topS 19
abbrev N__law_ways : List Str := []
theorem sc__law_ways : FnScope N__law_ways [] (defScope s__law_ways) := ⟨rfl, rfl, rfl, by decide +kernel, rfl, by decide +kernel, by decide +kernel⟩
theorem ok__law_ways {Pg : Program} {w : World} {K : PySem.W.Frag} {mg : Str → Option Value} {base : Heap} {cl : Str → Option Addr} {f : Addr} {fd : FuncData} (F : Fun K "_law_ways" "_law_ways" s__law_ways f fd) : FnOk Pg w K mg base CX0 1 f fd [] (SpP 0 m__law_ways) :=
  fnP (k := 0) (cl := cl) F sc__law_ways rfl fun cdv A outer s H E G hG hcl hr => by
    have nd := sc__law_ways.nd
    have hK : K = G.K := hG.symm
    have hu := hu_of hr
    have hu2 := hr.units
    have hu3 := hu65 hr
    exact ds_cons (ds_ret (d_lst (d_acons (d_tup (d_acons (d_int) (d_acons (d_int) (d_anil)))) (d_acons (d_tup (d_acons (d_int) (d_acons (d_int) (d_anil)))) (d_acons (d_tup (d_acons (d_int) (d_acons (d_int) (d_anil)))) (d_acons (d_tup (d_acons (d_un un_neg vp_neg.v (d_int)) (d_acons (d_int) (d_anil)))) (d_acons (d_tup (d_acons (d_un un_neg vp_neg.v (d_int)) (d_acons (d_int) (d_anil)))) (d_acons (d_tup (d_acons (d_un un_neg vp_neg.v (d_int)) (d_acons (d_un un_neg vp_neg.v (d_int)) (d_anil)))) (d_acons (d_tup (d_acons (d_int) (d_acons (d_un un_neg vp_neg.v (d_int)) (d_anil)))) (d_acons (d_tup (d_acons (d_int) (d_acons (d_un un_neg vp_neg.v (d_int)) (d_anil)))) (d_anil))))))))))) (ds_nil)
/-! ### _law_runs -/
abbrev s__law_runs : Stmt := topS 21
abbrev N__law_runs : List Str := ["_law_points_here", "_law_ways_here", "_law_left", "_law_found", "_law_point", "_law_road", "_law_order", "_law_ahead", "_law_way", "_law_other", "_law_turn"]
theorem sc__law_runs : FnScope N__law_runs ["_law_points_here"] (defScope s__law_runs) := ⟨rfl, rfl, rfl, by decide +kernel, rfl, by decide +kernel, by decide +kernel⟩
theorem ok__law_runs {Pg : Program} {w : World} {K : PySem.W.Frag} {mg : Str → Option Value} {base : Heap} {cl : Str → Option Addr} {f : Addr} {fd : FuncData} (F : Fun K "_law_runs" "_law_runs" s__law_runs f fd) (z_abs : mg "abs" = none) (z_dict : mg "dict" = none) (z_len : mg "len" = none) (z_list : mg "list" = none) (z_max : mg "max" = none) (z_range : mg "range" = none) (z_sorted : mg "sorted" = none) (G__law_ways : Callee Pg w K mg base 1 "_law_ways" [] (SpP 0 (m__law_ways))) : FnOk Pg w K mg base CX0 2 f fd ["_law_points_here"] (SpP 1 m__law_runs) :=
  fnP (k := 1) (cl := cl) F sc__law_runs rfl fun cdv A outer s H E G hG hcl hr => by
    have nd := sc__law_runs.nd
    have hK : K = G.K := hG.symm
    have hu := hu_of hr
    have hu2 := hr.units
    have hu3 := hu65 hr
    exact ds_cons (ds_set nd rfl (by first | exact .inl rfl | exact .inr rfl) (d_cP0 G__law_ways (fun _ _ h => l__law_ways h) (hr.mono (by decide)))) (ds_cons (ds_set nd rfl (by first | exact .inl rfl | exact .inr rfl) (d_callTy (call_dictA rfl hu3) (v_dictN hK) (by rfl) z_dict (by rfl) (d_acons (d_lc (own := [("_law_point", 4)]) (keep_nm) rfl nd (di_any hK (d_var 0)) (blkOk_by (N := N__law_runs) (sc := defScope s__law_runs) (by decide +kernel)) (fun _ _ _ _ _ => dn_name (i := 4) (by decide) nd rfl (by first | exact .inl rfl | exact .inr rfl)) (fun _ _ _ _ _ => dts_nil) (fun _ _ _ _ _ => d_tup (d_acons (d_var 4) (d_acons (d_bl) (d_anil))))) (d_anil)))) (ds_cons (ds_set nd rfl (by first | exact .inl rfl | exact .inr rfl) (d_lstN (d_anil))) (ds_cons (ds_for (u := fun _ => true) PassesOwn.never rfl (di_any hK (d_callB (cr_sortA rfl hu3) (v_sortA hK) (by rfl) z_sorted (by rfl) (d_acons (d_var 0) (d_anil)))) (dg_name (i := 4) (by decide) nd rfl (by first | exact .inl rfl | exact .inr rfl)) (ds_cons (ds_if (d_cmpT (op_inZ hu3) (v_inZ hK) (d_var 4) (d_var 2) (by rfl)) (ds_cons (ds_set nd rfl (by first | exact .inl rfl | exact .inr rfl) (d_lstN (d_anil))) (ds_cons (ds_set nd rfl (by first | exact .inl rfl | exact .inr rfl) (d_listRg1N rfl (by rfl) z_list (by rfl) z_range (d_int))) (ds_cons (ds_while PassesOwn.never (d_cmpT op_notN v_notN (d_var 4) (d_non) (nomark _)) (ds_cons (ds_app (d_var 5) (d_var 4)) (ds_cons (ds_pop1 hu (d_var 2) (d_var 4)) (ds_cons (ds_set nd rfl (by first | exact .inl rfl | exact .inr rfl) (d_var 4)) (ds_cons (ds_set nd rfl (by first | exact .inl rfl | exact .inr rfl) (d_non)) (ds_fq 6 (ds_cons (ds_for (u := fun _ => true) PassesOwn.never rfl (di_any hK (d_var 6)) (dg_name (i := 8) (by decide) nd rfl (by first | exact .inl rfl | exact .inr rfl)) (ds_cons (ds_set nd rfl (by first | exact .inl rfl | exact .inr rfl) (d_tup (d_acons (d_op op_addA (v_add hK) (d_ix hK (d_var 7) (d_int) (fun _ _ => rfl)) (d_ix hK (d_get hK hu (d_var 1) (d_var 8) (fun _ _ => rfl) (fun _ _ => rfl)) (d_int) (fun _ _ => rfl))) (d_acons (d_op op_addA (v_add hK) (d_ix hK (d_var 7) (d_int) (fun _ _ => rfl)) (d_ix hK (d_get hK hu (d_var 1) (d_var 8) (fun _ _ => rfl) (fun _ _ => rfl)) (d_int) (fun _ _ => rfl))) (d_anil))))) (ds_cons (ds_if ((d_andT (d_cmpT op_isN v_isN (d_var 4) (d_non) (nomark _)) (d_and1 (d_cmpT (op_inZ hu3) (v_inZ hK) (d_var 9) (d_var 2) (by rfl)))).pt) (ds_cons (ds_set nd rfl (by first | exact .inl rfl | exact .inr rfl) (d_var 9)) (ds_cons (ds_setLc (own := [("_law_turn", 10)]) (keep_nm) rfl nd rfl rfl (sw_true rfl rfl rfl (by decide +kernel)) (di_any hK (d_tup (d_acons (d_int) (d_acons (d_int) (d_acons (d_int) (d_acons (d_int) (d_acons (d_int) (d_acons (d_int) (d_acons (d_int) (d_anil)))))))))) (blkOk_by (N := N__law_runs) (sc := defScope s__law_runs) (by decide +kernel)) (fun _ _ _ _ _ => dn_name (i := 10) (by decide) nd rfl (by first | exact .inl rfl | exact .inr rfl)) (fun _ _ _ _ _ => dts_nil) (fun _ _ _ _ _ => d_op op_mod vp_mod.v (d_op op_addA (v_add hK) (d_var 8) (d_var 10)) (d_int))) (ds_nil))) (ds_nil)) (ds_nil)))) (ds_nil)))))))) (ds_cons (ds_if ((d_andT (d_cmpT op_gt vp_IB.v (d_callB call_lenA (v_lenA hK) (by rfl) z_len (by rfl) (d_acons (d_var 5) (d_anil))) (d_int) (nomark _)) (d_and1 (d_cmpT (op_eqD hu2) (v_eq hK) (d_callB (call_max2 rfl) vp_2.v (by rfl) z_max (by rfl) (d_acons (d_callB call_abs vp_abs.v (by rfl) z_abs (by rfl) (d_acons (d_op op_sub vp_sub.v (d_ix hK (d_ix hK (d_var 5) (d_int) (fun _ _ => rfl)) (d_int) (fun _ _ => rfl)) (d_ix hK (d_ix hK (d_var 5) (d_un un_neg vp_neg.v (d_int)) (fun _ _ => rfl)) (d_int) (fun _ _ => rfl))) (d_anil))) (d_acons (d_callB call_abs vp_abs.v (by rfl) z_abs (by rfl) (d_acons (d_op op_sub vp_sub.v (d_ix hK (d_ix hK (d_var 5) (d_int) (fun _ _ => rfl)) (d_int) (fun _ _ => rfl)) (d_ix hK (d_ix hK (d_var 5) (d_un un_neg vp_neg.v (d_int)) (fun _ _ => rfl)) (d_int) (fun _ _ => rfl))) (d_anil))) (d_anil)))) (d_int) (nomark _)))).pt) (ds_cons (ds_app (d_var 5) (d_ix hK (d_var 5) (d_int) (fun _ _ => rfl))) (ds_nil)) (ds_nil)) (ds_fq 5 (ds_cons (ds_app (d_var 3) (d_var 5)) (ds_nil))))))) (ds_nil)) (ds_nil))) (ds_fq 3 (ds_cons (ds_ret (d_var 3)) (ds_nil))))))
/-! ### _law_same -/
abbrev s__law_same : Stmt := topS 18
abbrev N__law_same : List Str := ["_law_found", "_law_due", "_law_name", "_law_one", "_law_other"]
theorem sc__law_same : FnScope N__law_same ["_law_found", "_law_due"] (defScope s__law_same) := ⟨rfl, rfl, rfl, by decide +kernel, rfl, by decide +kernel, by decide +kernel⟩
theorem ok__law_same {Pg : Program} {w : World} {K : PySem.W.Frag} {mg : Str → Option Value} {base : Heap} {cl : Str → Option Addr} {f : Addr} {fd : FuncData} (F : Fun K "_law_same" "_law_same" s__law_same f fd) (hm : mg "_law_same" = some (.ref f)) (z_all : mg "all" = none) (z_bool : mg "bool" = none) (z_dict : mg "dict" = none) (z_int : mg "int" = none) (z_isinstance : mg "isinstance" = none) (z_len : mg "len" = none) (z_list : mg "list" = none) (z_str : mg "str" = none) (z_tuple : mg "tuple" = none) (z_zip : mg "zip" = none) : ∀ j : Nat, FnOk Pg w K mg base CX0 j f fd ["_law_found", "_law_due"] (SpP 2 (m__law_same j))
  | 0 => fn_none fun vs H Q E h => by
    obtain ⟨_, _, _, _, h, _⟩ := h
    cases h
  | j + 1 => fnP (k := j) (cl := cl) F sc__law_same rfl fun cdv A outer s H E G hG hcl hr => by
    have G_r : Callee Pg w K mg base j "_law_same" ["_law_found", "_law_due"] (SpP 2 (m__law_same j)) := Callee.mk' F (ok__law_same (cl := cl) F hm z_all z_bool z_dict z_int z_isinstance z_len z_list z_str z_tuple z_zip j) hm (fun _ _ _ _ _ _ us hl => match us, hl with | [_, _], _ => rfl)
    have hl : ∀ ps p, m__law_same j ps = some p → ps.length = 2 := fun _ _ h => l__law_same h
    have nd := sc__law_same.nd
    have hK : K = G.K := hG.symm
    have hu := hu_of hr
    have hu2 := hr.units
    have hu3 := hu65 hr
    exact ds_cons (ds_if (d_cmpT op_isN v_isN (d_var 1) (d_non) (nomark _)) (ds_cons (ds_ret (d_cmp op_isN v_isN (d_var 0) (d_non) (nomark _))) (ds_nil)) (ds_nil)) (ds_cons (ds_if (d_test (d_isi hK (by rfl) z_isinstance (by rfl) (d_var 1) (d_ty .dict (by rfl) z_dict (by rfl)))) (ds_never) (ds_nil)) (ds_cons (ds_if ((d_orT (d_test (d_isi hK (by rfl) z_isinstance (by rfl) (d_var 1) (d_ty .list (by rfl) z_list (by rfl)))) (d_or1 (d_test (d_isi hK (by rfl) z_isinstance (by rfl) (d_var 1) (d_ty .tuple (by rfl) z_tuple (by rfl)))))).pt) (ds_cons (ds_if (d_cmpT (op_neD hu2) (v_ne hK) (d_isi hK (by rfl) z_isinstance (by rfl) (d_var 0) (d_ty .list (by rfl) z_list (by rfl))) (d_isi hK (by rfl) z_isinstance (by rfl) (d_var 1) (d_ty .list (by rfl) z_list (by rfl))) (nomark _)) (ds_cons (ds_ret (d_bl)) (ds_nil)) (ds_nil)) (ds_cons (ds_if ((d_orT (d_cmpT (op_neD hu2) (v_ne hK) (d_isi hK (by rfl) z_isinstance (by rfl) (d_var 0) (d_ty .tuple (by rfl) z_tuple (by rfl))) (d_isi hK (by rfl) z_isinstance (by rfl) (d_var 1) (d_ty .tuple (by rfl) z_tuple (by rfl))) (nomark _)) (d_or1 (d_cmpT (op_neD hu2) (v_ne hK) (d_callB call_len (v_len hK) (by rfl) z_len (by rfl) (d_acons (d_var 0) (d_anil))) (d_callB call_len (v_len hK) (by rfl) z_len (by rfl) (d_acons (d_var 1) (d_anil))) (nomark _)))).pt) (ds_cons (ds_ret (d_bl)) (ds_nil)) (ds_nil)) (ds_cons (ds_ret (d_callB (cr_all rfl) (v_all hK) (by rfl) z_all (by rfl) (d_acons (d_lc (own := [("_law_one", 3), ("_law_other", 4)]) (keep_lst (keep_cons (keep_cons (keep_nil)))) rfl nd (di_zip hK (by rfl) z_zip (d_acons (d_var 0) (d_acons (d_var 1) (d_anil)))) (blkOk_by (N := N__law_same) (sc := defScope s__law_same) (by decide +kernel)) (fun _ _ _ _ _ => dn_tup hK rfl (dns_cons (dn_name (i := 3) (by decide) nd rfl (by first | exact .inl rfl | exact .inr rfl)) (keep_nm) (dns_cons (dn_name (i := 4) (by decide) nd rfl (by first | exact .inl rfl | exact .inr rfl)) (keep_nm) (dns_nil)))) (fun _ _ _ _ _ => dts_nil) (fun _ _ _ _ _ => d_cP G_r hl (hr.mono (by omega)) (d_acons (d_var 3) (d_acons (d_var 4) (d_anil))))) (d_anil)))) (ds_nil)))) (ds_nil)) (ds_cons (ds_if (d_test (d_isi hK (by rfl) z_isinstance (by rfl) (d_var 1) (d_ty .str (by rfl) z_str (by rfl)))) (ds_cons (ds_ret (d_and (d_isi hK (by rfl) z_isinstance (by rfl) (d_var 0) (d_ty .str (by rfl) z_str (by rfl))) (d_one (d_cmp (op_eqD hu2) (v_eq hK) (d_var 0) (d_var 1) (nomark _))))) (ds_nil)) (ds_nil)) (ds_cons (ds_ret (d_and (d_isi hK (by rfl) z_isinstance (by rfl) (d_var 0) (d_ty .int (by rfl) z_int (by rfl))) (d_and (d_not (d_isi hK (by rfl) z_isinstance (by rfl) (d_var 0) (d_ty .bool (by rfl) z_bool (by rfl)))) (d_one (d_cmp (op_eqD hu2) (v_eq hK) (d_var 0) (d_var 1) (nomark _)))))) (ds_nil)))))
/-! ### sign_of -/
abbrev s_sign_of : Stmt := topS 3
abbrev N_sign_of : List Str := ["number"]
theorem sc_sign_of : FnScope N_sign_of ["number"] (defScope s_sign_of) := ⟨rfl, rfl, rfl, by decide +kernel, rfl, by decide +kernel, by decide +kernel⟩
theorem ok_sign_of {Pg : Program} {w : World} {K : PySem.W.Frag} {mg : Str → Option Value} {base : Heap} {cl : Str → Option Addr} {f : Addr} {fd : FuncData} (F : Fun K "sign_of" "sign_of" s_sign_of f fd) (z_int : mg "int" = none) : FnOk Pg w K mg base CX0 1 f fd ["number"] (SpP 1 m_sign_of_r) :=
  fnP (k := 0) (cl := cl) F sc_sign_of rfl fun cdv A outer s H E G hG hcl hr => by
    have nd := sc_sign_of.nd
    have hK : K = G.K := hG.symm
    have hu := hu_of hr
    have hu2 := hr.units
    have hu3 := hu65 hr
    exact ds_cons (ds_if (d_cmpT op_gt vp_IB.v (d_var 0) (d_int) (nomark _)) (ds_cons (ds_ret (d_int)) (ds_nil)) (ds_nil)) (ds_cons (ds_ret (d_un un_neg vp_neg.v (d_callTy call_int1 vp_int.v (by rfl) z_int (by rfl) (d_acons (d_cmp op_lt vp_IB.v (d_var 0) (d_int) (nomark _)) (d_anil))))) (ds_nil))
/-! ### straight -/
abbrev s_straight : Stmt := topS 4
abbrev N_straight : List Str := ["one", "other", "many", "right", "up"]
theorem sc_straight : FnScope N_straight ["one", "other"] (defScope s_straight) := ⟨rfl, rfl, rfl, by decide +kernel, rfl, by decide +kernel, by decide +kernel⟩
theorem ok_straight {Pg : Program} {w : World} {K : PySem.W.Frag} {mg : Str → Option Value} {base : Heap} {cl : Str → Option Addr} {f : Addr} {fd : FuncData} (F : Fun K "straight" "straight" s_straight f fd) (z_abs : mg "abs" = none) (z_max : mg "max" = none) (c_DIRECTIONS_corners : KC K mg "DIRECTIONS_corners" p_DIRECTIONS_corners) (G_sign_of : Callee Pg w K mg base 1 "sign_of" ["number"] (SpP 1 (m_sign_of_r))) : FnOk Pg w K mg base CX0 2 f fd ["one", "other"] (SpP 2 m_straight_r) :=
  fnP (k := 1) (cl := cl) F sc_straight rfl fun cdv A outer s H E G hG hcl hr => by
    have nd := sc_straight.nd
    have hK : K = G.K := hG.symm
    have hu := hu_of hr
    have hu2 := hr.units
    have hu3 := hu65 hr
    exact ds_cons (ds_par rfl nd rfl rfl (by decide) rfl rfl (d_acons (d_op op_sub vp_sub.v (d_ix hK (d_var 1) (d_int) (fun _ _ => rfl)) (d_ix hK (d_var 0) (d_int) (fun _ _ => rfl))) (d_acons (d_op op_sub vp_sub.v (d_ix hK (d_var 1) (d_int) (fun _ _ => rfl)) (d_ix hK (d_var 0) (d_int) (fun _ _ => rfl))) (d_anil))) (by rfl)) (ds_cons (ds_set nd rfl (by first | exact .inl rfl | exact .inr rfl) (d_callB (call_max2 rfl) vp_2.v (by rfl) z_max (by rfl) (d_acons (d_callB call_abs vp_abs.v (by rfl) z_abs (by rfl) (d_acons (d_var 3) (d_anil))) (d_acons (d_callB call_abs vp_abs.v (by rfl) z_abs (by rfl) (d_acons (d_var 4) (d_anil))) (d_anil))))) (ds_cons (ds_if ((d_orT (d_cmpT (op_eqD hu2) (v_eq hK) (d_var 2) (d_int) (nomark _)) (d_or1 ((d_andT (d_cmpT (op_neD hu2) (v_ne hK) (d_var 3) (d_int) (nomark _)) (d_andT (d_cmpT (op_neD hu2) (v_ne hK) (d_var 4) (d_int) (nomark _)) (d_and1 (d_cmpT (op_neD hu2) (v_ne hK) (d_callB call_abs vp_abs.v (by rfl) z_abs (by rfl) (d_acons (d_var 3) (d_anil))) (d_callB call_abs vp_abs.v (by rfl) z_abs (by rfl) (d_acons (d_var 4) (d_anil))) (nomark _))))).pt))).pt) (ds_cons (ds_ret (d_non)) (ds_nil)) (ds_nil)) (ds_cons (ds_ret (d_tup (d_acons (d_tix hK hu3 (d_kc hK c_DIRECTIONS_corners) (d_tup (d_acons (d_cP G_sign_of (fun _ _ h => l_sign_of_r h) (hr.mono (by decide)) (d_acons (d_var 3) (d_anil))) (d_acons (d_cP G_sign_of (fun _ _ h => l_sign_of_r h) (hr.mono (by decide)) (d_acons (d_var 4) (d_anil))) (d_anil))))) (d_acons (d_var 2) (d_anil))))) (ds_nil))))
/-! ### is_step -/
abbrev s_is_step : Stmt := topS 12
abbrev N_is_step : List Str := ["one", "other", "found"]
theorem sc_is_step : FnScope N_is_step ["one", "other"] (defScope s_is_step) := ⟨rfl, rfl, rfl, by decide +kernel, rfl, by decide +kernel, by decide +kernel⟩
theorem ok_is_step {Pg : Program} {w : World} {K : PySem.W.Frag} {mg : Str → Option Value} {base : Heap} {cl : Str → Option Addr} {f : Addr} {fd : FuncData} (F : Fun K "is_step" "is_step" s_is_step f fd) (G_straight : Callee Pg w K mg base 2 "straight" ["one", "other"] (SpP 2 (m_straight_r))) : FnOk Pg w K mg base CX0 3 f fd ["one", "other"] (SpP 2 m_is_step) :=
  fnP (k := 2) (cl := cl) F sc_is_step rfl fun cdv A outer s H E G hG hcl hr => by
    have nd := sc_is_step.nd
    have hK : K = G.K := hG.symm
    have hu := hu_of hr
    have hu2 := hr.units
    have hu3 := hu65 hr
    exact ds_cons (ds_set nd rfl (by first | exact .inl rfl | exact .inr rfl) (d_cP G_straight (fun _ _ h => l_straight_r h) (hr.mono (by decide)) (d_acons (d_var 0) (d_acons (d_var 1) (d_anil))))) (ds_cons (ds_ret (d_and (d_cmp op_notN v_notN (d_var 2) (d_non) (nomark _)) (d_one (d_cmp (op_eqD hu2) (v_eq hK) (d_ix hK (d_var 2) (d_int) (fun _ _ => rfl)) (d_int) (nomark _))))) (ds_nil))
/-! ### closed_run -/
abbrev s_closed_run : Stmt := topS 13
abbrev N_closed_run : List Str := ["run"]
theorem sc_closed_run : FnScope N_closed_run ["run"] (defScope s_closed_run) := ⟨rfl, rfl, rfl, by decide +kernel, rfl, by decide +kernel, by decide +kernel⟩
theorem ok_closed_run {Pg : Program} {w : World} {K : PySem.W.Frag} {mg : Str → Option Value} {base : Heap} {cl : Str → Option Addr} {f : Addr} {fd : FuncData} (F : Fun K "closed_run" "closed_run" s_closed_run f fd) (z_len : mg "len" = none) (c_LEAST_CLOSED : KC K mg "LEAST_CLOSED" p_LEAST_CLOSED) (G_is_step : Callee Pg w K mg base 3 "is_step" ["one", "other"] (SpP 2 (m_is_step))) : FnOk Pg w K mg base CX0 4 f fd ["run"] (SpP 1 m_closed_run) :=
  fnP (k := 3) (cl := cl) F sc_closed_run rfl fun cdv A outer s H E G hG hcl hr => by
    have nd := sc_closed_run.nd
    have hK : K = G.K := hG.symm
    have hu := hu_of hr
    have hu2 := hr.units
    have hu3 := hu65 hr
    exact ds_cons (ds_if ((d_andT (d_cmpT op_ge vp_IB.v (d_callB call_len (v_len hK) (by rfl) z_len (by rfl) (d_acons (d_var 0) (d_anil))) (d_kc hK c_LEAST_CLOSED) (nomark _)) (d_and1 (d_test (d_cP G_is_step (fun _ _ h => l_is_step h) (hr.mono (by decide)) (d_acons (d_ix hK (d_var 0) (d_un un_neg vp_neg.v (d_int)) (fun _ _ => rfl)) (d_acons (d_ix hK (d_var 0) (d_int) (fun _ _ => rfl)) (d_anil))))))).pt) (ds_cons (ds_ret (d_op op_addA (v_add hK) (d_var 0) (d_lst (d_acons (d_ix hK (d_var 0) (d_int) (fun _ _ => rfl)) (d_anil))))) (ds_nil)) (ds_nil)) (ds_cons (ds_ret (d_var 0)) (ds_nil))
/-! ### directions_from -/
abbrev s_directions_from : Stmt := topS 9
abbrev N_directions_from : List Str := ["ahead", "turn"]
theorem sc_directions_from : FnScope N_directions_from ["ahead"] (defScope s_directions_from) := ⟨rfl, rfl, rfl, by decide +kernel, rfl, by decide +kernel, by decide +kernel⟩
theorem ok_directions_from {Pg : Program} {w : World} {K : PySem.W.Frag} {mg : Str → Option Value} {base : Heap} {cl : Str → Option Addr} {f : Addr} {fd : FuncData} (F : Fun K "directions_from" "directions_from" s_directions_from f fd) (z_list : mg "list" = none) (z_range : mg "range" = none) (c_DIRECTIONS_runs : KC K mg "DIRECTIONS_runs" p_DIRECTIONS_runs) (c_TURNS : KC K mg "TURNS" p_TURNS) : FnOk Pg w K mg base CX0 1 f fd ["ahead"] (SpP 1 m_directions_from) :=
  fnP (k := 0) (cl := cl) F sc_directions_from rfl fun cdv A outer s H E G hG hcl hr => by
    have nd := sc_directions_from.nd
    have hK : K = G.K := hG.symm
    have hu := hu_of hr
    have hu2 := hr.units
    have hu3 := hu65 hr
    exact ds_cons (ds_if (d_cmpT op_isN v_isN (d_var 0) (d_non) (nomark _)) (ds_cons (ds_ret (d_listRg1 rfl (by rfl) z_list (by rfl) z_range (d_kc hK c_DIRECTIONS_runs))) (ds_nil)) (ds_nil)) (ds_cons (ds_ret (d_lc (own := [("turn", 1)]) (keep_nm) rfl nd (di_seq hK (d_kc hK c_TURNS)) (blkOk_by (N := N_directions_from) (sc := defScope s_directions_from) (by decide +kernel)) (fun _ _ _ _ _ => dn_name (i := 1) (by decide) nd rfl (by first | exact .inl rfl | exact .inr rfl)) (fun _ _ _ _ _ => dts_nil) (fun _ _ _ _ _ => d_op op_mod vp_mod.v (d_op op_addA (v_add hK) (d_var 0) (d_var 1)) (d_kc hK c_DIRECTIONS_runs)))) (ds_nil))
/-! ### stepped -/
abbrev s_stepped : Stmt := topS 2
abbrev N_stepped : List Str := ["corner", "direction", "many", "right", "up"]
theorem sc_stepped : FnScope N_stepped ["corner", "direction", "many"] (defScope s_stepped) := ⟨rfl, rfl, rfl, by decide +kernel, rfl, by decide +kernel, by decide +kernel⟩
theorem ok_stepped {Pg : Program} {w : World} {K : PySem.W.Frag} {mg : Str → Option Value} {base : Heap} {cl : Str → Option Addr} {f : Addr} {fd : FuncData} (F : Fun K "stepped" "stepped" s_stepped f fd) (c_DIRECTIONS_corners : KC K mg "DIRECTIONS_corners" p_DIRECTIONS_corners) : FnOk Pg w K mg base CX0 1 f fd ["corner", "direction", "many"] (SpP 3 m_stepped) :=
  fnP (k := 0) (cl := cl) F sc_stepped rfl fun cdv A outer s H E G hG hcl hr => by
    have nd := sc_stepped.nd
    have hK : K = G.K := hG.symm
    have hu := hu_of hr
    have hu2 := hr.units
    have hu3 := hu65 hr
    exact ds_cons (ds_asg (u := fun _ => true) (d_get hK hu (d_kc hK c_DIRECTIONS_corners) (d_var 1) (fun _ _ => rfl) (fun _ _ => rfl)) (dn_dg (dn_tup hK rfl (dns_cons (dn_name (i := 3) (by decide) nd rfl (by first | exact .inl rfl | exact .inr rfl)) (keep_nm) (dns_cons (dn_name (i := 4) (by decide) nd rfl (by first | exact .inl rfl | exact .inr rfl)) (keep_nm) (dns_nil)))) (keep_lst (keep_cons (keep_cons (keep_nil)))))) (ds_cons (ds_ret (d_tup (d_acons (d_op op_addA (v_add hK) (d_ix hK (d_var 0) (d_int) (fun _ _ => rfl)) (d_op op_mul vp_mul.v (d_var 3) (d_var 2))) (d_acons (d_op op_addA (v_add hK) (d_ix hK (d_var 0) (d_int) (fun _ _ => rfl)) (d_op op_mul vp_mul.v (d_var 4) (d_var 2))) (d_anil))))) (ds_nil))
/-! ### next_direction -/
abbrev s_next_direction : Stmt := topS 10
abbrev N_next_direction : List Str := ["open_points", "corner", "ahead", "direction"]
theorem sc_next_direction : FnScope N_next_direction ["open_points", "corner", "ahead"] (defScope s_next_direction) := ⟨rfl, rfl, rfl, by decide +kernel, rfl, by decide +kernel, by decide +kernel⟩
theorem ok_next_direction {Pg : Program} {w : World} {K : PySem.W.Frag} {mg : Str → Option Value} {base : Heap} {cl : Str → Option Addr} {f : Addr} {fd : FuncData} (F : Fun K "next_direction" "next_direction" s_next_direction f fd) (G_directions_from : Callee Pg w K mg base 1 "directions_from" ["ahead"] (SpP 1 (m_directions_from))) (G_stepped : Callee Pg w K mg base 1 "stepped" ["corner", "direction", "many"] (SpP 3 (m_stepped))) : FnOk Pg w K mg base CX0 2 f fd ["open_points", "corner", "ahead"] (SpF K cl 3 m_next_direction) :=
  fnF (k := 1) (cl := cl) F sc_next_direction rfl fun cdv A outer s H E G hG hcl hr => by
    have nd := sc_next_direction.nd
    have hK : K = G.K := hG.symm
    have hu := hu_of hr
    have hu2 := hr.units
    have hu3 := hu65 hr
    exact ds_cons (ds_for (u := fun _ => true) PassesOwn.never rfl (di_any hK (d_cP G_directions_from (fun _ _ h => l_directions_from h) (hr.mono (by decide)) (d_acons (d_var 2) (d_anil)))) (dg_name (i := 3) (by decide) nd rfl (by first | exact .inl rfl | exact .inr rfl)) (ds_cons (ds_if (d_cmpT (op_inZ hu3) (v_inZ hK) (d_cP G_stepped (fun _ _ h => l_stepped h) (hr.mono (by decide)) (d_acons (d_var 1) (d_acons (d_var 3) (d_acons (d_int) (d_anil))))) (d_var 0) (by rfl)) (ds_cons (ds_ret (d_var 3)) (ds_nil)) (ds_nil)) (ds_nil))) (ds_cons (ds_ret (d_non)) (ds_nil))
/-! ### run_from -/
abbrev s_run_from : Stmt := topS 11
abbrev N_run_from : List Str := ["open_points", "corner", "run", "direction"]
theorem sc_run_from : FnScope N_run_from ["open_points", "corner"] (defScope s_run_from) := ⟨rfl, rfl, rfl, by decide +kernel, rfl, by decide +kernel, by decide +kernel⟩
theorem ok_run_from {Pg : Program} {w : World} {K : PySem.W.Frag} {mg : Str → Option Value} {base : Heap} {cl : Str → Option Addr} {f : Addr} {fd : FuncData} (F : Fun K "run_from" "run_from" s_run_from f fd) (G_next_direction : Callee Pg w K mg base 2 "next_direction" ["open_points", "corner", "ahead"] (SpF K cl 3 (m_next_direction))) (G_stepped : Callee Pg w K mg base 1 "stepped" ["corner", "direction", "many"] (SpP 3 (m_stepped))) : FnOk Pg w K mg base CX0 3 f fd ["open_points", "corner"] (SpF K cl 2 m_run_from) :=
  fnF (k := 2) (cl := cl) F sc_run_from rfl fun cdv A outer s H E G hG hcl hr => by
    have nd := sc_run_from.nd
    have hK : K = G.K := hG.symm
    have hu := hu_of hr
    have hu2 := hr.units
    have hu3 := hu65 hr
    exact ds_cons (ds_set nd rfl (by first | exact .inl rfl | exact .inr rfl) (d_lstN (d_acons (d_var 1) (d_anil)))) (ds_cons (ds_popC hu (d_var 0) (d_var 1)) (ds_cons (ds_set nd rfl (by first | exact .inl rfl | exact .inr rfl) (d_cF (by rw [hG, hcl]; exact G_next_direction) (fun _ _ _ h => l_next_direction h) (hr.mono (by decide)) (d_acons (d_var 0) (d_acons (d_var 1) (d_acons (d_non) (d_anil)))))) (ds_cons (ds_while PassesOwn.never (d_cmpT op_notN v_notN (d_var 3) (d_non) (nomark _)) (ds_cons (ds_app (d_var 2) (d_cP G_stepped (fun _ _ h => l_stepped h) (hr.mono (by decide)) (d_acons (d_ix hK (d_var 2) (d_un un_neg vp_neg.v (d_int)) (fun _ _ => rfl)) (d_acons (d_var 3) (d_acons (d_int) (d_anil)))))) (ds_cons (ds_popC hu (d_var 0) (d_ix hK (d_var 2) (d_un un_neg vp_neg.v (d_int)) (fun _ _ => rfl))) (ds_cons (ds_set nd rfl (by first | exact .inl rfl | exact .inr rfl) (d_cF (by rw [hG, hcl]; exact G_next_direction) (fun _ _ _ h => l_next_direction h) (hr.mono (by decide)) (d_acons (d_var 0) (d_acons (d_ix hK (d_var 2) (d_un un_neg vp_neg.v (d_int)) (fun _ _ => rfl)) (d_acons (d_var 3) (d_anil)))))) (ds_nil))))) (ds_fq 2 (ds_cons (ds_ret (d_var 2)) (ds_nil))))))
/-! ### runs -/
abbrev s_runs : Stmt := topS 14
abbrev N_runs : List Str := ["points", "open_points", "corner", "found"]
theorem sc_runs : FnScope N_runs ["points"] (defScope s_runs) := ⟨rfl, rfl, rfl, by decide +kernel, rfl, by decide +kernel, by decide +kernel⟩
theorem ok_runs {Pg : Program} {w : World} {K : PySem.W.Frag} {mg : Str → Option Value} {base : Heap} {cl : Str → Option Addr} {f : Addr} {fd : FuncData} (F : Fun K "runs" "runs" s_runs f fd) (z_list : mg "list" = none) (z_sorted : mg "sorted" = none) (z_tuple : mg "tuple" = none) (G_closed_run : Callee Pg w K mg base 4 "closed_run" ["run"] (SpP 1 (m_closed_run))) (G_run_from : Callee Pg w K mg base 3 "run_from" ["open_points", "corner"] (SpF K cl 2 (m_run_from))) : FnOk Pg w K mg base CX0 5 f fd ["points"] (SpP 1 m_runs) :=
  fnP (k := 4) (cl := cl) F sc_runs rfl fun cdv A outer s H E G hG hcl hr => by
    have nd := sc_runs.nd
    have hK : K = G.K := hG.symm
    have hu := hu_of hr
    have hu2 := hr.units
    have hu3 := hu65 hr
    exact ds_cons (ds_set nd rfl (by first | exact .inl rfl | exact .inr rfl) (d_dct)) (ds_cons (ds_for (u := fun _ => true) PassesOwn.never rfl (di_any hK (d_var 0)) (dg_name (i := 2) (by decide) nd rfl (by first | exact .inl rfl | exact .inr rfl)) (ds_cons (ds_asg (u := fun _ => true) (d_bl) (dg_sub hu (d_var 1) (d_callTy call_tuple_of (v_tupleA hK) (by rfl) z_tuple (by rfl) (d_acons (d_var 2) (d_anil))))) (ds_nil))) (ds_cons (ds_set nd rfl (by first | exact .inl rfl | exact .inr rfl) (d_lstN (d_anil))) (ds_cons (ds_for (u := fun _ => true) PassesOwn.never rfl (di_any hK (d_callB (cr_sortA rfl hu3) (v_sortA hK) (by rfl) z_sorted (by rfl) (d_acons (d_callTy (call_listA rfl) (v_listA hK) (by rfl) z_list (by rfl) (d_acons (d_var 1) (d_anil))) (d_anil)))) (dg_name (i := 2) (by decide) nd rfl (by first | exact .inl rfl | exact .inr rfl)) (ds_cons (ds_if (d_cmpT (op_inZ hu3) (v_inZ hK) (d_var 2) (d_var 1) (by rfl)) (ds_cons (ds_app (d_var 3) (d_cP G_closed_run (fun _ _ h => l_closed_run h) (hr.mono (by decide)) (d_acons (d_cF (by rw [hG, hcl]; exact G_run_from) (fun _ _ _ h => l_run_from h) (hr.mono (by decide)) (d_acons (d_var 1) (d_acons (d_var 2) (d_anil)))) (d_anil)))) (ds_nil)) (ds_nil)) (ds_nil))) (ds_fq 3 (ds_cons (ds_ret (d_var 3)) (ds_nil))))))
/-! ### law -/
abbrev s_law : Stmt := topS 23
abbrev N_law : List Str := ["_law_script", "_law_state", "_law_turn", "_law_points_here", "_law_way"]
theorem sc_law : FnScope N_law ["_law_script"] (defScope s_law) := ⟨rfl, rfl, rfl, by decide +kernel, rfl, by decide +kernel, by decide +kernel⟩
noncomputable def b_law : Sx := sSeq (sSet 1 (xA (gCallF m__law_begin) (aCons (xVar 0) (aNil)))) (sSeq (sFor (iRange1 (aCons (xP (.int 2)) (aNil))) (gNm 2) (sSeq (sSet 3 (xA (gCallF m__law_points) (aCons (xVar 1) (aNil)))) (sSeq (sSet 4 (xA (gCallF m__law_take) (aCons (xVar 1) (aCons (xP (.int 30)) (aNil))))) (sSeq (sIf (tOfE (x2 (s2 (pIB fun i j => decide (i < j))) (xVar 4) (xP (.int 5)))) (sSeq (sSet 3 (xA gLst (aNil))) (sNil)) (sNil)) (sSeq (sIf (tAndX (tOfE (x2 (gEq false) (xVar 4) (xP (.int 29)))) (tOfE (x2 (gEq false) (xVar 2) (xP (.int 0))))) (sSeq (sSet 3 (xA (gCallF m__law_great_box) (aCons (xVar 1) (aNil)))) (sNil)) (sNil)) (sSeq (sIf (tNotX (tOfE (xA (gCallP (m__law_same 4)) (aCons (xA (gCallP m_runs) (aCons (xVar 3) (aNil))) (aCons (xA (gCallP m__law_runs) (aCons (xVar 3) (aNil))) (aNil)))))) (sSeq (sRet (xP (.bool false))) (sNil)) (sNil)) (sNil))))))) (sSeq (sRet (xP (.bool true))) (sNil)))
noncomputable def m_law : List D → Sto → Option (D × Sto) := runF 1 5 b_law
theorem l_law {ds : List D} {S : Sto} {p : D × Sto} (h : m_law ds S = some p) : ds.length = 1 := runF_len h
theorem ok_law {Pg : Program} {w : World} {K : PySem.W.Frag} {mg : Str → Option Value} {base : Heap} {cl : Str → Option Addr} {f : Addr} {fd : FuncData} (F : Fun K "law" "law" s_law f fd) (z_range : mg "range" = none) (G__law_begin : Callee Pg w K mg base 1 "_law_begin" ["_law_script"] (SpF K cl 1 (m__law_begin))) (G__law_great_box : Callee Pg w K mg base 2 "_law_great_box" ["_law_state"] (SpF K cl 1 (m__law_great_box))) (G__law_points : Callee Pg w K mg base 2 "_law_points" ["_law_state"] (SpF K cl 1 (m__law_points))) (G__law_runs : Callee Pg w K mg base 2 "_law_runs" ["_law_points_here"] (SpP 1 (m__law_runs))) (G__law_same : Callee Pg w K mg base 4 "_law_same" ["_law_found", "_law_due"] (SpP 2 (m__law_same 4))) (G__law_take : Callee Pg w K mg base 1 "_law_take" ["_law_state", "_law_many"] (SpF K cl 2 (m__law_take))) (G_runs : Callee Pg w K mg base 5 "runs" ["points"] (SpP 1 (m_runs))) : FnOk Pg w K mg base CX0 6 f fd ["_law_script"] (SpF K cl 1 m_law) :=
  fnF (k := 5) (cl := cl) F sc_law rfl fun cdv A outer s H E G hG hcl hr => by
    have nd := sc_law.nd
    have hK : K = G.K := hG.symm
    have hu := hu_of hr
    have hu2 := hr.units
    have hu3 := hu65 hr
    exact ds_cons (ds_set nd rfl (by first | exact .inl rfl | exact .inr rfl) (d_cF (by rw [hG, hcl]; exact G__law_begin) (fun _ _ _ h => l__law_begin h) (hr.mono (by decide)) (d_acons (d_var 0) (d_anil)))) (ds_cons (ds_for (u := fun _ => true) PassesOwn.never rfl (di_range1 (by rfl) z_range (d_acons (d_int) (d_anil))) (dg_name (i := 2) (by decide) nd rfl (by first | exact .inl rfl | exact .inr rfl)) (ds_cons (ds_set nd rfl (by first | exact .inl rfl | exact .inr rfl) (d_cF (by rw [hG, hcl]; exact G__law_points) (fun _ _ _ h => l__law_points h) (hr.mono (by decide)) (d_acons (d_var 1) (d_anil)))) (ds_cons (ds_set nd rfl (by first | exact .inl rfl | exact .inr rfl) (d_cF (by rw [hG, hcl]; exact G__law_take) (fun _ _ _ h => l__law_take h) (hr.mono (by decide)) (d_acons (d_var 1) (d_acons (d_int) (d_anil))))) (ds_cons (ds_if (d_cmpT op_lt vp_IB.v (d_var 4) (d_int) (nomark _)) (ds_cons (ds_set nd rfl (by first | exact .inl rfl | exact .inr rfl) (d_lst (d_anil))) (ds_nil)) (ds_nil)) (ds_cons (ds_if ((d_andT (d_cmpT (op_eqD hu2) (v_eq hK) (d_var 4) (d_int) (nomark _)) (d_and1 (d_cmpT (op_eqD hu2) (v_eq hK) (d_var 2) (d_int) (nomark _)))).pt) (ds_cons (ds_set nd rfl (by first | exact .inl rfl | exact .inr rfl) (d_cF (by rw [hG, hcl]; exact G__law_great_box) (fun _ _ _ h => l__law_great_box h) (hr.mono (by decide)) (d_acons (d_var 1) (d_anil)))) (ds_nil)) (ds_nil)) (ds_cons (ds_if (d_notT (d_test (d_cP G__law_same (fun _ _ h => l__law_same h) (hr.mono (by decide)) (d_acons (d_cP G_runs (fun _ _ h => l_runs h) (hr.mono (by decide)) (d_acons (d_var 3) (d_anil))) (d_acons (d_cP G__law_runs (fun _ _ h => l__law_runs h) (hr.mono (by decide)) (d_acons (d_var 3) (d_anil))) (d_anil)))))) (ds_cons (ds_ret (d_bl)) (ds_nil)) (ds_nil)) (ds_nil))))))) (ds_cons (ds_ret (d_bl)) (ds_nil)))
end K29
/-! LR: runs: the program's and the law's walk. -/
namespace LR
open PySem PySem.Spec PyProof.Rows L2 DL
abbrev C2 := Int × Int
def pc (c : C2) : P := .tuple [.int c.1, .int c.2]
theorem enc_c : KEnc pc where
  eqv := fun a b => by
    have h := eqv_tkeys [.inl a.1, .inl a.2] [.inl b.1, .inl b.2]
    show PyData.eqv (.tuple ([.inl a.1, .inl a.2].map keyP)) (.tuple ([.inl b.1, .inl b.2].map keyP)) = _
    rw [h]
    congr 1
    simp only [List.cons.injEq, Sum.inl.injEq, and_true, eq_iff_iff]
    exact ⟨fun ⟨h1, h2⟩ => Prod.ext h1 h2, fun h => by subst h; exact ⟨rfl, rfl⟩⟩
  key := fun _ => rfl
  knd := fun _ _ => rfl
/-! ### cells that hold keys -/
def asDc {α : Type} (enc : α → P) (qs : List α) : List (P × D) := qs.map fun a => (enc a, D.pu (.bool true))
def rm {α : Type} [DecidableEq α] (qs : List α) (a : α) : List α := qs.filter fun b => !decide (b = a)
section
variable {e : Envi} {S : Sto}
theorem w_dct {Q : D × Sto → Prop} : W (xDct e S) Q ↔ Q (.rf S.length, S ++ [.dct []]) := w_some
def popM1 (d1 d2 : D) (e : Envi) (S : Sto) : Option Out := match d1, d2 with
  | .bo i (.dct _), .pu (.tuple xs) => match e[i]? with
    | some (some (.ow (.dct ps))) => (flatKs xs).bind fun _ => if (kOk ps (.tuple xs) && ps.any fun q => PyData.eqv q.1 (.tuple xs)) = true then some (.nx (e.set i (some (.ow (.dct (dpop ps (.tuple xs)))))) S) else none
    | _ => none
  | _, _ => none
theorem w_popS1 {o k : Ex} {Q : Out → Prop} : W (sPop1 o k e S) Q ↔ W (o e S) fun r => W (k e r.2) fun w => W (popM1 r.1 w.1 e w.2) Q := by
  rw [show sPop1 o k e S = (o e S).bind fun r => (k e r.2).bind fun w => popM1 r.1 w.1 e w.2 from rfl]
  simp only [DL.w_bind]
theorem dpop_c (qs : List C2) (a : C2) : dpop (asD pc qs) (pc a) = asD pc (rm qs a) := by
  unfold rm
  induction qs with
  | nil => rfl
  | cons b qs ih =>
    show dpop ((pc b, PyData.bool true) :: asD pc qs) (pc a) = _
    unfold dpop at ih ⊢
    rw [List.filter_cons, List.filter_cons, ih, enc_c.eqv]
    by_cases c : b = a
    · simp [c]
    · simp [c]
      rfl
theorem dpop_cc (qs : List C2) (a : C2) : dpop (asDc pc qs) (pc a) = asDc pc (rm qs a) := by
  unfold rm
  induction qs with
  | nil => rfl
  | cons b qs ih =>
    show dpop ((pc b, D.pu (.bool true)) :: asDc pc qs) (pc a) = _
    unfold dpop at ih ⊢
    rw [List.filter_cons, List.filter_cons, ih, enc_c.eqv]
    by_cases c : b = a
    · simp [c]
    · simp [c]
      rfl
theorem pop1_c {i : Nat} {c : List (P × P)} {qs : List C2} {a : C2} {Q : Out → Prop} (he : e[i]? = some (some (.ow (.dct (asD pc qs))))) (ha : a ∈ qs) (q : Q (.nx (e.set i (some (.ow (.dct (asD pc (rm qs a)))))) S)) : W (popM1 (.bo i (.dct c)) (.pu (pc a)) e S) Q := by
  have an : ((asD pc qs).any fun q => PyData.eqv q.1 (pc a)) = true := by
    refine List.any_eq_true.mpr ⟨(pc a, .bool true), List.mem_map.mpr ⟨a, ha, rfl⟩, ?_⟩
    rw [enc_c.eqv]
    exact decide_eq_true rfl
  have h : popM1 (.bo i (.dct c)) (.pu (pc a)) e S = some (.nx (e.set i (some (.ow (.dct (asD pc (rm qs a)))))) S) := by
    unfold popM1 pc
    dsimp only
    rw [he]
    dsimp only
    rw [show (PyData.tuple [.int a.1, .int a.2]) = pc a from rfl, kOk_as enc_c, dpop_c, an]
    rfl
  rw [h]
  exact w_some.mpr q
def popMC (d1 d2 : D) (S0 : Sto) (e : Envi) (S : Sto) : Option Out := match d1, d2 with
  | .rf n, .pu (.tuple xs) => match S0[n]? with
    | some (.dct _) => (popC n xs S).bind fun S' => some (.nx e S')
    | _ => none
  | _, _ => none
theorem w_popSC {o k : Ex} {Q : Out → Prop} : W (sPopC o k e S) Q ↔ W (o e S) fun r => W (k e r.2) fun w => W (popMC r.1 w.1 r.2 e w.2) Q := by
  rw [show sPopC o k e S = (o e S).bind fun r => (k e r.2).bind fun w => popMC r.1 w.1 r.2 e w.2 from rfl]
  simp only [DL.w_bind]
theorem kOk_c (qs : List C2) (a : C2) : kOk (asDc pc qs) (pc a) = true := by
  cases qs with
  | nil => rfl
  | cons b qs => rfl
theorem any_c (qs : List C2) (a : C2) : ((asDc pc qs).any fun q => PyData.eqv q.1 (pc a)) = decide (a ∈ qs) := by
  induction qs with
  | nil => simp [asDc]
  | cons b qs ih =>
    show (PyData.eqv (pc b) (pc a) || ((asDc pc qs).any fun q => PyData.eqv q.1 (pc a))) = _
    rw [ih, enc_c.eqv]
    by_cases h : b = a
    · simp [h]
    · have h' : ¬ a = b := fun e => h e.symm
      simp [h, h']
theorem popC_c {n : Nat} {qs : List C2} {a : C2} {Q : Out → Prop} (he : S[n]? = some (.dct (asDc pc qs))) (ha : a ∈ qs) (q : Q (.nx e (S.set n (.dct (asDc pc (rm qs a)))))) : W (popMC (.rf n) (.pu (pc a)) S e S) Q := by
  have h : popMC (.rf n) (.pu (pc a)) S e S = some (.nx e (S.set n (.dct (asDc pc (rm qs a))))) := by
    unfold popMC pc
    dsimp only
    rw [he]
    dsimp only
    unfold popC
    rw [he]
    dsimp only
    rw [show (PyData.tuple [.int a.1, .int a.2]) = pc a from rfl, kOk_c, dpop_cc, any_c, decide_eq_true ha]
    rfl
  rw [h]
  exact w_some.mpr q
theorem look_c (qs : List C2) (a : C2) : (dlook (asDc pc qs) (pc a)).isSome = decide (a ∈ qs) := by
  have h := any_c qs a
  unfold dlook
  rw [Option.isSome_map]
  rw [← h]
  rw [Bool.eq_iff_iff, List.any_eq_true, List.find?_isSome]
theorem inZ_c {n : Nat} {qs : List C2} {a : C2} {Q : D × Sto → Prop} (he : S[n]? = some (.dct (asDc pc qs))) (q : Q (.pu (.bool (decide (a ∈ qs))), S)) : W (gInZ false (.pu (pc a)) (.rf n) S) Q := by
  have hd : dicD (.rf n) S = some (asDc pc qs) := by
    unfold dicD
    dsimp only
    rw [he]
  cases qs with
  | nil =>
    unfold gInZ
    rw [hd]
    exact w_some.mpr q
  | cons b qs =>
    have h1 : gInZ false (.pu (pc a)) (.rf n) S = gInX false (.pu (pc a)) (.rf n) S := by
      unfold gInZ
      rw [hd]
      rfl
    rw [h1]
    unfold gInX
    rw [hd]
    have l := look_c (b :: qs) a
    show W ((keyD (pc a)).bind fun _ => if (isT (pc b) == isT (pc a)) = true then some (D.pu (.bool (if false = true then !(dlook (asDc pc (b :: qs)) (pc a)).isSome else (dlook (asDc pc (b :: qs)) (pc a)).isSome)), S) else none) Q
    obtain ⟨k, hk⟩ := Option.isSome_iff_exists.mp (enc_c.key a)
    rw [hk, Option.bind_some, if_pos (by rw [enc_c.knd b a]; exact beq_self_eq_true _), l]
    exact w_some.mpr q
theorem dput_c (qs : List C2) (a : C2) : dput (asDc pc qs) (pc a) (.pu (.bool true)) = asDc pc (addK qs a) := by
  unfold dput
  rw [any_c]
  unfold addK
  by_cases h : a ∈ qs
  · rw [if_pos (by simpa using h), if_pos h]
    unfold asDc
    rw [List.map_map]
    refine List.map_congr_left fun b _ => ?_
    show (if PyData.eqv (pc b) (pc a) = true then (pc b, D.pu (.bool true)) else (pc b, D.pu (.bool true))) = _
    split <;> rfl
  · rw [if_neg (by simpa using h), if_neg h]
    unfold asDc
    rw [List.map_append]
    rfl
theorem put_c {n : Nat} {qs : List C2} {a : C2} {Q : Envi × Sto → Prop} (he : S[n]? = some (.dct (asDc pc qs))) (hl : qs.length < lim) (q : Q (e, S.set n (.dct (asDc pc (addK qs a))))) : W (putS (.rf n) (.pu (pc a)) (.pu (.bool true)) e S) Q := by
  have h : putS (.rf n) (.pu (pc a)) (.pu (.bool true)) e S = some (e, S.set n (.dct (asDc pc (addK qs a)))) := by
    have hl0 : lstD (.rf n) S = none := by
      show (seqD (.rf n) S).bind _ = _
      unfold seqD
      dsimp only
      rw [he]
      rfl
    unfold putS
    rw [hl0]
    dsimp only [pc]
    unfold putD
    dsimp only
    rw [he]
    dsimp only
    rw [show (PyData.tuple [.int a.1, .int a.2]) = pc a from rfl, kOk_c, dput_c, show decide ((asDc pc qs).length < lim) = true from decide_eq_true (by unfold asDc; rw [List.length_map]; exact hl)]
    rfl
  rw [h]
  exact w_some.mpr q
theorem keys_c (qs : List C2) : keysOf (asDc pc qs) = qs.map pc := by
  unfold keysOf asDc
  rw [List.map_map]
  rfl
theorem list_c {n : Nat} {qs : List C2} {Q : D × Sto → Prop} (he : S[n]? = some (.dct (asDc pc qs))) (q : Q (.pu (.list (qs.map pc)), S)) : W (gListA [.rf n] S) Q := by
  have hd : dicD (.rf n) S = some (asDc pc qs) := by
    unfold dicD
    dsimp only
    rw [he]
  unfold gListA
  dsimp only
  rw [hd]
  dsimp only
  rw [keys_c]
  exact w_some.mpr q
end
/-! ### plain -/
theorem rm_mem {qs : List C2} {a b : C2} : b ∈ rm qs a ↔ b ∈ qs ∧ b ≠ a := by
  unfold rm
  rw [List.mem_filter]
  simp
theorem rm_len {qs : List C2} {a : C2} (h : a ∈ qs) : (rm qs a).length < qs.length := by
  have h1 := List.length_eq_countP_add_countP (fun b => !decide (b = a)) (l := qs)
  have h2 : (rm qs a).length = qs.countP (fun b => !decide (b = a)) := (List.countP_eq_length_filter ..).symm
  have h3 : 0 < qs.countP (fun b => decide ¬(!decide (b = a)) = true) := List.countP_pos_iff.mpr ⟨a, h, by simp⟩
  omega
theorem rm_nd {qs : List C2} (h : qs.Nodup) (a : C2) : (rm qs a).Nodup := h.filter _
theorem rm_sub {qs : List C2} {a : C2} : (rm qs a).length ≤ qs.length := List.length_filter_le ..
def le2 (a b : C2) : Prop := a.1 < b.1 ∨ (a.1 = b.1 ∧ a.2 ≤ b.2)
instance (a b : C2) : Decidable (le2 a b) := by unfold le2; infer_instance
theorem leP_c (a b : C2) : leP (pc a) (pc b) = decide (le2 a b) := by
  show (!PySem.W.dataLt (pc b) (pc a)) = _
  unfold pc
  rw [PySem.W.dataLt_tuple]
  have e : PySem.W.rowLt [.int b.1, .int b.2] [.int a.1, .int a.2] = decide ([b.1, b.2] < [a.1, a.2]) := PySem.W.dataLt_ints [b.1, b.2] [a.1, a.2]
  unfold PySem.W.rowLt at e
  rw [e, ← decide_not]
  unfold le2
  congr 1
  simp only [List.cons_lt_cons_iff, List.not_lt_nil, and_false, or_false, eq_iff_iff]
  omega
def srt (ts : List C2) : List C2 := ts.mergeSort fun a b => decide (le2 a b)
theorem sort_c (ts : List C2) : (ts.map pc).mergeSort leP = (srt ts).map pc :=
  (List.map_mergeSort (r := fun a b : C2 => decide (le2 a b)) (s := leP) (f := pc) fun a _ b _ => (leP_c a b).symm).symm
theorem srt_ok {ts : List C2} (h : ts.length ≤ lim) : srtOk (ts.map pc) = true := by
  unfold srtOk
  have h1 : ((ts.map pc).all fun d => (ts.map pc).all fun d' => PySem.W.alike d d') = true := by
    rw [List.all_map, List.all_eq_true]
    intro a _
    show ((ts.map pc).all fun d' => PySem.W.alike (pc a) d') = true
    rw [List.all_map, List.all_eq_true]
    intro b _
    show PySem.W.alike (pc a) (pc b) = true
    simp [pc, PySem.W.alike, PySem.W.alikeAll]
  have h2 : (ts.map pc).all tup1 = true := by rw [List.all_map, List.all_eq_true]; intro _ _; rfl
  have h3 : (ts.map pc).all (shp 8) = true := by rw [List.all_map, List.all_eq_true]; intro _ _; rfl
  rw [h1, h2, h3, List.length_map, decide_eq_true h]
  rfl
theorem srt_mem {L : List C2} {t : C2} : t ∈ srt L ↔ t ∈ L := List.mem_mergeSort
theorem srt_perm (L : List C2) : (srt L).Perm L := List.mergeSort_perm _ _
theorem srt_len (L : List C2) : (srt L).length = L.length := List.length_mergeSort ..
theorem sorted_once {ts : List C2} (nd : ts.Nodup) : (srt ts).Pairwise fun a b => le2 a b ∧ a ≠ b := by
  have p := List.pairwise_mergeSort (le := fun a b : C2 => decide (le2 a b)) (fun a b c h k => by
    rw [decide_eq_true_eq] at *
    unfold le2 at *
    omega) (fun a b => by
    rw [Bool.or_eq_true, decide_eq_true_eq, decide_eq_true_eq]
    unfold le2
    omega) ts
  have n : (srt ts).Nodup := (srt_perm ts).nodup_iff.mpr nd
  refine (List.pairwise_and_iff.mpr ⟨p, n⟩).imp fun {a b} h => ?_
  obtain ⟨h1, h2⟩ := h
  rw [decide_eq_true_eq] at h1
  exact ⟨h1, h2⟩
theorem srt_same {xs ys : List C2} (n1 : xs.Nodup) (n2 : ys.Nodup) (h : ∀ a, a ∈ xs ↔ a ∈ ys) : srt xs = srt ys :=
  rising_eq (r := fun a b : C2 => le2 a b ∧ a ≠ b) (fun a h => h.2 rfl) (fun a b c h k => by
    obtain ⟨a1, a2⟩ := a
    obtain ⟨b1, b2⟩ := b
    obtain ⟨c1, c2⟩ := c
    simp only [le2, ne_eq, Prod.mk.injEq] at *
    omega) (sorted_once n1) (sorted_once n2) fun a => by rw [srt_mem, srt_mem, h]
def dvs : List C2 := [(1, 0), (1, 1), (0, 1), (-1, 1), (-1, 0), (-1, -1), (0, -1), (1, -1)]
def dv (d : Int) : C2 := dvs.getD d.toNat (0, 0)
def stp (c : C2) (d : Int) : C2 := (c.1 + (dv d).1, c.2 + (dv d).2)
def nxt (os : List C2) (c : C2) (ord : List Int) : Option Int := ord.find? fun d => decide (stp c d ∈ os)
def ord8 : List Int := [0, 1, 2, 3, 4, 5, 6, 7]
def turn (d : Int) : List Int := [0, 1, -1, 2, -2, 3, -3].map fun t => (d + t) % 8
theorem turnL (d : Int) : ([0, 1, 7, 2, 6, 3, 5].map fun t => (d + t) % 8) = turn d := by
  unfold turn
  simp only [List.map_cons, List.map_nil]
  rw [show (d + 7) % 8 = (d + -1) % 8 by omega, show (d + 6) % 8 = (d + -2) % 8 by omega, show (d + 5) % 8 = (d + -3) % 8 by omega]
theorem turn_bd {d t : Int} (h : t ∈ turn d) : 0 ≤ t ∧ t < 8 := by
  unfold turn at h
  obtain ⟨u, _, rfl⟩ := List.mem_map.mp h
  omega
def walk : Nat → List C2 → C2 → List Int → List C2 × List C2
  | 0, os, _, _ => ([], os)
  | n + 1, os, c, ord => match nxt os c ord with
    | none => ([], os)
    | some d => (stp c d :: (walk n (rm os (stp c d)) (stp c d) (turn d)).1, (walk n (rm os (stp c d)) (stp c d) (turn d)).2)
def far1 (a b : C2) : Int := if (((b.2 - a.2).natAbs : Nat) : Int) > (((b.1 - a.1).natAbs : Nat) : Int) then (((b.2 - a.2).natAbs : Nat) : Int) else (((b.1 - a.1).natAbs : Nat) : Int)
/-- a run c :: cs, closed where it may be -/
def clos (c : C2) (cs : List C2) : List C2 := if 2 ≤ cs.length ∧ far1 ((c :: cs).getLast (List.cons_ne_nil _ _)) c = 1 then (c :: cs) ++ [c] else c :: cs
def rr : List C2 → List C2 → List (List C2)
  | [], _ => []
  | c :: cs, os => if c ∈ os then clos c (walk os.length (rm os c) c ord8).1 :: rr cs (walk os.length (rm os c) c ord8).2 else rr cs os
def runsOf (ps : List C2) : List (List C2) := rr (srt ps) ps
def lcs (cs : List C2) : P := .list (cs.map pc)
theorem nxt_in {os : List C2} {c : C2} {ord : List Int} {d : Int} (h : nxt os c ord = some d) : stp c d ∈ os ∧ d ∈ ord := ⟨by simpa using List.find?_some h, List.mem_of_find?_eq_some h⟩
theorem walk_some {n : Nat} {os : List C2} {c : C2} {ord : List Int} {d : Int} (hn : os.length ≤ n) (h : nxt os c ord = some d) : ∃ m, n = m + 1 ∧ (rm os (stp c d)).length ≤ m ∧ walk n os c ord = (stp c d :: (walk m (rm os (stp c d)) (stp c d) (turn d)).1, (walk m (rm os (stp c d)) (stp c d) (turn d)).2) := by
  have h1 := rm_len (nxt_in h).1
  cases n with
  | zero => omega
  | succ m =>
    refine ⟨m, rfl, by omega, ?_⟩
    show (match nxt os c ord with | none => _ | some d => _) = _
    rw [h]
theorem walk_none {n : Nat} {os : List C2} {c : C2} {ord : List Int} (h : nxt os c ord = none) : walk n os c ord = ([], os) := by
  cases n with
  | zero => rfl
  | succ m =>
    show (match nxt os c ord with | none => _ | some d => _) = _
    rw [h]
theorem walk_len : ∀ (n : Nat) (os : List C2) (c : C2) (ord : List Int), (walk n os c ord).1.length + (walk n os c ord).2.length ≤ os.length
  | 0, os, _, _ => by show 0 + os.length ≤ _; omega
  | n + 1, os, c, ord => by
    show (match nxt os c ord with | none => ([], os) | some d => (stp c d :: (walk n (rm os (stp c d)) (stp c d) (turn d)).1, (walk n (rm os (stp c d)) (stp c d) (turn d)).2) : List C2 × List C2).1.length + _ ≤ _
    cases h : nxt os c ord with
    | none =>
      rw [walk_none h]
      show 0 + os.length ≤ _
      omega
    | some d =>
      have h1 := rm_len (nxt_in h).1
      have h2 := walk_len n (rm os (stp c d)) (stp c d) (turn d)
      show ((walk n (rm os (stp c d)) (stp c d) (turn d)).1.length + 1) + (match nxt os c ord with | none => ([], os) | some d => (stp c d :: (walk n (rm os (stp c d)) (stp c d) (turn d)).1, (walk n (rm os (stp c d)) (stp c d) (turn d)).2) : List C2 × List C2).2.length ≤ _
      rw [h]
      dsimp only
      omega
theorem walk_sub : ∀ (n : Nat) (os : List C2) (c : C2) (ord : List Int) (a : C2), a ∈ (walk n os c ord).2 → a ∈ os
  | 0, os, _, _, a, h => h
  | n + 1, os, c, ord, a, h => by
    cases e : nxt os c ord with
    | none => rw [walk_none e] at h; exact h
    | some d =>
      have e2 : walk (n + 1) os c ord = (stp c d :: (walk n (rm os (stp c d)) (stp c d) (turn d)).1, (walk n (rm os (stp c d)) (stp c d) (turn d)).2) := by
        show (match nxt os c ord with | none => _ | some d => _) = _
        rw [e]
      rw [e2] at h
      exact (rm_mem.mp (walk_sub n _ _ _ a h)).1
theorem rr_len : ∀ (cs os : List C2), (rr cs os).length ≤ cs.length
  | [], _ => Nat.zero_le _
  | c :: cs, os => by
    unfold rr
    split
    · have := rr_len cs (walk os.length (rm os c) c ord8).2
      rw [List.length_cons, List.length_cons]
      omega
    · have := rr_len cs os
      rw [List.length_cons]
      omega
end LR
/-! LF: loops over numbers, over encoded lists. -/
namespace DL
open PySem PySem.Spec PyProof.Rows L2
theorem for_rng {b : D → Envi → Sto → Option Out} {Q : Out → Prop} {lo : Int} {n : Nat} {e : Envi} {S : Sto} (I : Int → Envi → Sto → Prop) (h0 : I lo e S)
    (st : ∀ i e S, lo ≤ i → i < lo + n → I i e S → W (b (.pu (.int i)) e S) (loopQ (I (i + 1)) Q)) (q : ∀ e S, I (lo + n) e S → Q (.nx e S)) : W (forD b (rngD lo n) e S) Q := by
  refine for_inv (fun j e S => I (lo + j) e S) _ 0 _ _ (by simpa using h0) (fun i d e S hd hi => ?_) fun e S h => ?_
  · obtain ⟨hn, rfl⟩ := rng_get hd
    have := st (lo + i) e S (by omega) (by omega) (by simpa using hi)
    refine this.imp fun o h => ?_
    have e1 : lo + ((0 + i + 1 : Nat) : Int) = lo + i + 1 := by omega
    rw [e1]
    exact h
  · rw [rng_len, Nat.zero_add] at h
    exact q e S h
theorem for_map {α : Type} {f : α → P} {xs : List α} {b : D → Envi → Sto → Option Out} {Q : Out → Prop} {e : Envi} {S : Sto} (I : Nat → Envi → Sto → Prop) (h0 : I 0 e S)
    (st : ∀ i a e S, xs[i]? = some a → I i e S → W (b (.pu (f a)) e S) (loopQ (I (i + 1)) Q)) (q : ∀ e S, I xs.length e S → Q (.nx e S)) : W (forD b ((xs.map f).map D.pu) e S) Q := by
  refine for_inv I _ 0 _ _ h0 (fun i d e S hd hi => ?_) fun e S h => ?_
  · rw [List.map_map, List.getElem?_map] at hd
    obtain ⟨a, ha, rfl⟩ := Option.map_eq_some_iff.mp hd
    rw [Nat.zero_add] at hi
    have := st i a e S ha hi
    rw [Nat.zero_add]
    exact this
  · rw [Nat.zero_add, List.length_map, List.length_map] at h
    exact q e S h
/-- walked so far: a set of items taken one by one -/
theorem take_mem {α : Type} {xs : List α} {i : Nat} {a b : α} (h : xs[i]? = some a) : b ∈ xs.take (i + 1) ↔ b ∈ xs.take i ∨ b = a := by
  rw [List.take_add_one, h, List.mem_append]
  simp
section
variable {α : Type} [DecidableEq α]
omit [DecidableEq α] in
theorem set4 {β : Type} {e : List β} {i j : Nat} (hij : i ≠ j) {v A B C : β} : (((e.set j v).set i A).set j B).set i C = (e.set j B).set i C := by
  rw [List.set_comm A B hij, List.set_set, List.set_set]
/-- for a in ..: d[a] = True -/
theorem merge_ok {enc : α → P} (E : KEnc enc) {i j : Nat} (hij : i ≠ j) {qs ps : List α} {e : Envi} {S : Sto} {Q : Out → Prop} (he : e[i]? = some (some (.ow (.dct (asD enc ps))))) (hj : j < e.length) (hl : ps.length + qs.length ≤ lim) (nd : ps.Nodup)
    (q : ∀ v ps', ps'.Nodup → (∀ t, t ∈ ps' ↔ t ∈ ps ∨ t ∈ qs) → ps'.length ≤ ps.length + qs.length → Q (.nx ((e.set j v).set i (some (.ow (.dct (asD enc ps'))))) S)) :
    W (forD (fun d e S => (gNm j d e S).bind fun q => (sSeq (sAsg (xP (.bool true)) (gSubT (xVar i) (xVar j))) sNil) q.1 q.2) ((qs.map enc).map D.pu) e S) Q := by
  have hi : i < e.length := (List.getElem?_eq_some_iff.mp he).1
  refine for_map (fun m e' S' => ∃ v ps', e' = (e.set j v).set i (some (.ow (.dct (asD enc ps')))) ∧ S' = S ∧ ps'.Nodup ∧ (∀ t, t ∈ ps' ↔ t ∈ ps ∨ t ∈ qs.take m) ∧ ps'.length ≤ ps.length + m) ⟨e[j], ps, ?_, rfl, nd, fun t => by simp, by omega⟩ ?_ ?_
  · rw [List.set_getElem_self]
    have := (List.getElem?_eq_some_iff.mp he).2
    rw [← this, List.set_getElem_self]
  · rintro m a e' S' ha ⟨v, ps', rfl, rfl, nd', hm, hl'⟩
    have hm8 := (List.getElem?_eq_some_iff.mp ha).1
    rw [w_bind]
    rw [w_nmP]
    dsimp only
    rw [w_seq, w_asg, w_P, w_gSubT]
    have x1 : (((e.set j v).set i (some (.ow (.dct (asD enc ps'))))).set j (some (.val (.pu (enc a)))))[i]? = some (some (.ow (.dct (asD enc ps')))) := by
      rw [List.getElem?_set_ne (Ne.symm hij), List.getElem?_set_self (by rw [List.length_set]; exact hi)]
    have x2 : (((e.set j v).set i (some (.ow (.dct (asD enc ps'))))).set j (some (.val (.pu (enc a)))))[j]? = some (some (.val (.pu (enc a)))) := by
      rw [List.getElem?_set_self (by rw [List.length_set, List.length_set]; exact hj)]
    rw [w_var, x1, w_slo]
    dsimp only
    rw [w_var, x2, w_slv]
    refine ⟨rfl, put_as E x1 (by unfold lim at *; omega) ?_⟩
    rw [w_qnx, w_sNil, w_lqn]
    refine ⟨some (.val (.pu (enc a))), addK ps' a, ?_, rfl, addK_nodup nd', fun t => ?_, by have := addK_len (qs := ps') (a := a); omega⟩
    · exact set4 hij
    · rw [addK_mem, hm, take_mem ha, or_assoc]
  · rintro e' S' ⟨v, ps', rfl, rfl, nd', hm, hl'⟩
    rw [List.take_length] at hm
    exact q v ps' nd' hm hl'
end
end DL
/-! LR1: runs: the program's walk. -/
namespace LR
open PySem PySem.Spec PyProof.Rows L2 DL
theorem small1 : small 1 = true := by decide
theorem lt8 {d : Nat} (h : d < 8) : d = 0 ∨ d = 1 ∨ d = 2 ∨ d = 3 ∨ d = 4 ∨ d = 5 ∨ d = 6 ∨ d = 7 := by omega
theorem lr1_of {mk : List P → D} {xa : Ex} {e : Envi} {S : Sto} {j : Int} {Q : D × Sto → Prop} (h : xa e S = some (.pu (.int j), S)) (hj : 0 ≤ j ∧ j ≤ 1000) (q : Q (mk (rngP 0 j.toNat), S)) : W (xLr1 mk xa e S) Q := by
  have e : xLr1 mk xa e S = some (mk (rngP 0 j.toNat), S) := by
    unfold xLr1
    rw [h, Option.bind_some]
    dsimp only
    rw [if_pos]
    rw [Bool.and_eq_true, rOk_iff, decide_eq_true_eq]
    omega
  rw [e]
  exact w_some.mpr q
theorem stepped_ok {c : C2} {d : Int} (h : 0 ≤ d ∧ d < 8) {Q : P → Prop} (q : Q (pc (stp c d))) : W (m_stepped [pc c, .int d, .int 1]) Q := by
  obtain ⟨n, rfl⟩ := Int.eq_ofNat_of_zero_le h.1
  have hn : n < 8 := by omega
  unfold m_stepped
  rw [w_runP]
  refine ⟨⟨rfl, by decide⟩, ?_⟩
  rw [show env0 5 (List.map D.pu [pc c, .int n, .int 1]) = [some (.val (.pu (.tuple [.int c.1, .int c.2]))), some (.val (.pu (.int n))), some (.val (.pu (.int 1))), none, none] from rfl]
  unfold b_stepped p_DIRECTIONS_corners
  rw [wrD]
  simp only [DL.evA, DL.evH, DL.evJ, DL.evM, DL.evQ, DL.evU, DL.evX, List.getElem?_cons_zero, List.getElem?_cons_succ, List.set_cons_zero, List.set_cons_succ, ↓reduceIte, Bool.false_eq_true, List.map_cons, List.map_nil, List.length_cons, List.length_nil, Bool.not_true, Bool.not_false]
  refine w_at n rfl (x := .wr (.tuple [.int (dv n).1, .int (dv n).2])) (by rcases lt8 hn with rfl | rfl | rfl | rfl | rfl | rfl | rfl | rfl <;> rfl) ?_
  simp only [DL.evA, DL.evH, DL.evJ, DL.evM, DL.evQ, DL.evU, DL.evX, List.getElem?_cons_zero, List.getElem?_cons_succ, List.set_cons_zero, List.set_cons_succ, ↓reduceIte, Bool.false_eq_true, List.map_cons, List.map_nil, List.length_cons, List.length_nil, Bool.not_true, Bool.not_false, small1, Bool.or_true, Int.mul_one]
  (repeat refine And.intro (by first | exact True.intro | exact Nat.le_of_ble_eq_true rfl | with_reducible_and_instances rfl | exact rfl | decide) ?_)
  exact q
def ah : Option Int → P
  | none => .none
  | some d => .int d
def ordOf : Option Int → List Int
  | none => ord8
  | some d => turn d
theorem ordOf_bd {a : Option Int} {t : Int} (h : t ∈ ordOf a) : 0 ≤ t ∧ t < 8 := by
  cases a with
  | none =>
    simp only [ordOf, ord8, List.mem_cons, List.not_mem_nil, or_false] at h
    omega
  | some d => exact turn_bd h
theorem ordOf_len (a : Option Int) : (ordOf a).length ≤ 8 := by
  cases a with
  | none => decide
  | some d => exact Nat.le_of_ble_eq_true rfl
theorem dirs_ok {a : Option Int} {Q : P → Prop} (q : Q (.list ((ordOf a).map .int))) : W (m_directions_from [ah a]) Q := by
  unfold m_directions_from
  rw [w_runP]
  refine ⟨⟨rfl, by decide⟩, ?_⟩
  rw [show env0 2 (List.map D.pu [ah a]) = [some (.val (.pu (ah a))), none] from rfl]
  unfold b_directions_from
  cases a with
  | none =>
    simp only [ah, DL.evA, DL.evH, DL.evJ, DL.evM, DL.evQ, DL.evU, DL.evX, List.getElem?_cons_zero, List.getElem?_cons_succ, List.set_cons_zero, List.set_cons_succ, ↓reduceIte, Bool.false_eq_true, List.map_cons, List.map_nil, List.length_cons, List.length_nil, Bool.not_true, Bool.not_false]
    (repeat refine And.intro (by first | exact True.intro | exact Nat.le_of_ble_eq_true rfl | with_reducible_and_instances rfl | exact rfl | decide) ?_)
    refine lr1_of (j := 8) rfl (by decide) ?_
    simp only [DL.evA, DL.evH, DL.evJ, DL.evM, DL.evQ, DL.evU, DL.evX, List.getElem?_cons_zero, List.getElem?_cons_succ, List.set_cons_zero, List.set_cons_succ, ↓reduceIte, Bool.false_eq_true, List.map_cons, List.map_nil, List.length_cons, List.length_nil, Bool.not_true, Bool.not_false]
    exact q
  | some d =>
    simp only [ah, DL.evA, DL.evH, DL.evJ, DL.evM, DL.evQ, DL.evU, DL.evX, List.getElem?_cons_zero, List.getElem?_cons_succ, List.set_cons_zero, List.set_cons_succ, ↓reduceIte, Bool.false_eq_true, List.map_cons, List.map_nil, List.length_cons, List.length_nil, Bool.not_true, Bool.not_false]
    (repeat refine And.intro (by first | exact True.intro | exact Nat.le_of_ble_eq_true rfl | with_reducible_and_instances rfl | exact rfl | decide) ?_)
    rw [show itemsD (wrD p_TURNS) = some (true, (([0, 1, -1, 2, -2, 3, -3] : List Int).map PyData.int).map D.pu) from rfl, w_some]
    show W (compD _ _ _ _ ((([0, 1, -1, 2, -2, 3, -3] : List Int).map PyData.int).map D.pu) _ _) _
    refine comp_on PyData.int (fun t => .int ((d + t) % 8)) _ (fun t _ Q' q' => ?_) (Nat.le_of_ble_eq_true rfl) ?_
    · simp only [wipeE, DL.evA, DL.evH, DL.evJ, DL.evM, DL.evQ, DL.evU, DL.evX, List.getElem?_cons_zero, List.getElem?_cons_succ, List.set_cons_zero, List.set_cons_succ, ↓reduceIte, Bool.false_eq_true, List.map_cons, List.map_nil, List.length_cons, List.length_nil, Bool.not_true, Bool.not_false, p_DIRECTIONS_runs, wrD]
      (repeat refine And.intro (by first | exact True.intro | exact Nat.le_of_ble_eq_true rfl | with_reducible_and_instances rfl | exact rfl | decide) ?_)
      exact q'
    · (repeat refine And.intro (by first | exact True.intro | exact Nat.le_of_ble_eq_true rfl | with_reducible_and_instances rfl | exact rfl | decide) ?_)
      simp only [ordOf, turn, List.map_map] at q
      exact q
theorem next_ok {S : Sto} {n : Nat} {os : List C2} (he : S[n]? = some (.dct (asDc pc os))) {c : C2} {a : Option Int} {Q : D × Sto → Prop} (q : Q (.pu (ah (nxt os c (ordOf a))), S)) : W (m_next_direction [.rf n, .pu (pc c), .pu (ah a)] S) Q := by
  unfold m_next_direction
  rw [w_runF]
  refine ⟨⟨by cases a <;> rfl, by decide⟩, ?_⟩
  rw [show env0 4 [.rf n, .pu (pc c), .pu (ah a)] = [some (.val (.rf n)), some (.val (.pu (pc c))), some (.val (.pu (ah a))), none] from rfl]
  unfold b_next_direction
  simp only [DL.evA, DL.evH, DL.evJ, DL.evM, DL.evQ, DL.evU, DL.evX, List.getElem?_cons_zero, List.getElem?_cons_succ, List.set_cons_zero, List.set_cons_succ, ↓reduceIte, Bool.false_eq_true, List.map_cons, List.map_nil, List.length_cons, List.length_nil, Bool.not_true, Bool.not_false]
  refine dirs_ok ?_
  simp only [DL.evA, DL.evH, DL.evJ, DL.evM, DL.evQ, DL.evU, DL.evX, List.getElem?_cons_zero, List.getElem?_cons_succ, List.set_cons_zero, List.set_cons_succ, ↓reduceIte, Bool.false_eq_true, List.map_cons, List.map_nil, List.length_cons, List.length_nil, Bool.not_true, Bool.not_false]
  refine for_map (fun i e S' => ∃ e3 : Option Sl, e = [some (.val (.rf n)), some (.val (.pu (pc c))), some (.val (.pu (ah a))), e3] ∧ S' = S ∧ ∀ t ∈ (ordOf a).take i, stp c t ∉ os) ⟨none, rfl, rfl, fun t h => (by simp at h)⟩ ?_ ?_
  · rintro i t e S' hi ⟨e3, rfl, rfl, hm⟩
    simp only [DL.evA, DL.evH, DL.evJ, DL.evM, DL.evQ, DL.evU, DL.evX, List.getElem?_cons_zero, List.getElem?_cons_succ, List.set_cons_zero, List.set_cons_succ, ↓reduceIte, Bool.false_eq_true, List.map_cons, List.map_nil, List.length_cons, List.length_nil, Bool.not_true, Bool.not_false]
    (repeat refine And.intro (by first | exact True.intro | exact Nat.le_of_ble_eq_true rfl | with_reducible_and_instances rfl | exact rfl | decide) ?_)
    refine stepped_ok (ordOf_bd (List.mem_of_getElem? hi)) ?_
    (repeat refine And.intro (by first | exact True.intro | exact Nat.le_of_ble_eq_true rfl | with_reducible_and_instances rfl | exact rfl | decide) ?_)
    refine inZ_c he ?_
    simp only [DL.evA, DL.evH, DL.evJ, DL.evM, DL.evQ, DL.evU, DL.evX, List.getElem?_cons_zero, List.getElem?_cons_succ, List.set_cons_zero, List.set_cons_succ, ↓reduceIte, Bool.false_eq_true, List.map_cons, List.map_nil, List.length_cons, List.length_nil, Bool.not_true, Bool.not_false]
    by_cases h : stp c t ∈ os
    · rw [decide_eq_true h, if_pos rfl]
      have e : nxt os c (ordOf a) = some t := by
        unfold nxt
        rw [List.find?_eq_some_iff_getElem]
        refine ⟨by simpa using h, i, (List.getElem?_eq_some_iff.mp hi).1, (List.getElem?_eq_some_iff.mp hi).2, fun j hj => ?_⟩
        have := hm _ (List.mem_take_iff_getElem.mpr ⟨j, by have := (List.getElem?_eq_some_iff.mp hi).1; omega, rfl⟩)
        simpa using this
      rw [e] at q
      (repeat refine And.intro (by first | exact True.intro | exact Nat.le_of_ble_eq_true rfl | with_reducible_and_instances rfl | exact rfl | decide) ?_)
      exact q
    · rw [decide_eq_false h, if_neg (by decide)]
      exact ⟨_, rfl, trivial, fun u hu => (by
        rcases (take_mem hi).mp hu with hu | rfl
        · exact hm u hu
        · exact h)⟩
  · rintro e S' ⟨e3, rfl, rfl, hm⟩
    simp only [DL.evA, DL.evH, DL.evJ, DL.evM, DL.evQ, DL.evU, DL.evX, List.getElem?_cons_zero, List.getElem?_cons_succ, List.set_cons_zero, List.set_cons_succ, ↓reduceIte, Bool.false_eq_true, List.map_cons, List.map_nil, List.length_cons, List.length_nil, Bool.not_true, Bool.not_false]
    rw [List.take_length] at hm
    have e : nxt os c (ordOf a) = none := by
      unfold nxt
      rw [List.find?_eq_none]
      intro t ht
      simpa using hm t ht
    rw [e] at q
    (repeat refine And.intro (by first | exact True.intro | exact Nat.le_of_ble_eq_true rfl | with_reducible_and_instances rfl | exact rfl | decide) ?_)
    exact q
end LR
/-! LR2: runs: the program's walk. -/
namespace LR
open PySem PySem.Spec PyProof.Rows L2 DL
noncomputable def rfW : Sx := sSeq (sWhile (tOfE (x2 (gIsN true) (xVar 3) (xP .none))) (sSeq (sApp (xVar 2) (xA (gCallP m_stepped) (aCons (x2 gIx (xVar 2) (x1 (s1 pNeg) (xP (.int 1)))) (aCons (xVar 3) (aCons (xP (.int 1)) (aNil)))))) (sSeq (sPopC (xVar 0) (x2 gIx (xVar 2) (x1 (s1 pNeg) (xP (.int 1))))) (sSeq (sSet 3 (xA (gCallF m_next_direction) (aCons (xVar 0) (aCons (x2 gIx (xVar 2) (x1 (s1 pNeg) (xP (.int 1)))) (aCons (xVar 3) (aNil)))))) (sNil))))) (sFq 2 (sSeq (sRet (xVar 2)) (sNil)))
theorem b_run_from_split : b_run_from = sSeq (sSet 2 (xA gLstN (aCons (xVar 1) (aNil)))) (sSeq (sPopC (xVar 0) (xVar 1)) (sSeq (sSet 3 (xA (gCallF m_next_direction) (aCons (xVar 0) (aCons (xVar 1) (aCons (xP .none) (aNil)))))) (rfW))) := rfl
theorem set_set {S : Sto} {n : Nat} {a b : MC} : (S.set n a).set n b = S.set n b := List.set_set ..
theorem at_set {S : Sto} {n : Nat} {a b : MC} (h : S[n]? = some a) : (S.set n b)[n]? = some b := by
  rw [List.getElem?_set_self (List.getElem?_eq_some_iff.mp h).1]
theorem at_lastP {xs : List P} {p : P} {Q : D → Prop} (q : Q (.pu p)) : W (atI (List.map D.pu (xs ++ [p])) (-1)) Q := at_neg (by rw [List.map_append, List.getLast?_append]; rfl) q
theorem at_lastC {xs : List C2} {c : C2} {Q : D → Prop} (q : Q (.pu (pc c))) : W (atI (List.map D.pu (List.map pc (xs ++ [c]))) (-1)) Q := by
  rw [List.map_append]
  exact at_lastP q
theorem run_ok {S : Sto} {n : Nat} {os : List C2} (he : S[n]? = some (.dct (asDc pc os))) {c : C2} (hc : c ∈ os) (hl : os.length ≤ 100000) {Q : D × Sto → Prop} (q : Q (.pu (lcs (c :: (walk os.length (rm os c) c ord8).1)), S.set n (.dct (asDc pc (walk os.length (rm os c) c ord8).2)))) : W (m_run_from [.rf n, .pu (pc c)] S) Q := by
  unfold m_run_from
  rw [w_runF]
  refine ⟨⟨rfl, by decide⟩, ?_⟩
  rw [show env0 4 [.rf n, .pu (pc c)] = [some (.val (.rf n)), some (.val (.pu (pc c))), none, none] from rfl]
  rw [b_run_from_split]
  simp only [DL.evA, DL.evH, DL.evJ, DL.evM, DL.evQ, DL.evU, DL.evX, List.getElem?_cons_zero, List.getElem?_cons_succ, List.set_cons_zero, List.set_cons_succ, ↓reduceIte, Bool.false_eq_true, List.map_cons, List.map_nil, List.length_cons, List.length_nil, Bool.not_true, Bool.not_false, w_popSC]
  (repeat refine And.intro (by first | exact True.intro | exact Nat.le_of_ble_eq_true rfl | with_reducible_and_instances rfl | exact rfl | decide) ?_)
  refine popC_c he hc ?_
  simp only [DL.evA, DL.evH, DL.evJ, DL.evM, DL.evQ, DL.evU, DL.evX, List.getElem?_cons_zero, List.getElem?_cons_succ, List.set_cons_zero, List.set_cons_succ, ↓reduceIte, Bool.false_eq_true, List.map_cons, List.map_nil, List.length_cons, List.length_nil, Bool.not_true, Bool.not_false]
  (repeat refine And.intro (by first | exact True.intro | exact Nat.le_of_ble_eq_true rfl | with_reducible_and_instances rfl | exact rfl | decide) ?_)
  refine next_ok (a := none) (at_set he) ?_
  simp only [DL.evA, DL.evH, DL.evJ, DL.evM, DL.evQ, DL.evU, DL.evX, List.getElem?_cons_zero, List.getElem?_cons_succ, List.set_cons_zero, List.set_cons_succ, ↓reduceIte, Bool.false_eq_true, List.map_cons, List.map_nil, List.length_cons, List.length_nil, Bool.not_true, Bool.not_false]
  unfold rfW
  have hr := rm_len hc
  rw [w_seq]
  generalize hw : walk os.length (rm os c) c ord8 = w at q
  refine while_inv (fun k e S' => ∃ (rs cs os' : List C2) (m : Nat) (a : Option Int) (ord : List Int) (c' : C2), e = [some (.val (.rf n)), some (.val (.pu (pc c))), some (.ow (.lst ((rs ++ [c']).map pc))), some (.val (.pu (ah a)))] ∧ S' = S.set n (.dct (asDc pc os')) ∧ k = os'.length ∧ os'.length ≤ m ∧ rs.length + os'.length ≤ os.length ∧ a = nxt os' c' ord ∧ (∀ t ∈ ord, 0 ≤ t ∧ t < 8) ∧ rs ++ [c'] ++ (walk m os' c' ord).1 = c :: w.1 ∧ (walk m os' c' ord).2 = w.2) ?_ _ _ _ ⟨[], [], rm os c, os.length, _, ord8, c, rfl, rfl, rfl, by omega, by simp only [List.length_nil]; omega, rfl, fun t ht => ordOf_bd (a := none) ht, by rw [hw]; rfl, by rw [hw]⟩
  rintro k e S' ⟨rs, cs, os', m, a, ord, c', rfl, rfl, rfl, hm, hlen, ha, hord, h1, h2⟩
  cases a with
  | none =>
    simp only [ah, DL.evA, DL.evH, DL.evJ, DL.evM, DL.evQ, DL.evU, DL.evX, List.getElem?_cons_zero, List.getElem?_cons_succ, List.set_cons_zero, List.set_cons_succ, ↓reduceIte, Bool.false_eq_true, List.map_cons, List.map_nil, List.length_cons, List.length_nil, Bool.not_true, Bool.not_false, frzP]
    rw [walk_none ha.symm] at h1 h2
    (repeat refine And.intro (by first | exact True.intro | exact Nat.le_of_ble_eq_true rfl | with_reducible_and_instances rfl | exact rfl | decide) ?_)
    rw [List.append_nil] at h1
    rw [h1]
    simp only at h2
    rw [h2]
    exact q
  | some d =>
    obtain ⟨hin, hd⟩ := nxt_in ha.symm
    have hdb := hord d hd
    obtain ⟨m', rfl, hm', hwk⟩ := walk_some hm ha.symm
    have hrm := rm_len hin
    simp only [ah, DL.evA, DL.evH, DL.evJ, DL.evM, DL.evQ, DL.evU, DL.evX, List.getElem?_cons_zero, List.getElem?_cons_succ, List.set_cons_zero, List.set_cons_succ, ↓reduceIte, Bool.false_eq_true, List.map_cons, List.map_nil, List.length_cons, List.length_nil, Bool.not_true, Bool.not_false, w_popSC]
    (repeat refine And.intro (by first | exact True.intro | exact Nat.le_of_ble_eq_true rfl | with_reducible_and_instances rfl | exact rfl | decide) ?_)
    refine at_lastC ?_
    simp only [DL.evA, DL.evH, DL.evJ, DL.evM, DL.evQ, DL.evU, DL.evX, List.getElem?_cons_zero, List.getElem?_cons_succ, List.set_cons_zero, List.set_cons_succ, ↓reduceIte, Bool.false_eq_true, List.map_cons, List.map_nil, List.length_cons, List.length_nil, Bool.not_true, Bool.not_false]
    refine stepped_ok hdb ?_
    refine ⟨rfl, by rw [List.length_map, List.length_append, List.length_singleton]; unfold lim; omega, at_lastP ?_⟩
    refine popC_c (at_set he) hin ?_
    simp only [DL.evA, DL.evH, DL.evJ, DL.evM, DL.evQ, DL.evU, DL.evX, List.getElem?_cons_zero, List.getElem?_cons_succ, List.set_cons_zero, List.set_cons_succ, ↓reduceIte, Bool.false_eq_true, List.map_cons, List.map_nil, List.length_cons, List.length_nil, Bool.not_true, Bool.not_false]
    (repeat refine And.intro (by first | exact True.intro | exact Nat.le_of_ble_eq_true rfl | with_reducible_and_instances rfl | exact rfl | decide) ?_)
    refine at_lastP ?_
    (repeat refine And.intro (by first | exact True.intro | exact Nat.le_of_ble_eq_true rfl | with_reducible_and_instances rfl | exact rfl | decide) ?_)
    rw [set_set]
    refine next_ok (a := some d) (at_set he) ?_
    simp only [DL.evA, DL.evH, DL.evJ, DL.evM, DL.evQ, DL.evU, DL.evX, List.getElem?_cons_zero, List.getElem?_cons_succ, List.set_cons_zero, List.set_cons_succ, ↓reduceIte, Bool.false_eq_true, List.map_cons, List.map_nil, List.length_cons, List.length_nil, Bool.not_true, Bool.not_false]
    refine ⟨_, hrm, rs ++ [c'], [], rm os' (stp c' d), m', nxt (rm os' (stp c' d)) (stp c' d) (turn d), turn d, stp c' d, ?_, rfl, rfl, hm', ?_, rfl, fun t ht => turn_bd ht, ?_, ?_⟩
    · rw [List.map_append (l₂ := [stp c' d])]
      rfl
    · rw [List.length_append, List.length_singleton]
      omega
    · rw [hwk] at h1
      rw [List.append_assoc (rs ++ [c'])]
      exact h1
    · rw [hwk] at h2
      exact h2
end LR
/-! LS: straight. -/
namespace LSR
open PySem PySem.Spec PyProof.Rows L2 DL
def ex (d : Nat) : Int := [1, 1, 0, -1, -1, -1, 0, 1].getD d 0
def ey (d : Nat) : Int := [0, 1, 1, 1, 0, -1, -1, -1].getD d 0
theorem lt8 {d : Nat} (h : d < 8) : d = 0 ∨ d = 1 ∨ d = 2 ∨ d = 3 ∨ d = 4 ∨ d = 5 ∨ d = 6 ∨ d = 7 := by omega
def big (r u : Int) : Int := if ((u.natAbs : Nat) : Int) > ((r.natAbs : Nat) : Int) then ((u.natAbs : Nat) : Int) else ((r.natAbs : Nat) : Int)
def dirOf (r u : Int) : Int := if 0 < r then (if 0 < u then 1 else if u < 0 then 7 else 0) else if r < 0 then (if 0 < u then 3 else if u < 0 then 5 else 4) else (if 0 < u then 2 else 6)
def bad (r u : Int) : Prop := (r = 0 ∧ u = 0) ∨ (r ≠ 0 ∧ u ≠ 0 ∧ r.natAbs ≠ u.natAbs)
instance (r u : Int) : Decidable (bad r u) := by unfold bad; exact inferInstance
def sd (r u : Int) : P := if bad r u then .none else .tuple [.int (dirOf r u), .int (big r u)]
theorem sd_hit {r u : Int} {d : Nat} (hd : d < 8) (h0 : 0 < big r u) (h1 : r = big r u * ex d) (h2 : u = big r u * ey d) : sd r u = .tuple [.int d, .int (big r u)] := by
  generalize hM : big r u = M at *
  have : ¬ bad r u ∧ dirOf r u = d := by
    unfold bad dirOf
    rcases lt8 hd with rfl | rfl | rfl | rfl | rfl | rfl | rfl | rfl <;> simp only [ex, ey, List.getD_cons_zero, List.getD_cons_succ] at h1 h2 <;> (refine ⟨by omega, ?_⟩) <;> (repeat' split) <;> omega
  unfold sd
  rw [if_neg this.1, this.2, hM]
theorem sd_miss {r u : Int} (h : ∀ d : Nat, d < 8 → ¬ (0 < big r u ∧ r = big r u * ex d ∧ u = big r u * ey d)) : sd r u = .none := by
  unfold sd
  refine if_pos ?_
  by_cases hb : bad r u
  · exact hb
  · exfalso
    have k := fun d hd => h d hd
    have k0 := h 0 (by decide); have k1 := h 1 (by decide); have k2 := h 2 (by decide); have k3 := h 3 (by decide)
    have k4 := h 4 (by decide); have k5 := h 5 (by decide); have k6 := h 6 (by decide); have k7 := h 7 (by decide)
    simp only [ex, ey, List.getD_cons_zero, List.getD_cons_succ] at k0 k1 k2 k3 k4 k5 k6 k7
    unfold bad at hb
    unfold big at *
    split at * <;> omega
theorem sd_back {r u : Int} : sd (-r) (-u) = if bad r u then .none else .tuple [.int ((dirOf r u + 4) % 8), .int (big r u)] := by
  unfold sd
  by_cases h : bad r u
  · rw [if_pos h, if_pos (by unfold bad at *; omega)]
  · have e1 : dirOf (-r) (-u) = (dirOf r u + 4) % 8 := by
      unfold bad at h
      unfold dirOf
      (repeat' split) <;> omega
    have e2 : big (-r) (-u) = big r u := by
      unfold big
      rw [Int.natAbs_neg, Int.natAbs_neg]
    rw [if_neg h, if_neg (by unfold bad at *; omega), e1, e2]
def sg (r : Int) : Int := if 0 < r then 1 else if r < 0 then -1 else 0
theorem sign_ok {r : Int} {Q : P → Prop} (q : Q (.int (sg r))) : W (m_sign_of_r [.int r]) Q := by
  unfold m_sign_of_r
  rw [w_runP]
  refine ⟨⟨rfl, by decide⟩, ?_⟩
  rw [show env0 1 (List.map D.pu [.int r]) = [some (.val (.pu (.int r)))] from rfl]
  unfold b_sign_of_r
  simp only [DL.evA, DL.evH, DL.evJ, DL.evM, DL.evQ, DL.evU, DL.evX, List.getElem?_cons_zero, List.getElem?_cons_succ, List.set_cons_zero, List.set_cons_succ, ↓reduceIte, Bool.false_eq_true, List.map_cons, List.map_nil, List.length_cons, List.length_nil, Bool.not_true, Bool.not_false]
  unfold sg at q
  refine both (fun h => ?_) (fun h => ?_)
  · rw [decide_eq_true_eq] at h
    rw [if_pos h] at q
    exact q
  · rw [decide_eq_true_eq] at h
    rw [if_neg h] at q
    by_cases h2 : r < 0
    · rw [if_pos h2] at q
      simp only [decide_eq_true h2, ↓reduceIte]
      exact q
    · rw [if_neg h2] at q
      simp only [decide_eq_false h2, ↓reduceIte, Bool.false_eq_true]
      exact q
def isPair (p : P) (x y : Int) : Prop := p = .tuple [.int x, .int y] ∨ p = .list [.int x, .int y]
theorem pair_at0 {p : P} {x y : Int} {S : Sto} {Q : D × Sto → Prop} (h : isPair p x y) : W (gIx (.pu p) (.pu (.int 0)) S) Q ↔ Q (.pu (.int x), S) := by
  rcases h with rfl | rfl <;> simp only [DL.evA, DL.evH, DL.evJ, DL.evM, DL.evQ, DL.evU, DL.evX, List.getElem?_cons_zero, List.getElem?_cons_succ, List.set_cons_zero, List.set_cons_succ, ↓reduceIte, Bool.false_eq_true, List.map_cons, List.map_nil, List.length_cons, List.length_nil, Bool.not_true, Bool.not_false]
theorem pair_at1 {p : P} {x y : Int} {S : Sto} {Q : D × Sto → Prop} (h : isPair p x y) : W (gIx (.pu p) (.pu (.int 1)) S) Q ↔ Q (.pu (.int y), S) := by
  rcases h with rfl | rfl <;> simp only [DL.evA, DL.evH, DL.evJ, DL.evM, DL.evQ, DL.evU, DL.evX, List.getElem?_cons_zero, List.getElem?_cons_succ, List.set_cons_zero, List.set_cons_succ, ↓reduceIte, Bool.false_eq_true, List.map_cons, List.map_nil, List.length_cons, List.length_nil, Bool.not_true, Bool.not_false]
theorem dir_nn (r u : Int) : 0 ≤ dirOf r u ∧ dirOf r u < 8 := by
  unfold dirOf
  (repeat' split) <;> omega
theorem find_ok {r u : Int} (h : ¬ bad r u) : (([.tuple [.int 1, .int 0], .tuple [.int 1, .int 1], .tuple [.int 0, .int 1], .tuple [.int (-1), .int 1], .tuple [.int (-1), .int 0], .tuple [.int (-1), .int (-1)], .tuple [.int 0, .int (-1)], .tuple [.int 1, .int (-1)]] : List P).findIdx? fun z => PyData.eqv z (.tuple [.int (sg r), .int (sg u)])) = some (dirOf r u).toNat := by
  unfold bad at h
  unfold sg dirOf
  (repeat' split) <;> first | (exfalso; omega) | (simp [List.findIdx?_cons, PyData.eqv, PyData.eqvAll])
theorem straight_ok {p q : P} {x y u v : Int} (hp : isPair p x y) (hq : isPair q u v) {Q : P → Prop} (k : Q (sd (u - x) (v - y))) : W (m_straight_r [p, q]) Q := by
  unfold m_straight_r
  rw [w_runP]
  refine ⟨⟨rfl, by decide⟩, ?_⟩
  rw [show env0 5 (List.map D.pu [p, q]) = [some (.val (.pu p)), some (.val (.pu q)), none, none, none] from rfl]
  unfold b_straight_r p_DIRECTIONS_corners
  simp only [DL.evA, DL.evH, DL.evJ, DL.evM, DL.evQ, DL.evU, DL.evX, List.getElem?_cons_zero, List.getElem?_cons_succ, List.set_cons_zero, List.set_cons_succ, ↓reduceIte, Bool.false_eq_true, List.map_cons, List.map_nil, List.length_cons, List.length_nil, Bool.not_true, Bool.not_false, pair_at0 hp, pair_at1 hp, pair_at0 hq, pair_at1 hq]
  have tail : ¬ bad (u - x) (v - y) → W (m_sign_of_r [PyData.int (u - x)]) fun p => W (m_sign_of_r [PyData.int (v - y)]) fun p_1 => 0 + 1 + 1 ≤ lim ∧ (shp 9 (.tuple [.tuple [.int 1, .int 0], .tuple [.int 1, .int 1], .tuple [.int 0, .int 1], .tuple [.int (-1), .int 1], .tuple [.int (-1), .int 0], .tuple [.int (-1), .int (-1)], .tuple [.int 0, .int (-1)], .tuple [.int 1, .int (-1)]]) && shp 9 (.tuple [p, p_1])) = true ∧
      W (List.findIdx? (fun z => PyData.eqv z (.tuple [p, p_1])) ([.tuple [.int 1, .int 0], .tuple [.int 1, .int 1], .tuple [.int 0, .int 1], .tuple [.int (-1), .int 1], .tuple [.int (-1), .int 0], .tuple [.int (-1), .int (-1)], .tuple [.int 0, .int (-1)], .tuple [.int 1, .int (-1)]] : List P)) fun j => 0 + 1 + 1 ≤ lim ∧ Q (.tuple [.int (j : Nat), .int (if (((v - y).natAbs : Nat) : Int) > (((u - x).natAbs : Nat) : Int) then (((v - y).natAbs : Nat) : Int) else (((u - x).natAbs : Nat) : Int))]) := fun hb => by
    refine sign_ok ?_
    refine sign_ok ?_
    refine ⟨(Nat.le_of_ble_eq_true rfl), rfl, ?_⟩
    rw [find_ok hb]
    refine w_some.mpr ⟨(Nat.le_of_ble_eq_true rfl), ?_⟩
    unfold sd at k
    rw [if_neg hb] at k
    rw [Int.toNat_of_nonneg (dir_nn _ _).1]
    exact k
  have none_ : bad (u - x) (v - y) → Q .none := fun hb => by
    unfold sd at k
    rwa [if_pos hb] at k
  (repeat refine And.intro (by first | exact True.intro | exact Nat.le_of_ble_eq_true rfl | with_reducible_and_instances rfl | exact rfl | decide) ?_)
  refine both (fun h0 => ?_) (fun h0 => ?_)
  · rw [decide_eq_true_eq] at h0
    refine none_ ?_
    unfold bad
    split at h0 <;> omega
  · rw [decide_eq_true_eq] at h0
    refine ⟨rfl, both (fun h1 => ?_) (fun h1 => ?_)⟩
    · rw [Bool.not_eq_true', decide_eq_false_iff_not] at h1
      refine ⟨rfl, both (fun h2 => ?_) (fun h2 => ?_)⟩
      · rw [Bool.not_eq_true', decide_eq_false_iff_not] at h2
        refine ⟨rfl, both (fun h3 => ?_) (fun h3 => ?_)⟩
        · rw [Bool.not_eq_true', decide_eq_false_iff_not] at h3
          refine none_ ?_
          unfold bad
          omega
        · rw [Bool.not_eq_true', decide_eq_false_iff_not, Decidable.not_not] at h3
          refine tail ?_
          unfold bad
          omega
      · rw [Bool.not_eq_true', decide_eq_false_iff_not, Decidable.not_not] at h2
        refine tail ?_
        unfold bad
        omega
    · rw [Bool.not_eq_true', decide_eq_false_iff_not, Decidable.not_not] at h1
      refine tail ?_
      unfold bad
      split at h0 <;> omega
end LSR
/-! LR3: runs. -/
namespace LR
open PySem PySem.Spec PyProof.Rows L2 DL
theorem far_big (a b : C2) : far1 a b = LSR.big (b.1 - a.1) (b.2 - a.2) := rfl
theorem isstep_ok {a b : C2} {Q : P → Prop} (q : Q (.bool (decide (far1 a b = 1)))) : W (m_is_step [pc a, pc b]) Q := by
  unfold m_is_step
  rw [w_runP]
  refine ⟨⟨rfl, by decide⟩, ?_⟩
  rw [show env0 3 (List.map D.pu [pc a, pc b]) = [some (.val (.pu (pc a))), some (.val (.pu (pc b))), none] from rfl]
  unfold b_is_step
  simp only [DL.evA, DL.evH, DL.evJ, DL.evM, DL.evQ, DL.evU, DL.evX, List.getElem?_cons_zero, List.getElem?_cons_succ, List.set_cons_zero, List.set_cons_succ, ↓reduceIte, Bool.false_eq_true, List.map_cons, List.map_nil, List.length_cons, List.length_nil, Bool.not_true, Bool.not_false]
  (repeat refine And.intro (by first | exact True.intro | exact Nat.le_of_ble_eq_true rfl | with_reducible_and_instances rfl | exact rfl | decide) ?_)
  refine LSR.straight_ok (x := a.1) (y := a.2) (u := b.1) (v := b.2) (.inl rfl) (.inl rfl) ?_
  rw [far_big] at q
  unfold LSR.sd
  by_cases h : LSR.bad (b.1 - a.1) (b.2 - a.2)
  · rw [if_pos h]
    simp only [DL.evA, DL.evH, DL.evJ, DL.evM, DL.evQ, DL.evU, DL.evX, List.getElem?_cons_zero, List.getElem?_cons_succ, List.set_cons_zero, List.set_cons_succ, ↓reduceIte, Bool.false_eq_true, List.map_cons, List.map_nil, List.length_cons, List.length_nil, Bool.not_true, Bool.not_false]
    have : ¬ LSR.big (b.1 - a.1) (b.2 - a.2) = 1 := by
      unfold LSR.bad at h
      unfold LSR.big
      split <;> omega
    rw [decide_eq_false this] at q
    exact q
  · rw [if_neg h]
    simp only [DL.evA, DL.evH, DL.evJ, DL.evM, DL.evQ, DL.evU, DL.evX, List.getElem?_cons_zero, List.getElem?_cons_succ, List.set_cons_zero, List.set_cons_succ, ↓reduceIte, Bool.false_eq_true, List.map_cons, List.map_nil, List.length_cons, List.length_nil, Bool.not_true, Bool.not_false]
    (repeat refine And.intro (by first | exact True.intro | exact Nat.le_of_ble_eq_true rfl | with_reducible_and_instances rfl | exact rfl | decide) ?_)
    exact q
theorem closed_ok {c : C2} {cs : List C2} (hl : cs.length ≤ 100000) {Q : P → Prop} (q : Q (lcs (clos c cs))) : W (m_closed_run [lcs (c :: cs)]) Q := by
  unfold m_closed_run
  rw [w_runP]
  refine ⟨⟨rfl, by decide⟩, ?_⟩
  rw [show env0 1 (List.map D.pu [lcs (c :: cs)]) = [some (.val (.pu (.list ((c :: cs).map pc))))] from rfl]
  unfold b_closed_run
  simp only [DL.evA, DL.evH, DL.evJ, DL.evM, DL.evQ, DL.evU, DL.evX, List.getElem?_cons_zero, List.getElem?_cons_succ, List.set_cons_zero, List.set_cons_succ, ↓reduceIte, Bool.false_eq_true, List.map_cons, List.map_nil, List.length_cons, List.length_nil, Bool.not_true, Bool.not_false, p_LEAST_CLOSED, wrD]
  (repeat refine And.intro (by first | exact True.intro | exact Nat.le_of_ble_eq_true rfl | with_reducible_and_instances rfl | exact rfl | decide) ?_)
  have cl : clos c cs = if 2 ≤ cs.length ∧ far1 ((c :: cs).getLast (List.cons_ne_nil _ _)) c = 1 then (c :: cs) ++ [c] else c :: cs := rfl
  by_cases h : 2 ≤ cs.length
  · rw [if_pos (by rw [List.length_map, decide_eq_true_eq]; omega)]
    have hlast : (D.pu (pc c) :: List.map D.pu (List.map pc cs)).getLast? = some (.pu (pc ((c :: cs).getLast (List.cons_ne_nil _ _)))) := by
      show ((c :: cs).map pc |>.map D.pu).getLast? = _
      rw [List.getLast?_map, List.getLast?_map, List.getLast?_eq_some_getLast (List.cons_ne_nil _ _)]
      rfl
    refine at_neg hlast ?_
    simp only [DL.evA, DL.evH, DL.evJ, DL.evM, DL.evQ, DL.evU, DL.evX, List.getElem?_cons_zero, List.getElem?_cons_succ, List.set_cons_zero, List.set_cons_succ, ↓reduceIte, Bool.false_eq_true, List.map_cons, List.map_nil, List.length_cons, List.length_nil, Bool.not_true, Bool.not_false]
    refine isstep_ok ?_
    simp only [DL.evA, DL.evH, DL.evJ, DL.evM, DL.evQ, DL.evU, DL.evX, List.getElem?_cons_zero, List.getElem?_cons_succ, List.set_cons_zero, List.set_cons_succ, ↓reduceIte, Bool.false_eq_true, List.map_cons, List.map_nil, List.length_cons, List.length_nil, Bool.not_true, Bool.not_false]
    by_cases h2 : far1 ((c :: cs).getLast (List.cons_ne_nil _ _)) c = 1
    · rw [decide_eq_true h2, if_pos rfl]
      rw [cl, if_pos ⟨h, h2⟩] at q
      refine ⟨(Nat.le_of_ble_eq_true rfl), by rw [List.length_map]; unfold lim; omega, ?_⟩
      unfold lcs at q
      rw [List.map_append] at q
      exact q
    · rw [decide_eq_false h2, if_neg (by decide)]
      rw [cl, if_neg (fun z => h2 z.2)] at q
      exact q
  · rw [if_neg (by rw [List.length_map, decide_eq_true_eq]; omega)]
    rw [cl, if_neg (fun z => h z.1)] at q
    exact q
end LR
/-! LR4: runs. -/
namespace LR
open PySem PySem.Spec PyProof.Rows L2 DL
noncomputable def rsT : Sx := sSeq (sSet 3 (xA gLstN (aNil))) (sSeq (sFor (iAny (xA gSortedA (aCons (xA gListA (aCons (xVar 1) (aNil))) (aNil)))) (gNm 2) (sSeq (sIf (tOfE (x2 (gInZ false) (xVar 2) (xVar 1))) (sSeq (sApp (xVar 3) (xA (gCallP m_closed_run) (aCons (xA (gCallF m_run_from) (aCons (xVar 1) (aCons (xVar 2) (aNil)))) (aNil)))) (sNil)) (sNil)) (sNil))) (sFq 3 (sSeq (sRet (xVar 3)) (sNil))))
theorem b_runs_split : b_runs = sSeq (sSet 1 (xDct)) (sSeq (sFor (iAny (xVar 0)) (gNm 2) (sSeq (sAsg (xP (.bool true)) (gSubT (xVar 1) (xA gTupleA (aCons (xVar 2) (aNil))))) (sNil))) (rsT)) := rfl
def cc (b : Bool) (c : C2) : P := if b then .list [.int c.1, .int c.2] else pc c
theorem tup_cc {b : Bool} {c : C2} {S : Sto} {Q : D × Sto → Prop} (q : Q (.pu (pc c), S)) : W (gTupleA [.pu (cc b c)] S) Q := by
  cases b with
  | true =>
    rw [show cc true c = .list [.int c.1, .int c.2] from rfl]
    simp only [DL.evA, DL.evH, DL.evJ, DL.evM, DL.evQ, DL.evU, DL.evX, List.getElem?_cons_zero, List.getElem?_cons_succ, List.set_cons_zero, List.set_cons_succ, ↓reduceIte, Bool.false_eq_true, List.map_cons, List.map_nil, List.length_cons, List.length_nil, Bool.not_true, Bool.not_false]
    exact q
  | false =>
    rw [show cc false c = .tuple [.int c.1, .int c.2] from rfl]
    simp only [DL.evA, DL.evH, DL.evJ, DL.evM, DL.evQ, DL.evU, DL.evX, List.getElem?_cons_zero, List.getElem?_cons_succ, List.set_cons_zero, List.set_cons_succ, ↓reduceIte, Bool.false_eq_true, List.map_cons, List.map_nil, List.length_cons, List.length_nil, Bool.not_true, Bool.not_false]
    exact q
theorem rr_next {xs : List C2} {i : Nat} {c : C2} {os : List C2} (h : xs[i]? = some c) : rr (xs.drop i) os = if c ∈ os then clos c (walk os.length (rm os c) c ord8).1 :: rr (xs.drop (i + 1)) (walk os.length (rm os c) c ord8).2 else rr (xs.drop (i + 1)) os := by
  obtain ⟨h1, rfl⟩ := List.getElem?_eq_some_iff.mp h
  rw [List.drop_eq_getElem_cons h1]
  rfl
theorem runs_ok {ps : List C2} (nd : ps.Nodup) (hl : ps.length ≤ 1000) {b : Bool} {pp : P} (hp : pp = .list (ps.map (cc b)) ∨ pp = .tuple (ps.map (cc b))) {Q : P → Prop} (q : Q (.list ((runsOf ps).map lcs))) : W (m_runs [pp]) Q := by
  unfold m_runs
  rw [w_runP]
  refine ⟨⟨by rcases hp with rfl | rfl <;> rfl, by decide⟩, ?_⟩
  rw [show env0 4 (List.map D.pu [pp]) = [some (.val (.pu pp)), none, none, none] from rfl]
  rw [b_runs_split]
  have main : W (forD (fun d e S => (gNm 2 d e S).bind fun q => (sSeq (sAsg (xP (.bool true)) (gSubT (xVar 1) (xA gTupleA (aCons (xVar 2) (aNil))))) (sNil)) q.1 q.2) ((ps.map (cc b)).map D.pu) [some (.val (.pu pp)), some (.val (.rf 0)), none, none] [.dct (asDc pc [])]) fun o => ∃ e2 : Option Sl, o = .nx [some (.val (.pu pp)), some (.val (.rf 0)), e2, none] [.dct (asDc pc ps)] := by
    refine for_map (fun i e S => ∃ e2 : Option Sl, e = [some (.val (.pu pp)), some (.val (.rf 0)), e2, none] ∧ S = [.dct (asDc pc (ps.take i))]) ⟨none, rfl, rfl⟩ ?_ ?_
    · rintro i c e S hi ⟨e2, rfl, rfl⟩
      have hi8 := (List.getElem?_eq_some_iff.mp hi).1
      simp only [DL.evA, DL.evH, DL.evJ, DL.evM, DL.evQ, DL.evU, DL.evX, List.getElem?_cons_zero, List.getElem?_cons_succ, List.set_cons_zero, List.set_cons_succ, ↓reduceIte, Bool.false_eq_true, List.map_cons, List.map_nil, List.length_cons, List.length_nil, Bool.not_true, Bool.not_false]
      refine tup_cc ?_
      simp only [DL.evA, DL.evH, DL.evJ, DL.evM, DL.evQ, DL.evU, DL.evX, List.getElem?_cons_zero, List.getElem?_cons_succ, List.set_cons_zero, List.set_cons_succ, ↓reduceIte, Bool.false_eq_true, List.map_cons, List.map_nil, List.length_cons, List.length_nil, Bool.not_true, Bool.not_false]
      (repeat refine And.intro (by first | exact True.intro | exact Nat.le_of_ble_eq_true rfl | with_reducible_and_instances rfl | exact rfl | decide) ?_)
      refine put_c rfl (by rw [List.length_take]; unfold lim; omega) ?_
      simp only [DL.evA, DL.evH, DL.evJ, DL.evM, DL.evQ, DL.evU, DL.evX, List.getElem?_cons_zero, List.getElem?_cons_succ, List.set_cons_zero, List.set_cons_succ, ↓reduceIte, Bool.false_eq_true, List.map_cons, List.map_nil, List.length_cons, List.length_nil, Bool.not_true, Bool.not_false]
      refine ⟨_, rfl, ?_⟩
      have ex : addK (ps.take i) c = ps.take (i + 1) := by
        unfold addK
        rw [if_neg, List.take_add_one, hi]
        · rfl
        · intro hm
          obtain ⟨j, hj, e⟩ := List.mem_take_iff_getElem.mp hm
          obtain ⟨_, e2⟩ := List.getElem?_eq_some_iff.mp hi
          exact (List.pairwise_iff_getElem.mp nd) j i (by omega) hi8 (by omega) (e.trans e2.symm)
      rw [ex]
    · rintro e S ⟨e2, rfl, rfl⟩
      rw [List.take_length]
      exact ⟨_, rfl⟩
  have body : ∀ e2 : Option Sl, W (rsT [some (.val (.pu pp)), some (.val (.rf 0)), e2, none] [.dct (asDc pc ps)]) (endP Q) := fun e2 => by
    unfold rsT
    simp only [DL.evA, DL.evH, DL.evJ, DL.evM, DL.evQ, DL.evU, DL.evX, List.getElem?_cons_zero, List.getElem?_cons_succ, List.set_cons_zero, List.set_cons_succ, ↓reduceIte, Bool.false_eq_true, List.map_cons, List.map_nil, List.length_cons, List.length_nil, Bool.not_true, Bool.not_false]
    (repeat refine And.intro (by first | exact True.intro | exact Nat.le_of_ble_eq_true rfl | with_reducible_and_instances rfl | exact rfl | decide) ?_)
    refine list_c (qs := ps) rfl ?_
    simp only [DL.evA, DL.evH, DL.evJ, DL.evM, DL.evQ, DL.evU, DL.evX, List.getElem?_cons_zero, List.getElem?_cons_succ, List.set_cons_zero, List.set_cons_succ, ↓reduceIte, Bool.false_eq_true, List.map_cons, List.map_nil, List.length_cons, List.length_nil, Bool.not_true, Bool.not_false]
    (repeat refine And.intro (by first | exact True.intro | exact Nat.le_of_ble_eq_true rfl | with_reducible_and_instances rfl | exact rfl | decide) ?_)
    refine sort_pu (mk := fun ps => .pu (.list ps)) (srt_ok (by unfold lim; omega)) ?_
    rw [sort_c]
    simp only [DL.evA, DL.evH, DL.evJ, DL.evM, DL.evQ, DL.evU, DL.evX, List.getElem?_cons_zero, List.getElem?_cons_succ, List.set_cons_zero, List.set_cons_succ, ↓reduceIte, Bool.false_eq_true, List.map_cons, List.map_nil, List.length_cons, List.length_nil, Bool.not_true, Bool.not_false]
    refine for_map (fun i e S => ∃ (e2 : Option Sl) (os : List C2) (fs : List (List C2)), e = [some (.val (.pu pp)), some (.val (.rf 0)), e2, some (.ow (.lst (fs.map lcs)))] ∧ S = [.dct (asDc pc os)] ∧ fs ++ rr ((srt ps).drop i) os = runsOf ps ∧ os.length ≤ ps.length ∧ fs.length ≤ i) ⟨_, ps, [], rfl, rfl, rfl, Nat.le_refl _, Nat.le_refl _⟩ ?_ ?_
    · rintro i c e S hi ⟨e2, os, fs, rfl, rfl, hr, ho, hf⟩
      have hi8 := (List.getElem?_eq_some_iff.mp hi).1
      rw [srt_len] at hi8
      rw [rr_next hi] at hr
      simp only [DL.evA, DL.evH, DL.evJ, DL.evM, DL.evQ, DL.evU, DL.evX, List.getElem?_cons_zero, List.getElem?_cons_succ, List.set_cons_zero, List.set_cons_succ, ↓reduceIte, Bool.false_eq_true, List.map_cons, List.map_nil, List.length_cons, List.length_nil, Bool.not_true, Bool.not_false]
      (repeat refine And.intro (by first | exact True.intro | exact Nat.le_of_ble_eq_true rfl | with_reducible_and_instances rfl | exact rfl | decide) ?_)
      refine inZ_c rfl ?_
      simp only [DL.evA, DL.evH, DL.evJ, DL.evM, DL.evQ, DL.evU, DL.evX, List.getElem?_cons_zero, List.getElem?_cons_succ, List.set_cons_zero, List.set_cons_succ, ↓reduceIte, Bool.false_eq_true, List.map_cons, List.map_nil, List.length_cons, List.length_nil, Bool.not_true, Bool.not_false]
      by_cases h : c ∈ os
      · rw [decide_eq_true h, if_pos rfl]
        rw [if_pos h] at hr
        have hw := walk_len os.length (rm os c) c ord8
        have hrl := rm_len h
        (repeat refine And.intro (by first | exact True.intro | exact Nat.le_of_ble_eq_true rfl | with_reducible_and_instances rfl | exact rfl | decide) ?_)
        refine run_ok (n := 0) rfl h (by omega) ?_
        simp only [DL.evA, DL.evH, DL.evJ, DL.evM, DL.evQ, DL.evU, DL.evX, List.getElem?_cons_zero, List.getElem?_cons_succ, List.set_cons_zero, List.set_cons_succ, ↓reduceIte, Bool.false_eq_true, List.map_cons, List.map_nil, List.length_cons, List.length_nil, Bool.not_true, Bool.not_false]
        refine closed_ok (by omega) ?_
        refine ⟨rfl, by rw [List.length_map]; unfold lim; omega, some (.val (.pu (pc c))), _, fs ++ [clos c (walk os.length (rm os c) c ord8).1], ?_, rfl, ?_, by omega, by rw [List.length_append, List.length_singleton]; omega⟩
        · rw [List.map_append]
          rfl
        · rw [List.append_assoc]
          exact hr
      · rw [decide_eq_false h, if_neg (by decide)]
        rw [if_neg h] at hr
        exact ⟨_, os, fs, rfl, rfl, hr, ho, by omega⟩
    · rintro e S ⟨e2, os, fs, rfl, rfl, hr, ho, hf⟩
      simp only [DL.evA, DL.evH, DL.evJ, DL.evM, DL.evQ, DL.evU, DL.evX, List.getElem?_cons_zero, List.getElem?_cons_succ, List.set_cons_zero, List.set_cons_succ, ↓reduceIte, Bool.false_eq_true, List.map_cons, List.map_nil, List.length_cons, List.length_nil, Bool.not_true, Bool.not_false, frzP]
      rw [List.drop_length] at hr
      rw [show rr [] os = [] from rfl, List.append_nil] at hr
      rw [hr]
      exact q
  simp only [DL.evA, DL.evH, DL.evJ, DL.evM, DL.evQ, DL.evU, DL.evX, List.getElem?_cons_zero, List.getElem?_cons_succ, List.set_cons_zero, List.set_cons_succ, ↓reduceIte, Bool.false_eq_true, List.map_cons, List.map_nil, List.length_cons, List.length_nil, Bool.not_true, Bool.not_false]
  rcases hp with rfl | rfl
  · simp only [DL.evA, DL.evH, DL.evJ, DL.evM, DL.evQ, DL.evU, DL.evX, List.getElem?_cons_zero, List.getElem?_cons_succ, List.set_cons_zero, List.set_cons_succ, ↓reduceIte, Bool.false_eq_true, List.map_cons, List.map_nil, List.length_cons, List.length_nil, Bool.not_true, Bool.not_false, w_dct]
    refine main.imp fun o ho => ?_
    obtain ⟨e2, rfl⟩ := ho
    simp only [DL.evA, DL.evH, DL.evJ, DL.evM, DL.evQ, DL.evU, DL.evX, List.getElem?_cons_zero, List.getElem?_cons_succ, List.set_cons_zero, List.set_cons_succ, ↓reduceIte, Bool.false_eq_true, List.map_cons, List.map_nil, List.length_cons, List.length_nil, Bool.not_true, Bool.not_false]
    exact body e2
  · simp only [DL.evA, DL.evH, DL.evJ, DL.evM, DL.evQ, DL.evU, DL.evX, List.getElem?_cons_zero, List.getElem?_cons_succ, List.set_cons_zero, List.set_cons_succ, ↓reduceIte, Bool.false_eq_true, List.map_cons, List.map_nil, List.length_cons, List.length_nil, Bool.not_true, Bool.not_false, w_dct]
    refine main.imp fun o ho => ?_
    obtain ⟨e2, rfl⟩ := ho
    simp only [DL.evA, DL.evH, DL.evJ, DL.evM, DL.evQ, DL.evU, DL.evX, List.getElem?_cons_zero, List.getElem?_cons_succ, List.set_cons_zero, List.set_cons_succ, ↓reduceIte, Bool.false_eq_true, List.map_cons, List.map_nil, List.length_cons, List.length_nil, Bool.not_true, Bool.not_false]
    exact body e2
end LR
/-! LR5: runs: the law's walk. -/
namespace LR
open PySem PySem.Spec PyProof.Rows L2 DL
def waysP : P := .list (dvs.map pc)
theorem ways_ok {Q : P → Prop} (q : Q waysP) : W (m__law_ways []) Q := by
  unfold m__law_ways
  rw [w_runP]
  refine ⟨⟨rfl, by decide⟩, ?_⟩
  rw [show env0 0 (List.map D.pu []) = [] from rfl]
  unfold b__law_ways
  simp only [DL.evA, DL.evH, DL.evJ, DL.evM, DL.evQ, DL.evU, DL.evX, List.getElem?_cons_zero, List.getElem?_cons_succ, List.set_cons_zero, List.set_cons_succ, ↓reduceIte, Bool.false_eq_true, List.map_cons, List.map_nil, List.length_cons, List.length_nil, Bool.not_true, Bool.not_false]
  (repeat refine And.intro (by first | exact True.intro | exact Nat.le_of_ble_eq_true rfl | with_reducible_and_instances rfl | exact rfl | decide) ?_)
  exact q
theorem tk_c : ∀ qs : List C2, (tkeys (qs.map fun t => (pc t, PyData.bool true))).isSome = true
  | [] => rfl
  | t :: qs => by
    obtain ⟨k, hk⟩ := Option.isSome_iff_exists.mp (tk_c qs)
    show ((flatKs [.int t.1, .int t.2]).bind fun ks => (tkeys (qs.map fun t => (pc t, PyData.bool true))).bind fun kss => some (ks :: kss)).isSome = true
    rw [hk]
    rfl
theorem dictN_c {qs : List C2} {S : Sto} (nd : qs.Nodup) {Q : D × Sto → Prop} (q : Q (.nw (.dct (asD pc qs)), S)) : W (gDictN [.pu (.list (qs.map fun t => PyData.tuple [pc t, .bool true]))] S) Q := by
  rw [w_dictN, prs_of pc fun _ => .bool true]
  rw [w_some]
  refine ⟨tk_c qs, ?_⟩
  rw [dm_as enc_c nd]
  exact q
theorem inZB_c {i : Nat} {qs : List C2} {a : C2} {S : Sto} {Q : D × Sto → Prop} (q : Q (.pu (.bool (decide (a ∈ qs))), S)) : W (gInZ false (.pu (pc a)) (.bo i (.dct (asD pc qs))) S) Q := by
  have h : gInZ false (.pu (pc a)) (.bo i (.dct (asD pc qs))) S = gInZ false (.pu (pc a)) (.pu (.dict (asD pc qs))) S := rfl
  rw [h]
  cases qs with
  | nil => exact w_some.mpr q
  | cons b qs =>
    show W (gInX false (.pu (pc a)) (.pu (.dict (asD pc (b :: qs)))) S) Q
    refine in_as enc_c (neg := false) (List.cons_ne_nil _ _) ?_
    rw [if_neg (by decide)]
    by_cases h : a ∈ b :: qs
    · simp only [h, decide_true] at q ⊢
      exact q
    · simp only [h, decide_false] at q ⊢
      exact q
def pO : Option C2 → P
  | none => .none
  | some c => pc c
noncomputable def lrBody : Sx := sSeq (sIf (tOfE (x2 (gInZ false) (xVar 4) (xVar 2))) (sSeq (sSet 5 (xA gLstN (aNil))) (sSeq (sSet 6 (xLr1 (fun ps => .nw (.lst ps)) (xP (.int 8)))) (sSeq (sWhile (tOfE (x2 (gIsN true) (xVar 4) (xP .none))) (sSeq (sApp (xVar 5) (xVar 4)) (sSeq (sPop1 (xVar 2) (xVar 4)) (sSeq (sSet 7 (xVar 4)) (sSeq (sSet 4 (xP .none)) (sFq 6 (sSeq (sFor (iAny (xVar 6)) (gNm 8) (sSeq (sSet 9 (xA gTup (aCons (x2 gAdd (x2 gIx (xVar 7) (xP (.int 0))) (x2 gIx (x2 gGet (xVar 1) (xVar 8)) (xP (.int 0)))) (aCons (x2 gAdd (x2 gIx (xVar 7) (xP (.int 1))) (x2 gIx (x2 gGet (xVar 1) (xVar 8)) (xP (.int 1)))) (aNil))))) (sSeq (sIf (tAndX (tOfE (x2 (gIsN false) (xVar 4) (xP .none))) (tOfE (x2 (gInZ false) (xVar 9) (xVar 2)))) (sSeq (sSet 4 (xVar 9)) (sSeq (sSetLc 6 (iAny (xA gTup (aCons (xP (.int 0)) (aCons (xP (.int 1)) (aCons (xP (.int 7)) (aCons (xP (.int 2)) (aCons (xP (.int 6)) (aCons (xP (.int 3)) (aCons (xP (.int 5)) (aNil)))))))))) (gNm 10) (tYesX) (x2 (s2 pMod) (x2 gAdd (xVar 8) (xVar 10)) (xP (.int 8))) [10]) (sNil))) (sNil)) (sNil)))) (sNil)))))))) (sSeq (sIf (tAndX (tOfE (x2 (s2 (pIB fun i j => decide (j < i))) (xA gLenA (aCons (xVar 5) (aNil))) (xP (.int 2)))) (tOfE (x2 (gEq false) (xA (a2 pMax2) (aCons (xA (a1 pAbs) (aCons (x2 (s2 pSub) (x2 gIx (x2 gIx (xVar 5) (xP (.int 0))) (xP (.int 0))) (x2 gIx (x2 gIx (xVar 5) (x1 (s1 pNeg) (xP (.int 1)))) (xP (.int 0)))) (aNil))) (aCons (xA (a1 pAbs) (aCons (x2 (s2 pSub) (x2 gIx (x2 gIx (xVar 5) (xP (.int 0))) (xP (.int 1))) (x2 gIx (x2 gIx (xVar 5) (x1 (s1 pNeg) (xP (.int 1)))) (xP (.int 1)))) (aNil))) (aNil)))) (xP (.int 1))))) (sSeq (sApp (xVar 5) (x2 gIx (xVar 5) (xP (.int 0)))) (sNil)) (sNil)) (sFq 5 (sSeq (sApp (xVar 3) (xVar 5)) (sNil))))))) (sNil)) (sNil)
noncomputable def lrWhile : Sx := sWhile (tOfE (x2 (gIsN true) (xVar 4) (xP .none))) (sSeq (sApp (xVar 5) (xVar 4)) (sSeq (sPop1 (xVar 2) (xVar 4)) (sSeq (sSet 7 (xVar 4)) (sSeq (sSet 4 (xP .none)) (sFq 6 (sSeq (sFor (iAny (xVar 6)) (gNm 8) (sSeq (sSet 9 (xA gTup (aCons (x2 gAdd (x2 gIx (xVar 7) (xP (.int 0))) (x2 gIx (x2 gGet (xVar 1) (xVar 8)) (xP (.int 0)))) (aCons (x2 gAdd (x2 gIx (xVar 7) (xP (.int 1))) (x2 gIx (x2 gGet (xVar 1) (xVar 8)) (xP (.int 1)))) (aNil))))) (sSeq (sIf (tAndX (tOfE (x2 (gIsN false) (xVar 4) (xP .none))) (tOfE (x2 (gInZ false) (xVar 9) (xVar 2)))) (sSeq (sSet 4 (xVar 9)) (sSeq (sSetLc 6 (iAny (xA gTup (aCons (xP (.int 0)) (aCons (xP (.int 1)) (aCons (xP (.int 7)) (aCons (xP (.int 2)) (aCons (xP (.int 6)) (aCons (xP (.int 3)) (aCons (xP (.int 5)) (aNil)))))))))) (gNm 10) (tYesX) (x2 (s2 pMod) (x2 gAdd (xVar 8) (xVar 10)) (xP (.int 8))) [10]) (sNil))) (sNil)) (sNil)))) (sNil)))))))
noncomputable def lrWB : Sx := sSeq (sApp (xVar 5) (xVar 4)) (sSeq (sPop1 (xVar 2) (xVar 4)) (sSeq (sSet 7 (xVar 4)) (sSeq (sSet 4 (xP .none)) (sFq 6 (sSeq (sFor (iAny (xVar 6)) (gNm 8) (sSeq (sSet 9 (xA gTup (aCons (x2 gAdd (x2 gIx (xVar 7) (xP (.int 0))) (x2 gIx (x2 gGet (xVar 1) (xVar 8)) (xP (.int 0)))) (aCons (x2 gAdd (x2 gIx (xVar 7) (xP (.int 1))) (x2 gIx (x2 gGet (xVar 1) (xVar 8)) (xP (.int 1)))) (aNil))))) (sSeq (sIf (tAndX (tOfE (x2 (gIsN false) (xVar 4) (xP .none))) (tOfE (x2 (gInZ false) (xVar 9) (xVar 2)))) (sSeq (sSet 4 (xVar 9)) (sSeq (sSetLc 6 (iAny (xA gTup (aCons (xP (.int 0)) (aCons (xP (.int 1)) (aCons (xP (.int 7)) (aCons (xP (.int 2)) (aCons (xP (.int 6)) (aCons (xP (.int 3)) (aCons (xP (.int 5)) (aNil)))))))))) (gNm 10) (tYesX) (x2 (s2 pMod) (x2 gAdd (xVar 8) (xVar 10)) (xP (.int 8))) [10]) (sNil))) (sNil)) (sNil)))) (sNil))))))
noncomputable def lrFor : Sx := sFor (iAny (xVar 6)) (gNm 8) (sSeq (sSet 9 (xA gTup (aCons (x2 gAdd (x2 gIx (xVar 7) (xP (.int 0))) (x2 gIx (x2 gGet (xVar 1) (xVar 8)) (xP (.int 0)))) (aCons (x2 gAdd (x2 gIx (xVar 7) (xP (.int 1))) (x2 gIx (x2 gGet (xVar 1) (xVar 8)) (xP (.int 1)))) (aNil))))) (sSeq (sIf (tAndX (tOfE (x2 (gIsN false) (xVar 4) (xP .none))) (tOfE (x2 (gInZ false) (xVar 9) (xVar 2)))) (sSeq (sSet 4 (xVar 9)) (sSeq (sSetLc 6 (iAny (xA gTup (aCons (xP (.int 0)) (aCons (xP (.int 1)) (aCons (xP (.int 7)) (aCons (xP (.int 2)) (aCons (xP (.int 6)) (aCons (xP (.int 3)) (aCons (xP (.int 5)) (aNil)))))))))) (gNm 10) (tYesX) (x2 (s2 pMod) (x2 gAdd (xVar 8) (xVar 10)) (xP (.int 8))) [10]) (sNil))) (sNil)) (sNil)))
noncomputable def lrFB : Sx := sSeq (sSet 9 (xA gTup (aCons (x2 gAdd (x2 gIx (xVar 7) (xP (.int 0))) (x2 gIx (x2 gGet (xVar 1) (xVar 8)) (xP (.int 0)))) (aCons (x2 gAdd (x2 gIx (xVar 7) (xP (.int 1))) (x2 gIx (x2 gGet (xVar 1) (xVar 8)) (xP (.int 1)))) (aNil))))) (sSeq (sIf (tAndX (tOfE (x2 (gIsN false) (xVar 4) (xP .none))) (tOfE (x2 (gInZ false) (xVar 9) (xVar 2)))) (sSeq (sSet 4 (xVar 9)) (sSeq (sSetLc 6 (iAny (xA gTup (aCons (xP (.int 0)) (aCons (xP (.int 1)) (aCons (xP (.int 7)) (aCons (xP (.int 2)) (aCons (xP (.int 6)) (aCons (xP (.int 3)) (aCons (xP (.int 5)) (aNil)))))))))) (gNm 10) (tYesX) (x2 (s2 pMod) (x2 gAdd (xVar 8) (xVar 10)) (xP (.int 8))) [10]) (sNil))) (sNil)) (sNil))
noncomputable def lrTail : Sx := sSeq (sIf (tAndX (tOfE (x2 (s2 (pIB fun i j => decide (j < i))) (xA gLenA (aCons (xVar 5) (aNil))) (xP (.int 2)))) (tOfE (x2 (gEq false) (xA (a2 pMax2) (aCons (xA (a1 pAbs) (aCons (x2 (s2 pSub) (x2 gIx (x2 gIx (xVar 5) (xP (.int 0))) (xP (.int 0))) (x2 gIx (x2 gIx (xVar 5) (x1 (s1 pNeg) (xP (.int 1)))) (xP (.int 0)))) (aNil))) (aCons (xA (a1 pAbs) (aCons (x2 (s2 pSub) (x2 gIx (x2 gIx (xVar 5) (xP (.int 0))) (xP (.int 1))) (x2 gIx (x2 gIx (xVar 5) (x1 (s1 pNeg) (xP (.int 1)))) (xP (.int 1)))) (aNil))) (aNil)))) (xP (.int 1))))) (sSeq (sApp (xVar 5) (x2 gIx (xVar 5) (xP (.int 0)))) (sNil)) (sNil)) (sFq 5 (sSeq (sApp (xVar 3) (xVar 5)) (sNil)))
noncomputable def lrEnd : Sx := sFq 3 (sSeq (sRet (xVar 3)) (sNil))
theorem lrBody_eq : lrBody = sSeq (sIf (tOfE (x2 (gInZ false) (xVar 4) (xVar 2))) (sSeq (sSet 5 (xA gLstN (aNil))) (sSeq (sSet 6 (xLr1 (fun ps => .nw (.lst ps)) (xP (.int 8)))) (sSeq lrWhile lrTail))) (sNil)) (sNil) := rfl
theorem lrRuns_eq : b__law_runs = sSeq (sSet 1 (xA (gCallP m__law_ways) (aNil))) (sSeq (sSet 2 (xA gDictN (aCons (xLc (iAny (xVar 0)) (gNm 4) (tYesX) (xA gTup (aCons (xVar 4) (aCons (xP (.bool true)) (aNil)))) [4]) (aNil)))) (sSeq (sSet 3 (xA gLstN (aNil))) (sSeq (sFor (iAny (xA gSortedA (aCons (xVar 0) (aNil)))) (gNm 4) lrBody) lrEnd))) := rfl
theorem lrWhile_eq : lrWhile = sWhile (tOfE (x2 (gIsN true) (xVar 4) (xP .none))) lrWB := rfl
theorem lrWB_eq : lrWB = (sSeq (sApp (xVar 5) (xVar 4)) (sSeq (sPop1 (xVar 2) (xVar 4)) (sSeq (sSet 7 (xVar 4)) (sSeq (sSet 4 (xP .none)) (sFq 6 (sSeq (sFor (iAny (xVar 6)) (gNm 8) lrFB) (sNil))))))) := rfl
/-- the order's slot -/
def slO (ord : List Int) (s : Option Sl) : Prop := s = some (.ow (.lst (ord.map .int))) ∨ s = some (.val (.pu (.list (ord.map .int))))
theorem find_take {f : Int → Bool} {xs : List Int} {i : Nat} {t : Int} (h : xs[i]? = some t) : (xs.take (i + 1)).find? f = ((xs.take i).find? f).or (if f t = true then some t else none) := by
  rw [List.take_add_one, h, List.find?_append]
  congr 1
  show [t].find? f = _
  rw [List.find?_cons]
  split <;> rename_i e <;> simp [e]
theorem for_ok {pp : P} {os : List C2} {found rs : OC} {c : C2} {ord : List Int} (hb : ∀ t ∈ ord, 0 ≤ t ∧ t < 8) (hl : ord.length ≤ 8) {e8 e9 e10 : Option Sl} {Q : Out → Prop}
    (q : ∀ e6 e8 e9 e10 : Option Sl, slO (match nxt os c ord with | some d => turn d | none => ord) e6 → Q (.nx [some (.val (.pu pp)), some (.val (.pu waysP)), some (.ow (.dct (asD pc os))), some (.ow found), some (.val (.pu (pO ((nxt os c ord).map (stp c))))), some (.ow rs), e6, some (.val (.pu (pc c))), e8, e9, e10] [])) :
    W (forD (fun d e S => (gNm 8 d e S).bind fun q => lrFB q.1 q.2) ((ord.map PyData.int).map D.pu) [some (.val (.pu pp)), some (.val (.pu waysP)), some (.ow (.dct (asD pc os))), some (.ow found), some (.val (.pu .none)), some (.ow rs), some (.val (.pu (.list (ord.map .int)))), some (.val (.pu (pc c))), e8, e9, e10] []) Q := by
  refine for_map (fun i e S => ∃ (e6 e8 e9 e10 : Option Sl), e = [some (.val (.pu pp)), some (.val (.pu waysP)), some (.ow (.dct (asD pc os))), some (.ow found), some (.val (.pu (pO ((nxt os c (ord.take i)).map (stp c))))), some (.ow rs), e6, some (.val (.pu (pc c))), e8, e9, e10] ∧ S = [] ∧ slO (match nxt os c (ord.take i) with | some d => turn d | none => ord) e6) ⟨_, _, _, _, rfl, rfl, .inr rfl⟩ ?_ ?_
  · rintro i t e S hi ⟨e6, e8, e9, e10, rfl, rfl, h6⟩
    have hbt := hb t (List.mem_of_getElem? hi)
    obtain ⟨n, rfl⟩ := Int.eq_ofNat_of_zero_le hbt.1
    have hn : n < 8 := by omega
    unfold lrFB
    rw [show waysP = .list (dvs.map pc) from rfl, show pc c = .tuple [.int c.1, .int c.2] from rfl]
    simp only [DL.evA, DL.evH, DL.evJ, DL.evM, DL.evQ, DL.evU, DL.evX, List.getElem?_cons_zero, List.getElem?_cons_succ, List.set_cons_zero, List.set_cons_succ, ↓reduceIte, Bool.false_eq_true, List.map_cons, List.map_nil, List.length_cons, List.length_nil, Bool.not_true, Bool.not_false]
    (repeat refine And.intro (by first | exact True.intro | exact Nat.le_of_ble_eq_true rfl | with_reducible_and_instances rfl | exact rfl | decide) ?_)
    refine w_at n rfl (x := .pu (.tuple [.int (dv n).1, .int (dv n).2])) (by rcases lt8 hn with rfl | rfl | rfl | rfl | rfl | rfl | rfl | rfl <;> rfl) ?_
    simp only [DL.evA, DL.evH, DL.evJ, DL.evM, DL.evQ, DL.evU, DL.evX, List.getElem?_cons_zero, List.getElem?_cons_succ, List.set_cons_zero, List.set_cons_succ, ↓reduceIte, Bool.false_eq_true, List.map_cons, List.map_nil, List.length_cons, List.length_nil, Bool.not_true, Bool.not_false]
    (repeat refine And.intro (by first | exact True.intro | exact Nat.le_of_ble_eq_true rfl | with_reducible_and_instances rfl | exact rfl | decide) ?_)
    refine w_at n rfl (x := .pu (.tuple [.int (dv n).1, .int (dv n).2])) (by rcases lt8 hn with rfl | rfl | rfl | rfl | rfl | rfl | rfl | rfl <;> rfl) ?_
    simp only [DL.evA, DL.evH, DL.evJ, DL.evM, DL.evQ, DL.evU, DL.evX, List.getElem?_cons_zero, List.getElem?_cons_succ, List.set_cons_zero, List.set_cons_succ, ↓reduceIte, Bool.false_eq_true, List.map_cons, List.map_nil, List.length_cons, List.length_nil, Bool.not_true, Bool.not_false]
    (repeat refine And.intro (by first | exact True.intro | exact Nat.le_of_ble_eq_true rfl | with_reducible_and_instances rfl | exact rfl | decide) ?_)
    rw [show (PyData.tuple [PyData.int (c.fst + (dv n).fst), PyData.int (c.snd + (dv n).snd)]) = pc (stp c n) from rfl]
    have hd : nxt os c (ord.take (i + 1)) = (nxt os c (ord.take i)).or (if stp c n ∈ os then some (n : Int) else none) := by
      have hd := find_take (f := fun d => decide (stp c d ∈ os)) hi
      simp only [decide_eq_true_eq] at hd
      exact hd
    rw [hd]
    cases hx : nxt os c (ord.take i) with
    | some d0 =>
      rw [hx] at h6
      rw [show pO (Option.map (stp c) (some d0)) = .tuple [.int (stp c d0).1, .int (stp c d0).2] from rfl]
      simp only [DL.evA, DL.evH, DL.evJ, DL.evM, DL.evQ, DL.evU, DL.evX, List.getElem?_cons_zero, List.getElem?_cons_succ, List.set_cons_zero, List.set_cons_succ, ↓reduceIte, Bool.false_eq_true, List.map_cons, List.map_nil, List.length_cons, List.length_nil, Bool.not_true, Bool.not_false]
      exact ⟨_, _, _, _, rfl, trivial, h6⟩
    | none =>
      rw [hx] at h6
      rw [show pO (Option.map (stp c) none) = .none from rfl]
      simp only [DL.evA, DL.evH, DL.evJ, DL.evM, DL.evQ, DL.evU, DL.evX, List.getElem?_cons_zero, List.getElem?_cons_succ, List.set_cons_zero, List.set_cons_succ, ↓reduceIte, Bool.false_eq_true, List.map_cons, List.map_nil, List.length_cons, List.length_nil, Bool.not_true, Bool.not_false]
      refine inZB_c ?_
      simp only [DL.evA, DL.evH, DL.evJ, DL.evM, DL.evQ, DL.evU, DL.evX, List.getElem?_cons_zero, List.getElem?_cons_succ, List.set_cons_zero, List.set_cons_succ, ↓reduceIte, Bool.false_eq_true, List.map_cons, List.map_nil, List.length_cons, List.length_nil, Bool.not_true, Bool.not_false]
      by_cases h : stp c n ∈ os
      · rw [decide_eq_true h, if_pos rfl, if_pos h]
        refine ⟨(Nat.le_of_ble_eq_true rfl), ?_⟩
        show W (compD _ _ _ _ ((([0, 1, 7, 2, 6, 3, 5] : List Int).map PyData.int).map D.pu) _ _) _
        refine comp_on PyData.int (fun t => .int ((n + t) % 8)) _ (fun t _ Q' q' => ?_) (Nat.le_of_ble_eq_true rfl) ?_
        · simp only [wipeE, DL.evA, DL.evH, DL.evJ, DL.evM, DL.evQ, DL.evU, DL.evX, List.getElem?_cons_zero, List.getElem?_cons_succ, List.set_cons_zero, List.set_cons_succ, ↓reduceIte, Bool.false_eq_true, List.map_cons, List.map_nil, List.length_cons, List.length_nil, Bool.not_true, Bool.not_false]
          (repeat refine And.intro (by first | exact True.intro | exact Nat.le_of_ble_eq_true rfl | with_reducible_and_instances rfl | exact rfl | decide) ?_)
          exact q'
        · refine ⟨_, _, _, _, rfl, rfl, .inl ?_⟩
          have e := turnL n
          show some (Sl.ow (.lst (([0, 1, 7, 2, 6, 3, 5] : List Int).map fun t => PyData.int ((n + t) % 8)))) = some (Sl.ow (.lst ((turn n).map PyData.int)))
          rw [← e, List.map_map]
          rfl
      · rw [decide_eq_false h, if_neg (by decide), if_neg h]
        exact ⟨_, _, _, _, rfl, trivial, h6⟩
  · rintro e S ⟨e6, e8, e9, e10, rfl, rfl, h6⟩
    rw [List.take_length] at h6 ⊢
    exact q _ _ _ _ h6
end LR
/-! LR6: runs: the law's walk. -/
namespace LR
open PySem PySem.Spec PyProof.Rows L2 DL
theorem slO_fq {ord : List Int} {e6 : Option Sl} (h : slO ord e6) {s : Sx} {e0 e1 e2 e3 e4 e5 e7 e8 e9 e10 : Option Sl} {S : Sto} {Q : Out → Prop} (q : W (s [e0, e1, e2, e3, e4, e5, some (.val (.pu (.list (ord.map .int)))), e7, e8, e9, e10] S) Q) : W (sFq 6 s [e0, e1, e2, e3, e4, e5, e6, e7, e8, e9, e10] S) Q := by
  rw [w_fq]
  rcases h with rfl | rfl
  · exact q
  · exact q
theorem while_ok {pp : P} {os0 : List C2} {found : OC} {c : C2} (hc : c ∈ os0) (hl : os0.length ≤ 100000) {e6 e7 e8 e9 e10 : Option Sl} (h6 : slO ord8 e6) {Q : Out → Prop}
    (q : ∀ e6 e7 e8 e9 e10 : Option Sl, Q (.nx [some (.val (.pu pp)), some (.val (.pu waysP)), some (.ow (.dct (asD pc (walk os0.length (rm os0 c) c ord8).2))), some (.ow found), some (.val (.pu .none)), some (.ow (.lst ((c :: (walk os0.length (rm os0 c) c ord8).1).map pc))), e6, e7, e8, e9, e10] [])) :
    W (lrWhile [some (.val (.pu pp)), some (.val (.pu waysP)), some (.ow (.dct (asD pc os0))), some (.ow found), some (.val (.pu (pc c))), some (.ow (.lst [])), e6, e7, e8, e9, e10] []) Q := by
  rw [lrWhile_eq]
  have hr := rm_len hc
  generalize hw : walk os0.length (rm os0 c) c ord8 = w at q
  refine while_inv (fun k e S => ∃ (cur : Option C2) (os rs : List C2) (ord : List Int) (e6 e7 e8 e9 e10 : Option Sl), e = [some (.val (.pu pp)), some (.val (.pu waysP)), some (.ow (.dct (asD pc os))), some (.ow found), some (.val (.pu (pO cur))), some (.ow (.lst (rs.map pc))), e6, e7, e8, e9, e10] ∧ S = [] ∧ k = os.length ∧ slO ord e6 ∧ ord.length ≤ 8 ∧ (∀ t ∈ ord, 0 ≤ t ∧ t < 8) ∧ rs.length + os.length ≤ os0.length ∧ match cur with
    | none => rs = c :: w.1 ∧ os = w.2
    | some c' => c' ∈ os ∧ ∃ m, (rm os c').length ≤ m ∧ rs ++ [c'] ++ (walk m (rm os c') c' ord).1 = c :: w.1 ∧ (walk m (rm os c') c' ord).2 = w.2) ?_ _ _ _ ⟨some c, os0, [], ord8, _, _, _, _, _, rfl, rfl, rfl, h6, (Nat.le_of_ble_eq_true rfl), fun t ht => ordOf_bd (a := none) ht, by simp, hc, os0.length, by omega, by rw [hw]; rfl, by rw [hw]⟩
  rintro k e S ⟨cur, os, rs, ord, e6, e7, e8, e9, e10, rfl, rfl, rfl, h6, ho8, hob, hlen, hcur⟩
  cases cur with
  | none =>
    simp only [pO, DL.evA, DL.evH, DL.evJ, DL.evM, DL.evQ, DL.evU, DL.evX, List.getElem?_cons_zero, List.getElem?_cons_succ, List.set_cons_zero, List.set_cons_succ, ↓reduceIte, Bool.false_eq_true, List.map_cons, List.map_nil, List.length_cons, List.length_nil, Bool.not_true, Bool.not_false]
    obtain ⟨rfl, rfl⟩ := hcur
    exact q _ _ _ _ _
  | some c' =>
    obtain ⟨hin, m, hm, h1, h2⟩ := hcur
    have hrl := rm_len hin
    rw [show pO (some c') = .tuple [.int c'.1, .int c'.2] from rfl]
    have step : ∀ (R : Out → Prop), (∀ (e6 e8 e9 e10 : Option Sl), slO (match nxt (rm os c') c' ord with | some d => turn d | none => ord) e6 → R (.nx [some (.val (.pu pp)), some (.val (.pu waysP)), some (.ow (.dct (asD pc (rm os c')))), some (.ow found), some (.val (.pu (pO ((nxt (rm os c') c' ord).map (stp c'))))), some (.ow (.lst ((rs ++ [c']).map pc))), e6, some (.val (.pu (pc c'))), e8, e9, e10] [])) → W (lrWB [some (.val (.pu pp)), some (.val (.pu waysP)), some (.ow (.dct (asD pc os))), some (.ow found), some (.val (.pu (.tuple [.int c'.1, .int c'.2]))), some (.ow (.lst (rs.map pc))), e6, e7, e8, e9, e10] []) R := fun R hR => by
      rw [lrWB_eq]
      rcases h6 with rfl | rfl
      all_goals
        simp only [DL.evA, DL.evH, DL.evJ, DL.evM, DL.evQ, DL.evU, DL.evX, List.getElem?_cons_zero, List.getElem?_cons_succ, List.set_cons_zero, List.set_cons_succ, ↓reduceIte, Bool.false_eq_true, List.map_cons, List.map_nil, List.length_cons, List.length_nil, Bool.not_true, Bool.not_false, w_popS1]
        rw [show (PyData.tuple [.int c'.1, .int c'.2]) = pc c' from rfl]
        (repeat refine And.intro (by first | exact True.intro | exact Nat.le_of_ble_eq_true rfl | with_reducible_and_instances rfl | exact rfl | decide) ?_)
        refine ⟨by rw [List.length_map]; unfold lim; omega, ?_⟩
        refine pop1_c rfl hin ?_
        simp only [DL.evA, DL.evH, DL.evJ, DL.evM, DL.evQ, DL.evU, DL.evX, List.getElem?_cons_zero, List.getElem?_cons_succ, List.set_cons_zero, List.set_cons_succ, ↓reduceIte, Bool.false_eq_true, List.map_cons, List.map_nil, List.length_cons, List.length_nil, Bool.not_true, Bool.not_false, frzP]
        (repeat refine And.intro (by first | exact True.intro | exact Nat.le_of_ble_eq_true rfl | with_reducible_and_instances rfl | exact rfl | decide) ?_)
        refine for_ok hob ho8 fun e6' e8' e9' e10' h6' => ?_
        simp only [DL.evA, DL.evH, DL.evJ, DL.evM, DL.evQ, DL.evU, DL.evX, List.getElem?_cons_zero, List.getElem?_cons_succ, List.set_cons_zero, List.set_cons_succ, ↓reduceIte, Bool.false_eq_true, List.map_cons, List.map_nil, List.length_cons, List.length_nil, Bool.not_true, Bool.not_false]
        rw [List.map_append] at hR
        exact hR _ _ _ _ h6'
    simp only [DL.evA, DL.evH, DL.evJ, DL.evM, DL.evQ, DL.evU, DL.evX, List.getElem?_cons_zero, List.getElem?_cons_succ, List.set_cons_zero, List.set_cons_succ, ↓reduceIte, Bool.false_eq_true, List.map_cons, List.map_nil, List.length_cons, List.length_nil, Bool.not_true, Bool.not_false]
    refine step _ fun e6' e8' e9' e10' h6' => ?_
    simp only [DL.evA, DL.evH, DL.evJ, DL.evM, DL.evQ, DL.evU, DL.evX, List.getElem?_cons_zero, List.getElem?_cons_succ, List.set_cons_zero, List.set_cons_succ, ↓reduceIte, Bool.false_eq_true, List.map_cons, List.map_nil, List.length_cons, List.length_nil, Bool.not_true, Bool.not_false]
    cases hn : nxt (rm os c') c' ord with
    | none =>
      rw [hn] at h6'
      rw [walk_none hn] at h1 h2
      rw [List.append_nil] at h1
      simp only at h2
      exact ⟨_, hrl, none, rm os c', rs ++ [c'], ord, _, _, _, _, _, rfl, trivial, rfl, h6', ho8, hob, by rw [List.length_append, List.length_singleton]; omega, h1, h2⟩
    | some d =>
      rw [hn] at h6'
      obtain ⟨hi2, hd⟩ := nxt_in hn
      obtain ⟨m', rfl, hm', hwk⟩ := walk_some hm hn
      rw [hwk] at h1 h2
      refine ⟨_, hrl, some (stp c' d), rm os c', rs ++ [c'], turn d, _, _, _, _, _, rfl, trivial, rfl, h6', (Nat.le_of_ble_eq_true rfl), fun t ht => turn_bd ht, by rw [List.length_append, List.length_singleton]; omega, hi2, m', hm', ?_, h2⟩
      rw [List.append_assoc (rs ++ [c'])]
      exact h1
end LR
/-! LR7: runs: the law's walk. -/
namespace LR
open PySem PySem.Spec PyProof.Rows L2 DL
theorem tail_ok {pp : P} {left : OC} {fs : List (List C2)} {c : C2} {cs : List C2} (hl : cs.length ≤ 100000) (hf : fs.length ≤ 100000) {e4 e6 e7 e8 e9 e10 : Option Sl} {Q : Out → Prop}
    (q : ∀ e5 : Option Sl, Q (.nx [some (.val (.pu pp)), some (.val (.pu waysP)), some (.ow left), some (.ow (.lst ((fs ++ [clos c cs]).map lcs))), e4, e5, e6, e7, e8, e9, e10] [])) :
    W (lrTail [some (.val (.pu pp)), some (.val (.pu waysP)), some (.ow left), some (.ow (.lst (fs.map lcs))), e4, some (.ow (.lst ((c :: cs).map pc))), e6, e7, e8, e9, e10] []) Q := by
  unfold lrTail
  have hlast : (List.map D.pu (List.map pc (c :: cs))).getLast? = some (.pu (pc ((c :: cs).getLast (List.cons_ne_nil _ _)))) := by
    rw [List.getLast?_map, List.getLast?_map, List.getLast?_eq_some_getLast (List.cons_ne_nil _ _)]
    rfl
  have cl : clos c cs = if 2 ≤ cs.length ∧ far1 ((c :: cs).getLast (List.cons_ne_nil _ _)) c = 1 then (c :: cs) ++ [c] else c :: cs := rfl
  generalize hz : (c :: cs).getLast (List.cons_ne_nil _ _) = z at hlast cl
  have nl : ∀ xs : List C2, frzP (OC.lst (xs.map pc)) = lcs xs := fun _ => rfl
  simp only [DL.evA, DL.evH, DL.evJ, DL.evM, DL.evQ, DL.evU, DL.evX, List.getElem?_cons_zero, List.getElem?_cons_succ, List.set_cons_zero, List.set_cons_succ, ↓reduceIte, Bool.false_eq_true, List.map_cons, List.map_nil, List.length_cons, List.length_nil, Bool.not_true, Bool.not_false]
  by_cases h : 2 ≤ cs.length
  · rw [if_pos (by rw [List.length_map, decide_eq_true_eq]; omega)]
    rw [show pc c = .tuple [.int c.1, .int c.2] from rfl]
    simp only [DL.evA, DL.evH, DL.evJ, DL.evM, DL.evQ, DL.evU, DL.evX, List.getElem?_cons_zero, List.getElem?_cons_succ, List.set_cons_zero, List.set_cons_succ, ↓reduceIte, Bool.false_eq_true, List.map_cons, List.map_nil, List.length_cons, List.length_nil, Bool.not_true, Bool.not_false]
    refine at_neg hlast ?_
    rw [show pc z = .tuple [.int z.1, .int z.2] from rfl] at hlast ⊢
    simp only [DL.evA, DL.evH, DL.evJ, DL.evM, DL.evQ, DL.evU, DL.evX, List.getElem?_cons_zero, List.getElem?_cons_succ, List.set_cons_zero, List.set_cons_succ, ↓reduceIte, Bool.false_eq_true, List.map_cons, List.map_nil, List.length_cons, List.length_nil, Bool.not_true, Bool.not_false]
    refine ⟨trivial, at_neg hlast ?_⟩
    simp only [DL.evA, DL.evH, DL.evJ, DL.evM, DL.evQ, DL.evU, DL.evX, List.getElem?_cons_zero, List.getElem?_cons_succ, List.set_cons_zero, List.set_cons_succ, ↓reduceIte, Bool.false_eq_true, List.map_cons, List.map_nil, List.length_cons, List.length_nil, Bool.not_true, Bool.not_false]
    (repeat refine And.intro (by first | exact True.intro | exact Nat.le_of_ble_eq_true rfl | with_reducible_and_instances rfl | exact rfl | decide) ?_)
    rw [show (PyData.tuple [PyData.int c.1, PyData.int c.2]) = pc c from rfl]
    by_cases h2 : far1 z c = 1
    · rw [cl, if_pos ⟨h, h2⟩] at q
      rw [if_pos]
      · refine ⟨rfl, by rw [List.length_map]; unfold lim; omega, rfl, by rw [List.length_map]; unfold lim; omega, ?_⟩
        rw [List.map_append] at q
        have e : frzP (OC.lst (pc c :: List.map pc cs ++ [pc c])) = lcs ((c :: cs) ++ [c]) := by
          unfold lcs
          rw [List.map_append]
          rfl
        rw [e]
        exact q _
      · unfold far1 at h2
        rw [decide_eq_true_eq]
        split at h2 <;> split <;> omega
    · rw [cl, if_neg (fun z => h2 z.2)] at q
      rw [if_neg]
      · refine ⟨rfl, by rw [List.length_map]; unfold lim; omega, ?_⟩
        rw [List.map_append] at q
        exact q _
      · intro h3
        refine h2 ?_
        rw [decide_eq_true_eq] at h3
        unfold far1
        split at h3 <;> split <;> omega
  · rw [if_neg (by rw [List.length_map, decide_eq_true_eq]; omega)]
    rw [cl, if_neg (fun z => h z.1)] at q
    refine ⟨rfl, by rw [List.length_map]; unfold lim; omega, ?_⟩
    rw [List.map_append] at q
    exact q _
theorem lruns_ok {ps : List C2} (nd : ps.Nodup) (hl : ps.length ≤ 1000) {Q : P → Prop} (q : Q (.list ((runsOf ps).map lcs))) : W (m__law_runs [.list (ps.map pc)]) Q := by
  unfold m__law_runs
  rw [w_runP]
  refine ⟨⟨rfl, by decide⟩, ?_⟩
  rw [show env0 11 (List.map D.pu [.list (ps.map pc)]) = [some (.val (.pu (.list (ps.map pc)))), none, none, none, none, none, none, none, none, none, none] from rfl]
  rw [lrRuns_eq]
  simp only [DL.evA, DL.evH, DL.evJ, DL.evM, DL.evQ, DL.evU, DL.evX, List.getElem?_cons_zero, List.getElem?_cons_succ, List.set_cons_zero, List.set_cons_succ, ↓reduceIte, Bool.false_eq_true, List.map_cons, List.map_nil, List.length_cons, List.length_nil, Bool.not_true, Bool.not_false]
  refine ways_ok ?_
  (try simp only [DL.evA, DL.evH, DL.evJ, DL.evM, DL.evQ, DL.evU, DL.evX, List.getElem?_cons_zero, List.getElem?_cons_succ, List.set_cons_zero, List.set_cons_succ, ↓reduceIte, Bool.false_eq_true, List.map_cons, List.map_nil, List.length_cons, List.length_nil, Bool.not_true, Bool.not_false])
  refine comp_on pc (fun t => PyData.tuple [pc t, .bool true]) ps (fun t _ Q' q' => ?_) (by unfold lim; omega) ?_
  · simp only [wipeE, DL.evA, DL.evH, DL.evJ, DL.evM, DL.evQ, DL.evU, DL.evX, List.getElem?_cons_zero, List.getElem?_cons_succ, List.set_cons_zero, List.set_cons_succ, ↓reduceIte, Bool.false_eq_true, List.map_cons, List.map_nil, List.length_cons, List.length_nil, Bool.not_true, Bool.not_false]
    (repeat refine And.intro (by first | exact True.intro | exact Nat.le_of_ble_eq_true rfl | with_reducible_and_instances rfl | exact rfl | decide) ?_)
    exact q'
  refine dictN_c nd ?_
  (try simp only [DL.evA, DL.evH, DL.evJ, DL.evM, DL.evQ, DL.evU, DL.evX, List.getElem?_cons_zero, List.getElem?_cons_succ, List.set_cons_zero, List.set_cons_succ, ↓reduceIte, Bool.false_eq_true, List.map_cons, List.map_nil, List.length_cons, List.length_nil, Bool.not_true, Bool.not_false])
  (repeat refine And.intro (by first | exact True.intro | exact Nat.le_of_ble_eq_true rfl | with_reducible_and_instances rfl | exact rfl | decide) ?_)
  refine sort_pu (mk := fun ps => .pu (.list ps)) (srt_ok (by unfold lim; omega)) ?_
  rw [sort_c]
  simp only [DL.evA, DL.evH, DL.evJ, DL.evM, DL.evQ, DL.evU, DL.evX, List.getElem?_cons_zero, List.getElem?_cons_succ, List.set_cons_zero, List.set_cons_succ, ↓reduceIte, Bool.false_eq_true, List.map_cons, List.map_nil, List.length_cons, List.length_nil, Bool.not_true, Bool.not_false]
  refine for_map (fun i e S => ∃ (e4 e5 e6 e7 e8 e9 e10 : Option Sl) (os : List C2) (fs : List (List C2)), e = [some (.val (.pu (.list (ps.map pc)))), some (.val (.pu waysP)), some (.ow (.dct (asD pc os))), some (.ow (.lst (fs.map lcs))), e4, e5, e6, e7, e8, e9, e10] ∧ S = [] ∧ fs ++ rr ((srt ps).drop i) os = runsOf ps ∧ os.length ≤ ps.length ∧ fs.length ≤ i) ⟨_, _, _, _, _, _, _, ps, [], rfl, rfl, rfl, Nat.le_refl _, Nat.le_refl _⟩ ?_ ?_
  · rintro i c e S hi ⟨e4, e5, e6, e7, e8, e9, e10, os, fs, rfl, rfl, hr, ho, hf⟩
    have hi8 := (List.getElem?_eq_some_iff.mp hi).1
    rw [srt_len] at hi8
    rw [rr_next hi] at hr
    rw [lrBody_eq]
    simp only [DL.evA, DL.evH, DL.evJ, DL.evM, DL.evQ, DL.evU, DL.evX, List.getElem?_cons_zero, List.getElem?_cons_succ, List.set_cons_zero, List.set_cons_succ, ↓reduceIte, Bool.false_eq_true, List.map_cons, List.map_nil, List.length_cons, List.length_nil, Bool.not_true, Bool.not_false]
    refine inZB_c ?_
    simp only [DL.evA, DL.evH, DL.evJ, DL.evM, DL.evQ, DL.evU, DL.evX, List.getElem?_cons_zero, List.getElem?_cons_succ, List.set_cons_zero, List.set_cons_succ, ↓reduceIte, Bool.false_eq_true, List.map_cons, List.map_nil, List.length_cons, List.length_nil, Bool.not_true, Bool.not_false]
    by_cases h : c ∈ os
    · rw [decide_eq_true h, if_pos rfl]
      rw [if_pos h] at hr
      have hw := walk_len os.length (rm os c) c ord8
      have hrl := rm_len h
      (repeat refine And.intro (by first | exact True.intro | exact Nat.le_of_ble_eq_true rfl | with_reducible_and_instances rfl | exact rfl | decide) ?_)
      refine lr1_of (j := 8) rfl (by decide) ?_
      simp only [DL.evA, DL.evH, DL.evJ, DL.evM, DL.evQ, DL.evU, DL.evX, List.getElem?_cons_zero, List.getElem?_cons_succ, List.set_cons_zero, List.set_cons_succ, ↓reduceIte, Bool.false_eq_true, List.map_cons, List.map_nil, List.length_cons, List.length_nil, Bool.not_true, Bool.not_false]
      (repeat refine And.intro (by first | exact True.intro | exact Nat.le_of_ble_eq_true rfl | with_reducible_and_instances rfl | exact rfl | decide) ?_)
      refine while_ok h (by omega) (.inl rfl) fun e6 e7 e8 e9 e10 => ?_
      simp only [DL.evA, DL.evH, DL.evJ, DL.evM, DL.evQ, DL.evU, DL.evX, List.getElem?_cons_zero, List.getElem?_cons_succ, List.set_cons_zero, List.set_cons_succ, ↓reduceIte, Bool.false_eq_true, List.map_cons, List.map_nil, List.length_cons, List.length_nil, Bool.not_true, Bool.not_false]
      refine tail_ok (by omega) (by omega) fun e5 => ?_
      simp only [DL.evA, DL.evH, DL.evJ, DL.evM, DL.evQ, DL.evU, DL.evX, List.getElem?_cons_zero, List.getElem?_cons_succ, List.set_cons_zero, List.set_cons_succ, ↓reduceIte, Bool.false_eq_true, List.map_cons, List.map_nil, List.length_cons, List.length_nil, Bool.not_true, Bool.not_false]
      refine ⟨_, _, _, _, _, _, _, _, fs ++ [clos c (walk os.length (rm os c) c ord8).1], rfl, trivial, ?_, by omega, by rw [List.length_append, List.length_singleton]; omega⟩
      rw [List.append_assoc]
      exact hr
    · rw [decide_eq_false h, if_neg (by decide)]
      rw [if_neg h] at hr
      exact ⟨_, _, _, _, _, _, _, os, fs, rfl, trivial, hr, ho, by omega⟩
  · rintro e S ⟨e4, e5, e6, e7, e8, e9, e10, os, fs, rfl, rfl, hr, ho, hf⟩
    unfold lrEnd
    simp only [DL.evA, DL.evH, DL.evJ, DL.evM, DL.evQ, DL.evU, DL.evX, List.getElem?_cons_zero, List.getElem?_cons_succ, List.set_cons_zero, List.set_cons_succ, ↓reduceIte, Bool.false_eq_true, List.map_cons, List.map_nil, List.length_cons, List.length_nil, Bool.not_true, Bool.not_false, frzP]
    rw [List.drop_length] at hr
    rw [show rr [] os = [] from rfl, List.append_nil] at hr
    rw [hr]
    exact q
end LR
/-! LR8: corners by draws. -/
namespace LR
open PySem PySem.Spec PyProof.Rows L2 DL
noncomputable def ptX : Sx := sSeq (sFor (iRange1 (aCons (x2 gIx (xVar 2) (xP (.int 1))) (aNil))) (gNm 7) (sSeq (sSet 9 (xOrX (x2 (gIn false) (xVar 4) (xA gTup (aCons (xP (.int 0)) (aCons (x2 (s2 pSub) (x2 gIx (xVar 2) (xP (.int 0))) (xP (.int 1))) (aNil))))) (x2 (gIn false) (xVar 7) (xA gTup (aCons (xP (.int 0)) (aCons (x2 (s2 pSub) (x2 gIx (xVar 2) (xP (.int 1))) (xP (.int 1))) (aNil))))))) (sSeq (sSet 10 (x2 gIx (xA gLst (aCons (xP (.bool true)) (aCons (xVar 9) (aCons (x2 (gEq false) (x2 (s2 pMod) (x2 gAdd (xVar 4) (xVar 7)) (xP (.int 2))) (xP (.int 0))) (aCons (x2 (gEq false) (x2 (s2 pMod) (x2 (s2 pSub) (xVar 4) (xVar 7)) (xP (.int 3))) (xP (.int 0))) (aCons (xOrX (x2 (gEq false) (x2 (s2 pMod) (xVar 7) (xP (.int 2))) (xP (.int 0))) (x2 (gEq false) (x2 (s2 pMod) (xVar 4) (xP (.int 5))) (xP (.int 0)))) (aCons (xP (.bool true)) (aCons (xP (.bool true)) (aNil))))))))) (xVar 1))) (sSeq (sIf (tOfE (x2 (s2 (pIB fun i j => decide (j < i))) (xVar 1) (xP (.int 4)))) (sSeq (sSet 10 (x2 (s2 (pIB fun i j => decide (j < i))) (xA (gCallF m__law_take) (aCons (xVar 0) (aCons (x2 (s2 pSub) (xVar 1) (xP (.int 3))) (aNil)))) (xP (.int 0)))) (sNil)) (sNil)) (sSeq (sIf (tOfE (xVar 10)) (sSeq (sIns (xVar 3) (xA (gCallF m__law_take) (aCons (xVar 0) (aCons (x2 gAdd (xA gLen (aCons (xVar 3) (aNil))) (xP (.int 1))) (aNil)))) (xA gTup (aCons (x2 gAdd (xVar 5) (xVar 4)) (aCons (x2 gAdd (xVar 6) (xVar 7)) (aNil))))) (sNil)) (sNil)) (sNil)))))) (sNil)
noncomputable def ptY : Sx := sSeq (sSet 9 (xOrX (x2 (gIn false) (xVar 4) (xA gTup (aCons (xP (.int 0)) (aCons (x2 (s2 pSub) (x2 gIx (xVar 2) (xP (.int 0))) (xP (.int 1))) (aNil))))) (x2 (gIn false) (xVar 7) (xA gTup (aCons (xP (.int 0)) (aCons (x2 (s2 pSub) (x2 gIx (xVar 2) (xP (.int 1))) (xP (.int 1))) (aNil))))))) (sSeq (sSet 10 (x2 gIx (xA gLst (aCons (xP (.bool true)) (aCons (xVar 9) (aCons (x2 (gEq false) (x2 (s2 pMod) (x2 gAdd (xVar 4) (xVar 7)) (xP (.int 2))) (xP (.int 0))) (aCons (x2 (gEq false) (x2 (s2 pMod) (x2 (s2 pSub) (xVar 4) (xVar 7)) (xP (.int 3))) (xP (.int 0))) (aCons (xOrX (x2 (gEq false) (x2 (s2 pMod) (xVar 7) (xP (.int 2))) (xP (.int 0))) (x2 (gEq false) (x2 (s2 pMod) (xVar 4) (xP (.int 5))) (xP (.int 0)))) (aCons (xP (.bool true)) (aCons (xP (.bool true)) (aNil))))))))) (xVar 1))) (sSeq (sIf (tOfE (x2 (s2 (pIB fun i j => decide (j < i))) (xVar 1) (xP (.int 4)))) (sSeq (sSet 10 (x2 (s2 (pIB fun i j => decide (j < i))) (xA (gCallF m__law_take) (aCons (xVar 0) (aCons (x2 (s2 pSub) (xVar 1) (xP (.int 3))) (aNil)))) (xP (.int 0)))) (sNil)) (sNil)) (sSeq (sIf (tOfE (xVar 10)) (sSeq (sIns (xVar 3) (xA (gCallF m__law_take) (aCons (xVar 0) (aCons (x2 gAdd (xA gLen (aCons (xVar 3) (aNil))) (xP (.int 1))) (aNil)))) (xA gTup (aCons (x2 gAdd (xVar 5) (xVar 4)) (aCons (x2 gAdd (xVar 6) (xVar 7)) (aNil))))) (sNil)) (sNil)) (sNil))))
noncomputable def ptI : Sx := sSeq (sIf (tOfE (x2 (s2 (pIB fun i j => decide (j < i))) (xVar 1) (xP (.int 4)))) (sSeq (sSet 10 (x2 (s2 (pIB fun i j => decide (j < i))) (xA (gCallF m__law_take) (aCons (xVar 0) (aCons (x2 (s2 pSub) (xVar 1) (xP (.int 3))) (aNil)))) (xP (.int 0)))) (sNil)) (sNil)) (sSeq (sIf (tOfE (xVar 10)) (sSeq (sIns (xVar 3) (xA (gCallF m__law_take) (aCons (xVar 0) (aCons (x2 gAdd (xA gLen (aCons (xVar 3) (aNil))) (xP (.int 1))) (aNil)))) (xA gTup (aCons (x2 gAdd (xVar 5) (xVar 4)) (aCons (x2 gAdd (xVar 6) (xVar 7)) (aNil))))) (sNil)) (sNil)) (sNil))
noncomputable def ptT : Sx := sSeq (sFor (iRange1 (aCons (x2 gIx (xVar 2) (xP (.int 0))) (aNil))) (gNm 4) (sSeq (sFor (iRange1 (aCons (x2 gIx (xVar 2) (xP (.int 1))) (aNil))) (gNm 7) (sSeq (sSet 9 (xOrX (x2 (gIn false) (xVar 4) (xA gTup (aCons (xP (.int 0)) (aCons (x2 (s2 pSub) (x2 gIx (xVar 2) (xP (.int 0))) (xP (.int 1))) (aNil))))) (x2 (gIn false) (xVar 7) (xA gTup (aCons (xP (.int 0)) (aCons (x2 (s2 pSub) (x2 gIx (xVar 2) (xP (.int 1))) (xP (.int 1))) (aNil))))))) (sSeq (sSet 10 (x2 gIx (xA gLst (aCons (xP (.bool true)) (aCons (xVar 9) (aCons (x2 (gEq false) (x2 (s2 pMod) (x2 gAdd (xVar 4) (xVar 7)) (xP (.int 2))) (xP (.int 0))) (aCons (x2 (gEq false) (x2 (s2 pMod) (x2 (s2 pSub) (xVar 4) (xVar 7)) (xP (.int 3))) (xP (.int 0))) (aCons (xOrX (x2 (gEq false) (x2 (s2 pMod) (xVar 7) (xP (.int 2))) (xP (.int 0))) (x2 (gEq false) (x2 (s2 pMod) (xVar 4) (xP (.int 5))) (xP (.int 0)))) (aCons (xP (.bool true)) (aCons (xP (.bool true)) (aNil))))))))) (xVar 1))) (sSeq (sIf (tOfE (x2 (s2 (pIB fun i j => decide (j < i))) (xVar 1) (xP (.int 4)))) (sSeq (sSet 10 (x2 (s2 (pIB fun i j => decide (j < i))) (xA (gCallF m__law_take) (aCons (xVar 0) (aCons (x2 (s2 pSub) (xVar 1) (xP (.int 3))) (aNil)))) (xP (.int 0)))) (sNil)) (sNil)) (sSeq (sIf (tOfE (xVar 10)) (sSeq (sIns (xVar 3) (xA (gCallF m__law_take) (aCons (xVar 0) (aCons (x2 gAdd (xA gLen (aCons (xVar 3) (aNil))) (xP (.int 1))) (aNil)))) (xA gTup (aCons (x2 gAdd (xVar 5) (xVar 4)) (aCons (x2 gAdd (xVar 6) (xVar 7)) (aNil))))) (sNil)) (sNil)) (sNil)))))) (sNil))) (sFq 3 (sSeq (sRet (xVar 3)) (sNil)))
theorem ptX_eq : ptX = sSeq (sFor (iRange1 (aCons (x2 gIx (xVar 2) (xP (.int 1))) (aNil))) (gNm 7) ptY) (sNil) := rfl
theorem ptT_eq : ptT = sSeq (sFor (iRange1 (aCons (x2 gIx (xVar 2) (xP (.int 0))) (aNil))) (gNm 4) ptX) (sFq 3 (sSeq (sRet (xVar 3)) (sNil))) := rfl
/-- what was drawn ahead of a corner -/
structure Pt (L : List C2) (a b x y : Int) : Prop where
  nd : L.Nodup
  lt : ∀ c ∈ L, c.1 < a + x ∨ (c.1 = a + x ∧ c.2 < b + y)
  bd : ∀ c ∈ L, (-20 ≤ c.1 ∧ c.1 ≤ 60) ∧ (-20 ≤ c.2 ∧ c.2 ≤ 60)
theorem Pt.mono {L : List C2} {a b x y x' y' : Int} (h : Pt L a b x y) (l : x < x' ∨ (x = x' ∧ y ≤ y')) : Pt L a b x' y' where
  nd := h.nd
  lt := fun c hc => by have := h.lt c hc; omega
  bd := h.bd
theorem Pt.ins {L : List C2} {a b x y : Int} (h : Pt L a b x y) (k : Nat) (hb : (-20 ≤ a + x ∧ a + x ≤ 60) ∧ (-20 ≤ b + y ∧ b + y ≤ 60)) : Pt (L.take k ++ [(a + x, b + y)] ++ L.drop k) a b x (y + 1) := by
  have hp : (L.take k ++ [(a + x, b + y)] ++ L.drop k).Perm ((a + x, b + y) :: L) := by
    have e := List.perm_middle (a := ((a + x, b + y) : C2)) (l₁ := L.take k) (l₂ := L.drop k)
    rw [List.take_append_drop] at e
    rw [List.append_assoc]
    exact e
  refine ⟨hp.nodup_iff.mpr (List.nodup_cons.mpr ⟨fun hm => ?_, h.nd⟩), fun c hc => ?_, fun c hc => ?_⟩
  · have := h.lt _ hm
    dsimp only at this
    omega
  · rcases List.mem_cons.mp (hp.mem_iff.mp hc) with rfl | hc
    · dsimp only; omega
    · have := h.lt c hc; omega
  · rcases List.mem_cons.mp (hp.mem_iff.mp hc) with rfl | hc
    · exact hb
    · exact h.bd c hc
theorem ptI_ok {S : Sto} {n : Nat} {T : Int} (st : St S n T) (hT : T < 900000) {w p q' a b x y : Int} (hw : 0 ≤ w ∧ w < 7) (hp : 1 ≤ p ∧ p ≤ 20) (hq : 1 ≤ q' ∧ q' ≤ 20) (hx : 0 ≤ x ∧ x < p) (hy : 0 ≤ y ∧ y < q') (ha : -20 ≤ a ∧ a ≤ 20) (hb : -20 ≤ b ∧ b ≤ 20) {L : List C2} (hL : Pt L a b x y) (hl : L.length ≤ 1000) {e8 e9 : Option Sl} {v : Bool} {Q : Out → Prop}
    (q : ∀ (L' : List C2) (e9 e10 : Option Sl) S', Pt L' a b x (y + 1) → L'.length ≤ L.length + 1 → St S' n (T + 2) → Q (.nx [some (.val (.rf n)), some (.val (.pu (.int w))), some (.ow (.lst [.int p, .int q'])), some (.ow (.lst (L'.map pc))), some (.val (.pu (.int x))), some (.val (.pu (.int a))), some (.val (.pu (.int b))), some (.val (.pu (.int y))), e8, e9, e10] S')) :
    W (ptI [some (.val (.rf n)), some (.val (.pu (.int w))), some (.ow (.lst [.int p, .int q'])), some (.ow (.lst (L.map pc))), some (.val (.pu (.int x))), some (.val (.pu (.int a))), some (.val (.pu (.int b))), some (.val (.pu (.int y))), e8, e9, some (.val (.pu (.bool v)))] S) Q := by
  unfold ptI
  have fin : ∀ {S : Sto} {T' : Int} {e9 : Option Sl} (v : Bool), St S n T' → T' ≤ T + 1 → W (sSeq (sIf (tOfE (xVar 10)) (sSeq (sIns (xVar 3) (xA (gCallF m__law_take) (aCons (xVar 0) (aCons (x2 gAdd (xA gLen (aCons (xVar 3) (aNil))) (xP (.int 1))) (aNil)))) (xA gTup (aCons (x2 gAdd (xVar 5) (xVar 4)) (aCons (x2 gAdd (xVar 6) (xVar 7)) (aNil))))) (sNil)) (sNil)) (sNil) [some (.val (.rf n)), some (.val (.pu (.int w))), some (.ow (.lst [.int p, .int q'])), some (.ow (.lst (L.map pc))), some (.val (.pu (.int x))), some (.val (.pu (.int a))), some (.val (.pu (.int b))), some (.val (.pu (.int y))), e8, e9, some (.val (.pu (.bool v)))] S) Q := fun {S T' e9} v st hT' => by
    simp only [DL.evA, DL.evH, DL.evJ, DL.evM, DL.evQ, DL.evU, DL.evX, List.getElem?_cons_zero, List.getElem?_cons_succ, List.set_cons_zero, List.set_cons_succ, ↓reduceIte, Bool.false_eq_true, List.map_cons, List.map_nil, List.length_cons, List.length_nil, Bool.not_true, Bool.not_false]
    cases v with
    | true =>
      rw [if_pos rfl]
      (repeat refine And.intro (by first | exact True.intro | exact Nat.le_of_ble_eq_true rfl | with_reducible_and_instances rfl | exact rfl | decide) ?_)
      have hlm : (L.map pc).length = L.length := List.length_map _
      refine take_st st (by omega) (by omega) (by omega) fun k S1 l_k u_k st1 => ?_
      simp only [DL.evA, DL.evH, DL.evJ, DL.evM, DL.evQ, DL.evU, DL.evX, List.getElem?_cons_zero, List.getElem?_cons_succ, List.set_cons_zero, List.set_cons_succ, ↓reduceIte, Bool.false_eq_true, List.map_cons, List.map_nil, List.length_cons, List.length_nil, Bool.not_true, Bool.not_false]
      (repeat refine And.intro (by first | exact True.intro | exact Nat.le_of_ble_eq_true rfl | with_reducible_and_instances rfl | exact rfl | decide) ?_)
      refine ⟨by omega, by unfold lim; omega, ?_⟩
      have e : (List.take k.toNat (List.map pc L) ++ [PyData.tuple [PyData.int (a + x), PyData.int (b + y)]] ++ List.drop k.toNat (List.map pc L)) = (L.take k.toNat ++ [(a + x, b + y)] ++ L.drop k.toNat).map pc := by
        rw [List.map_append, List.map_append, List.map_take, List.map_drop]
        rfl
      rw [e]
      refine q _ _ _ _ (hL.ins k.toNat (by omega)) ?_ (st1.mono (by omega))
      rw [List.length_append, List.length_append, List.length_take, List.length_drop, List.length_singleton]
      omega
    | false =>
      rw [if_neg (by decide)]
      exact q L _ _ _ (hL.mono (by omega)) (by omega) (st.mono (by omega))
  rw [w_seq]
  simp only [DL.evA, DL.evH, DL.evJ, DL.evM, DL.evQ, DL.evU, DL.evX, List.getElem?_cons_zero, List.getElem?_cons_succ, List.set_cons_zero, List.set_cons_succ, ↓reduceIte, Bool.false_eq_true, List.map_cons, List.map_nil, List.length_cons, List.length_nil, Bool.not_true, Bool.not_false]
  refine both (fun h => ?_) fun h => ?_
  · rw [decide_eq_true_eq] at h
    (repeat refine And.intro (by first | exact True.intro | exact Nat.le_of_ble_eq_true rfl | with_reducible_and_instances rfl | exact rfl | decide) ?_)
    refine take_st st (by omega) (by omega) (by omega) fun k S1 l_k u_k st1 => ?_
    simp only [DL.evA, DL.evH, DL.evJ, DL.evM, DL.evQ, DL.evU, DL.evX, List.getElem?_cons_zero, List.getElem?_cons_succ, List.set_cons_zero, List.set_cons_succ, ↓reduceIte, Bool.false_eq_true, List.map_cons, List.map_nil, List.length_cons, List.length_nil, Bool.not_true, Bool.not_false]
    have := fin (S := S1) (e9 := e9) (decide (0 < k)) st1 (by omega)
    simp only [DL.evA, DL.evH, DL.evJ, DL.evM, DL.evQ, DL.evU, DL.evX, List.getElem?_cons_zero, List.getElem?_cons_succ, List.set_cons_zero, List.set_cons_succ, ↓reduceIte, Bool.false_eq_true, List.map_cons, List.map_nil, List.length_cons, List.length_nil, Bool.not_true, Bool.not_false] at this
    exact this
  · have := fin (S := S) (e9 := e9) v st (by omega)
    simp only [DL.evA, DL.evH, DL.evJ, DL.evM, DL.evQ, DL.evU, DL.evX, List.getElem?_cons_zero, List.getElem?_cons_succ, List.set_cons_zero, List.set_cons_succ, ↓reduceIte, Bool.false_eq_true, List.map_cons, List.map_nil, List.length_cons, List.length_nil, Bool.not_true, Bool.not_false] at this
    exact this
theorem at7 {l : List D} (hl : l.length = 7) (hb : ∀ z ∈ l, ∃ v, z = .pu (.bool v)) {w : Int} (hw : 0 ≤ w ∧ w < 7) {Q : D → Prop} (q : ∀ v, Q (.pu (.bool v))) : W (atI l w) Q := at_mem hw.1 (by omega) fun z hz => by
  obtain ⟨v, rfl⟩ := hb z hz
  exact q v
theorem ptY_ok {S : Sto} {n : Nat} {T : Int} (st : St S n T) (hT : T < 900000) {w p q' a b x y : Int} (hw : 0 ≤ w ∧ w < 7) (hp : 1 ≤ p ∧ p ≤ 20) (hq : 1 ≤ q' ∧ q' ≤ 20) (hx : 0 ≤ x ∧ x < p) (hy : 0 ≤ y ∧ y < q') (ha : -20 ≤ a ∧ a ≤ 20) (hb : -20 ≤ b ∧ b ≤ 20) {L : List C2} (hL : Pt L a b x y) (hl : L.length ≤ 1000) {e8 e9 e10 : Option Sl} {Q : Out → Prop}
    (q : ∀ (L' : List C2) (e9 e10 : Option Sl) S', Pt L' a b x (y + 1) → L'.length ≤ L.length + 1 → St S' n (T + 2) → Q (.nx [some (.val (.rf n)), some (.val (.pu (.int w))), some (.ow (.lst [.int p, .int q'])), some (.ow (.lst (L'.map pc))), some (.val (.pu (.int x))), some (.val (.pu (.int a))), some (.val (.pu (.int b))), some (.val (.pu (.int y))), e8, e9, e10] S')) :
    W (ptY [some (.val (.rf n)), some (.val (.pu (.int w))), some (.ow (.lst [.int p, .int q'])), some (.ow (.lst (L.map pc))), some (.val (.pu (.int x))), some (.val (.pu (.int a))), some (.val (.pu (.int b))), some (.val (.pu (.int y))), e8, e9, e10] S) Q := by
  rw [show ptY = sSeq _ (sSeq _ ptI) from rfl]
  simp only [DL.evA, DL.evH, DL.evJ, DL.evM, DL.evQ, DL.evU, DL.evX, List.getElem?_cons_zero, List.getElem?_cons_succ, List.set_cons_zero, List.set_cons_succ, ↓reduceIte, Bool.false_eq_true, List.map_cons, List.map_nil, List.length_cons, List.length_nil, Bool.not_true, Bool.not_false]
  have hd : ∀ {P1 : Prop} [Decidable P1], ∃ v, D.pu (.bool (decide P1)) = .pu (.bool v) := ⟨_, rfl⟩
  have ha7 : ∀ {l : List D}, l.length = 7 → (∀ z ∈ l, ∃ v, z = .pu (.bool v)) → ∀ {e9 : Option Sl}, W (atI l w) fun z => W (gNm 10 z [some (.val (.rf n)), some (.val (.pu (.int w))), some (.ow (.lst [.int p, .int q'])), some (.ow (.lst (L.map pc))), some (.val (.pu (.int x))), some (.val (.pu (.int a))), some (.val (.pu (.int b))), some (.val (.pu (.int y))), e8, e9, e10] S) fun q => W (ptI q.1 q.2) Q := fun h1 h2 e9 => at7 h1 h2 hw fun v => by
    simp only [DL.evA, DL.evH, DL.evJ, DL.evM, DL.evQ, DL.evU, DL.evX, List.getElem?_cons_zero, List.getElem?_cons_succ, List.set_cons_zero, List.set_cons_succ, ↓reduceIte, Bool.false_eq_true, List.map_cons, List.map_nil, List.length_cons, List.length_nil, Bool.not_true, Bool.not_false]
    exact ptI_ok st hT hw hp hq hx hy ha hb hL hl q
  have hb7 : ∀ {b1 b2 b3 b4 : Bool}, ∀ z ∈ [D.pu (PyData.bool true), .pu (.bool b1), .pu (.bool b2), .pu (.bool b3), .pu (.bool b4), .pu (.bool true), .pu (.bool true)], ∃ v, z = .pu (.bool v) := fun z hz => by
    simp only [List.mem_cons, List.not_mem_nil, or_false] at hz
    rcases hz with rfl | rfl | rfl | rfl | rfl | rfl | rfl <;> exact ⟨_, rfl⟩
  refine ⟨trivial, (Nat.le_of_ble_eq_true rfl), rfl, both (fun _ => ?_) fun _ => ?_⟩
  · (repeat refine And.intro (by first | exact True.intro | exact Nat.le_of_ble_eq_true rfl | with_reducible_and_instances rfl | exact rfl | decide) ?_)
    refine both (fun _ => ?_) fun _ => ?_
    · (repeat refine And.intro (by first | exact True.intro | exact Nat.le_of_ble_eq_true rfl | with_reducible_and_instances rfl | exact rfl | decide) ?_)
      exact ha7 rfl hb7
    · (repeat refine And.intro (by first | exact True.intro | exact Nat.le_of_ble_eq_true rfl | with_reducible_and_instances rfl | exact rfl | decide) ?_)
      exact ha7 rfl hb7
  · (repeat refine And.intro (by first | exact True.intro | exact Nat.le_of_ble_eq_true rfl | with_reducible_and_instances rfl | exact rfl | decide) ?_)
    refine both (fun _ => ?_) fun _ => ?_
    · (repeat refine And.intro (by first | exact True.intro | exact Nat.le_of_ble_eq_true rfl | with_reducible_and_instances rfl | exact rfl | decide) ?_)
      exact ha7 rfl hb7
    · (repeat refine And.intro (by first | exact True.intro | exact Nat.le_of_ble_eq_true rfl | with_reducible_and_instances rfl | exact rfl | decide) ?_)
      exact ha7 rfl hb7
theorem points_ok {S : Sto} {n : Nat} {T : Int} (st : St S n T) (hT : T < 800000) {Q : D × Sto → Prop} (q : ∀ (L : List C2) S', L.Nodup → L.length ≤ 400 → (∀ c ∈ L, (-20 ≤ c.1 ∧ c.1 ≤ 60) ∧ (-20 ≤ c.2 ∧ c.2 ≤ 60)) → St S' n (T + 900) → Q (.pu (.list (L.map pc)), S')) : W (m__law_points [.rf n] S) Q := by
  unfold m__law_points
  rw [w_runF]
  refine ⟨⟨rfl, by decide⟩, ?_⟩
  rw [show env0 11 [.rf n] = [some (.val (.rf n)), none, none, none, none, none, none, none, none, none, none] from rfl]
  rw [show b__law_points = sSeq _ (sSeq _ (sSeq _ (sSeq _ ptT))) from rfl]
  (try simp only [DL.evA, DL.evH, DL.evJ, DL.evM, DL.evQ, DL.evU, DL.evX, List.getElem?_cons_zero, List.getElem?_cons_succ, List.set_cons_zero, List.set_cons_succ, ↓reduceIte, Bool.false_eq_true, List.map_cons, List.map_nil, List.length_cons, List.length_nil, Bool.not_true, Bool.not_false])
  (repeat refine And.intro (by first | exact True.intro | exact Nat.le_of_ble_eq_true rfl | with_reducible_and_instances rfl | exact rfl | decide) ?_)
  refine take_st st (by first | decide | omega) (by first | decide | omega) (by omega) fun w S_w l_w u_w st1 => ?_
  (try simp only [DL.evA, DL.evH, DL.evJ, DL.evM, DL.evQ, DL.evU, DL.evX, List.getElem?_cons_zero, List.getElem?_cons_succ, List.set_cons_zero, List.set_cons_succ, ↓reduceIte, Bool.false_eq_true, List.map_cons, List.map_nil, List.length_cons, List.length_nil, Bool.not_true, Bool.not_false])
  (repeat refine And.intro (by first | exact True.intro | exact Nat.le_of_ble_eq_true rfl | with_reducible_and_instances rfl | exact rfl | decide) ?_)
  refine comp_any (I := fun i S' => DL.St S' n (T + 1 + 2 * i)) (Pr := fun p => ∃ t : Int, p = .int t ∧ 1 ≤ t ∧ t ≤ 20) _ 0 _ _ (st1.mono (by omega)) (fun i d S' hd hi R r => ?_) (by rw [rng_len, List.length_nil]; unfold lim; omega) fun ps S' hps hpr hI => ?_
  · obtain ⟨hi8, rfl⟩ := rng_get hd
    have hi8 : i < 2 := hi8
    simp only [wipeE, DL.evA, DL.evH, DL.evJ, DL.evM, DL.evQ, DL.evU, DL.evX, List.getElem?_cons_zero, List.getElem?_cons_succ, List.set_cons_zero, List.set_cons_succ, ↓reduceIte, Bool.false_eq_true, List.map_cons, List.map_nil, List.length_cons, List.length_nil, Bool.not_true, Bool.not_false]
    (repeat refine And.intro (by first | exact True.intro | exact Nat.le_of_ble_eq_true rfl | with_reducible_and_instances rfl | exact rfl | decide) ?_)
    refine take_st hi (by omega) (by omega) (by omega) fun u S1 l_u u_u st2 => ?_
    simp only [DL.evA, DL.evH, DL.evJ, DL.evM, DL.evQ, DL.evU, DL.evX, List.getElem?_cons_zero, List.getElem?_cons_succ, List.set_cons_zero, List.set_cons_succ, ↓reduceIte, Bool.false_eq_true, List.map_cons, List.map_nil, List.length_cons, List.length_nil, Bool.not_true, Bool.not_false]
    have hm : ∀ {Q : D → Prop}, (∀ m : Int, (1 ≤ m ∧ m ≤ 20) → Q (.pu (.int m))) → W (atI [D.pu (.int 3), .pu (.int 7), .pu (.int 20)] u) Q := fun q => at3 l_u u_u (q _ (by omega)) (q _ (by omega)) (q _ (by omega))
    refine hm fun m hm => ?_
    (try simp only [DL.evA, DL.evH, DL.evJ, DL.evM, DL.evQ, DL.evU, DL.evX, List.getElem?_cons_zero, List.getElem?_cons_succ, List.set_cons_zero, List.set_cons_succ, ↓reduceIte, Bool.false_eq_true, List.map_cons, List.map_nil, List.length_cons, List.length_nil, Bool.not_true, Bool.not_false])
    (repeat refine And.intro (by first | exact True.intro | exact Nat.le_of_ble_eq_true rfl | with_reducible_and_instances rfl | exact rfl | decide) ?_)
    refine take_st st2 (by omega) (by omega) (by omega) fun v S2 l_v u_v st3 => ?_
    simp only [DL.evA, DL.evH, DL.evJ, DL.evM, DL.evQ, DL.evU, DL.evX, List.getElem?_cons_zero, List.getElem?_cons_succ, List.set_cons_zero, List.set_cons_succ, ↓reduceIte, Bool.false_eq_true, List.map_cons, List.map_nil, List.length_cons, List.length_nil, Bool.not_true, Bool.not_false]
    exact r _ _ ⟨_, rfl, by omega, by omega⟩ (st3.mono (by omega))
  · rw [rng_len] at hps hI
    have hps : ps.length = 2 := hps
    obtain ⟨p1, p2, rfl⟩ : ∃ p1 p2, ps = [p1, p2] := by
      match ps, hps with
      | [p1, p2], _ => exact ⟨p1, p2, rfl⟩
    obtain ⟨p, rfl, hp1, hp2⟩ := hpr p1 List.mem_cons_self
    obtain ⟨q', rfl, hq1, hq2⟩ := hpr p2 (List.mem_cons_of_mem _ List.mem_cons_self)
    (try simp only [DL.evA, DL.evH, DL.evJ, DL.evM, DL.evQ, DL.evU, DL.evX, List.getElem?_cons_zero, List.getElem?_cons_succ, List.set_cons_zero, List.set_cons_succ, ↓reduceIte, Bool.false_eq_true, List.map_cons, List.map_nil, List.length_cons, List.length_nil, Bool.not_true, Bool.not_false])
    (repeat refine And.intro (by first | exact True.intro | exact Nat.le_of_ble_eq_true rfl | with_reducible_and_instances rfl | exact rfl | decide) ?_)
    have hI : DL.St S' n (T + 5) := hI.mono (by omega)
    refine take_st hI (by first | decide | omega) (by first | decide | omega) (by omega) fun a S_a l_a u_a st2 => ?_
    (try simp only [DL.evA, DL.evH, DL.evJ, DL.evM, DL.evQ, DL.evU, DL.evX, List.getElem?_cons_zero, List.getElem?_cons_succ, List.set_cons_zero, List.set_cons_succ, ↓reduceIte, Bool.false_eq_true, List.map_cons, List.map_nil, List.length_cons, List.length_nil, Bool.not_true, Bool.not_false])
    (repeat refine And.intro (by first | exact True.intro | exact Nat.le_of_ble_eq_true rfl | with_reducible_and_instances rfl | exact rfl | decide) ?_)
    refine take_st st2 (by first | decide | omega) (by first | decide | omega) (by omega) fun b S_b l_b u_b st3 => ?_
    (try simp only [DL.evA, DL.evH, DL.evJ, DL.evM, DL.evQ, DL.evU, DL.evX, List.getElem?_cons_zero, List.getElem?_cons_succ, List.set_cons_zero, List.set_cons_succ, ↓reduceIte, Bool.false_eq_true, List.map_cons, List.map_nil, List.length_cons, List.length_nil, Bool.not_true, Bool.not_false])
    (repeat refine And.intro (by first | exact True.intro | exact Nat.le_of_ble_eq_true rfl | with_reducible_and_instances rfl | exact rfl | decide) ?_)
    rw [ptT_eq, show ([] ++ [PyData.int p, PyData.int q']) = [PyData.int p, PyData.int q'] from rfl]
    simp only [DL.evA, DL.evH, DL.evJ, DL.evM, DL.evQ, DL.evU, DL.evX, List.getElem?_cons_zero, List.getElem?_cons_succ, List.set_cons_zero, List.set_cons_succ, ↓reduceIte, Bool.false_eq_true, List.map_cons, List.map_nil, List.length_cons, List.length_nil, Bool.not_true, Bool.not_false]
    refine ⟨rOk_iff.mpr (by omega), ?_⟩
    refine for_rng (fun x e S => ∃ (L : List C2) (e4 e7 e8 e9 e10 : Option Sl), e = [some (.val (.rf n)), some (.val (.pu (.int w))), some (.ow (.lst [.int p, .int q'])), some (.ow (.lst (L.map pc))), e4, some (.val (.pu (.int (a - 20)))), some (.val (.pu (.int (b - 20)))), e7, e8, e9, e10] ∧ Pt L (a - 20) (b - 20) x 0 ∧ (L.length : Int) ≤ 20 * x ∧ DL.St S n (T + 7 + 40 * x)) ⟨[], _, _, _, _, _, rfl, ⟨List.nodup_nil, fun c hc => (by cases hc), fun c hc => (by cases hc)⟩, by simp, st3.mono (by omega)⟩ ?_ ?_
    · rintro x e S hx1 hx2 ⟨L, e4, e7, e8, e9, e10, rfl, hL, hl, hs⟩
      rw [ptX_eq]
      simp only [DL.evA, DL.evH, DL.evJ, DL.evM, DL.evQ, DL.evU, DL.evX, List.getElem?_cons_zero, List.getElem?_cons_succ, List.set_cons_zero, List.set_cons_succ, ↓reduceIte, Bool.false_eq_true, List.map_cons, List.map_nil, List.length_cons, List.length_nil, Bool.not_true, Bool.not_false]
      refine ⟨rOk_iff.mpr (by omega), ?_⟩
      refine for_rng (fun y e S => ∃ (L : List C2) (e7 e8 e9 e10 : Option Sl), e = [some (.val (.rf n)), some (.val (.pu (.int w))), some (.ow (.lst [.int p, .int q'])), some (.ow (.lst (L.map pc))), some (.val (.pu (.int x))), some (.val (.pu (.int (a - 20)))), some (.val (.pu (.int (b - 20)))), e7, e8, e9, e10] ∧ Pt L (a - 20) (b - 20) x y ∧ (L.length : Int) ≤ 20 * x + y ∧ DL.St S n (T + 7 + 40 * x + 2 * y)) ⟨L, _, _, _, _, rfl, hL, by omega, hs.mono (by omega)⟩ ?_ ?_
      · clear hL hl hs
        rintro y e S hy1 hy2 ⟨L, e7, e8, e9, e10, rfl, hL, hl, hs⟩
        simp only [DL.evA, DL.evH, DL.evJ, DL.evM, DL.evQ, DL.evU, DL.evX, List.getElem?_cons_zero, List.getElem?_cons_succ, List.set_cons_zero, List.set_cons_succ, ↓reduceIte, Bool.false_eq_true, List.map_cons, List.map_nil, List.length_cons, List.length_nil, Bool.not_true, Bool.not_false]
        refine ptY_ok hs (by omega) (by omega) (by omega) (by omega) (by omega) (by omega) (by omega) (by omega) hL (by omega) fun L' e9 e10 S' hL' hl' hs' => ?_
        simp only [DL.evA, DL.evH, DL.evJ, DL.evM, DL.evQ, DL.evU, DL.evX, List.getElem?_cons_zero, List.getElem?_cons_succ, List.set_cons_zero, List.set_cons_succ, ↓reduceIte, Bool.false_eq_true, List.map_cons, List.map_nil, List.length_cons, List.length_nil, Bool.not_true, Bool.not_false]
        exact ⟨L', _, _, _, _, rfl, hL', by omega, hs'.mono (by omega)⟩
      · clear hL hl hs
        rintro e S ⟨L, e7, e8, e9, e10, rfl, hL, hl, hs⟩
        simp only [DL.evA, DL.evH, DL.evJ, DL.evM, DL.evQ, DL.evU, DL.evX, List.getElem?_cons_zero, List.getElem?_cons_succ, List.set_cons_zero, List.set_cons_succ, ↓reduceIte, Bool.false_eq_true, List.map_cons, List.map_nil, List.length_cons, List.length_nil, Bool.not_true, Bool.not_false]
        refine ⟨L, _, _, _, _, _, rfl, hL.mono (by omega), by omega, hs.mono (by omega)⟩
    · rintro e S ⟨L, e4, e7, e8, e9, e10, rfl, hL, hl, hs⟩
      simp only [DL.evA, DL.evH, DL.evJ, DL.evM, DL.evQ, DL.evU, DL.evX, List.getElem?_cons_zero, List.getElem?_cons_succ, List.set_cons_zero, List.set_cons_succ, ↓reduceIte, Bool.false_eq_true, List.map_cons, List.map_nil, List.length_cons, List.length_nil, Bool.not_true, Bool.not_false, frzP]
      exact ⟨rfl, q L S hL.nd (by omega) hL.bd (hs.mono (by omega))⟩
end LR
/-! LR9: the great box. -/
namespace LR
open PySem PySem.Spec PyProof.Rows L2 DL
def gb (a b : Int) (k : Nat) : C2 := (a + (k : Int) / 30, b + (k : Int) % 30)
def gbs (a b : Int) : List C2 := (List.range 900).map (gb a b)
theorem gb_inj {a b : Int} {i j : Nat} (h : gb a b i = gb a b j) : i = j := by
  unfold gb at h
  rw [Prod.mk.injEq] at h
  omega
theorem gbs_nd (a b : Int) : (gbs a b).Nodup := by
  unfold gbs
  rw [List.Nodup, List.pairwise_map]
  exact List.Pairwise.imp (fun {i j} h e => h (gb_inj e)) List.nodup_range
theorem cut_hi {α : Type} {xs : List α} {k : Nat} : cutL xs none (some (k : Int)) = xs.take k := by
  unfold cutL
  rw [HT.sIx_none, List.drop_zero, Nat.sub_zero]
  unfold HT.sIx
  dsimp only
  rw [if_neg (by omega)]
  by_cases h2 : k ≤ xs.length
  · rw [Int.toNat_natCast, Nat.min_eq_left h2]
  · rw [Int.toNat_natCast, Nat.min_eq_right (by omega), List.take_of_length_le (by omega), List.take_of_length_le (by omega)]
theorem cut_lo {α : Type} {xs : List α} {k : Nat} (h : k ≤ xs.length) : cutL xs (some (k : Int)) none = xs.drop k := by
  unfold cutL HT.sIx
  dsimp only
  rw [if_neg (by omega), Int.toNat_natCast, Nat.min_eq_left h, List.take_of_length_le (by rw [List.length_drop]; exact Nat.le_refl _)]
theorem gbs_bd {a b : Int} {c : C2} (h : c ∈ gbs a b) : (a ≤ c.1 ∧ c.1 < a + 30) ∧ b ≤ c.2 ∧ c.2 < b + 30 := by
  obtain ⟨k, hk, rfl⟩ := List.mem_map.mp h
  rw [List.mem_range] at hk
  unfold gb
  dsimp only
  omega
theorem great_ok {S : Sto} {n : Nat} {T : Int} (st : St S n T) (hT : T < 800000) {Q : D × Sto → Prop} (q : ∀ (L : List C2) S', L.Nodup → L.length ≤ 900 → St S' n (T + 4) → Q (.pu (.list (L.map pc)), S')) : W (m__law_great_box [.rf n] S) Q := by
  unfold m__law_great_box
  rw [w_runF]
  refine ⟨⟨rfl, by decide⟩, ?_⟩
  rw [show env0 7 [.rf n] = [some (.val (.rf n)), none, none, none, none, none, none] from rfl]
  unfold b__law_great_box
  (try simp only [DL.evA, DL.evH, DL.evJ, DL.evM, DL.evQ, DL.evU, DL.evX, List.getElem?_cons_zero, List.getElem?_cons_succ, List.set_cons_zero, List.set_cons_succ, ↓reduceIte, Bool.false_eq_true, List.map_cons, List.map_nil, List.length_cons, List.length_nil, Bool.not_true, Bool.not_false])
  (repeat refine And.intro (by first | exact True.intro | exact Nat.le_of_ble_eq_true rfl | with_reducible_and_instances rfl | exact rfl | decide) ?_)
  refine take_st st (by first | decide | omega) (by first | decide | omega) (by omega) fun a S_a l_a u_a st1 => ?_
  (try simp only [DL.evA, DL.evH, DL.evJ, DL.evM, DL.evQ, DL.evU, DL.evX, List.getElem?_cons_zero, List.getElem?_cons_succ, List.set_cons_zero, List.set_cons_succ, ↓reduceIte, Bool.false_eq_true, List.map_cons, List.map_nil, List.length_cons, List.length_nil, Bool.not_true, Bool.not_false])
  (repeat refine And.intro (by first | exact True.intro | exact Nat.le_of_ble_eq_true rfl | with_reducible_and_instances rfl | exact rfl | decide) ?_)
  refine take_st st1 (by first | decide | omega) (by first | decide | omega) (by omega) fun b S_b l_b u_b st2 => ?_
  (try simp only [DL.evA, DL.evH, DL.evJ, DL.evM, DL.evQ, DL.evU, DL.evX, List.getElem?_cons_zero, List.getElem?_cons_succ, List.set_cons_zero, List.set_cons_succ, ↓reduceIte, Bool.false_eq_true, List.map_cons, List.map_nil, List.length_cons, List.length_nil, Bool.not_true, Bool.not_false])
  (repeat refine And.intro (by first | exact True.intro | exact Nat.le_of_ble_eq_true rfl | with_reducible_and_instances rfl | exact rfl | decide) ?_)
  rw [show rngD 0 (Int.toNat 900) = ((List.range 900).map fun k : Nat => PyData.int (0 + (k : Int))).map D.pu from by unfold rngD; rw [List.map_map]; rfl]
  refine comp_on (fun k : Nat => PyData.int (0 + (k : Int))) (fun k : Nat => pc (gb (a - 20) (b - 20) k)) _ (fun k _ Q' q' => ?_) (by rw [List.length_range]; unfold lim; omega) ?_
  · simp only [wipeE, DL.evA, DL.evH, DL.evJ, DL.evM, DL.evQ, DL.evU, DL.evX, List.getElem?_cons_zero, List.getElem?_cons_succ, List.set_cons_zero, List.set_cons_succ, ↓reduceIte, Bool.false_eq_true, List.map_cons, List.map_nil, List.length_cons, List.length_nil, Bool.not_true, Bool.not_false]
    (repeat refine And.intro (by first | exact True.intro | exact Nat.le_of_ble_eq_true rfl | with_reducible_and_instances rfl | exact rfl | decide) ?_)
    unfold gb at q'
    rw [Int.zero_add]
    exact q'
  have e1 : (List.range 900).map (fun k : Nat => pc (gb (a - 20) (b - 20) k)) = (gbs (a - 20) (b - 20)).map pc := by
    unfold gbs
    rw [List.map_map]
    rfl
  rw [e1]
  have nd := gbs_nd (a - 20) (b - 20)
  have hl : (gbs (a - 20) (b - 20)).length = 900 := by
    unfold gbs
    rw [List.length_map, List.length_range]
  have hb : ∀ c ∈ gbs (a - 20) (b - 20), _ := fun c hc => gbs_bd hc
  generalize gbs (a - 20) (b - 20) = L at *
  (try simp only [DL.evA, DL.evH, DL.evJ, DL.evM, DL.evQ, DL.evU, DL.evX, List.getElem?_cons_zero, List.getElem?_cons_succ, List.set_cons_zero, List.set_cons_succ, ↓reduceIte, Bool.false_eq_true, List.map_cons, List.map_nil, List.length_cons, List.length_nil, Bool.not_true, Bool.not_false])
  (repeat refine And.intro (by first | exact True.intro | exact Nat.le_of_ble_eq_true rfl | with_reducible_and_instances rfl | exact rfl | decide) ?_)
  refine take_st st2 (by first | decide | omega) (by first | decide | omega) (by omega) fun k S_k l_k u_k st3 => ?_
  (try simp only [DL.evA, DL.evH, DL.evJ, DL.evM, DL.evQ, DL.evU, DL.evX, List.getElem?_cons_zero, List.getElem?_cons_succ, List.set_cons_zero, List.set_cons_succ, ↓reduceIte, Bool.false_eq_true, List.map_cons, List.map_nil, List.length_cons, List.length_nil, Bool.not_true, Bool.not_false])
  (repeat refine And.intro (by first | exact True.intro | exact Nat.le_of_ble_eq_true rfl | with_reducible_and_instances rfl | exact rfl | decide) ?_)
  obtain ⟨kn, rfl⟩ := Int.eq_ofNat_of_zero_le l_k
  have ec : cutL (List.map pc L) (some (kn : Int)) none ++ cutL (List.map pc L) none (some (kn : Int)) = (L.drop kn ++ L.take kn).map pc := by
    rw [cut_lo (by rw [List.length_map]; omega), cut_hi, List.map_append, List.map_drop, List.map_take]
  have hp : (L.drop kn ++ L.take kn).Perm L := by
    have := List.perm_append_comm (l₁ := L.drop kn) (l₂ := L.take kn)
    rwa [List.take_append_drop] at this
  rw [← List.length_append, ec]
  have nd' := hp.nodup_iff.mpr nd
  have hl' := hp.length_eq
  have hb' : ∀ c ∈ L.drop kn ++ L.take kn, _ := fun c hc => hb c (hp.mem_iff.mp hc)
  generalize L.drop kn ++ L.take kn = M at *
  refine ⟨by rw [List.length_map]; unfold lim; omega, ?_⟩
  (repeat refine And.intro (by first | exact True.intro | exact Nat.le_of_ble_eq_true rfl | with_reducible_and_instances rfl | exact rfl | decide) ?_)
  refine take_st st3 (by first | decide | omega) (by first | decide | omega) (by omega) fun m S_m l_m u_m st4 => ?_
  (try simp only [DL.evA, DL.evH, DL.evJ, DL.evM, DL.evQ, DL.evU, DL.evX, List.getElem?_cons_zero, List.getElem?_cons_succ, List.set_cons_zero, List.set_cons_succ, ↓reduceIte, Bool.false_eq_true, List.map_cons, List.map_nil, List.length_cons, List.length_nil, Bool.not_true, Bool.not_false])
  (repeat refine And.intro (by first | exact True.intro | exact Nat.le_of_ble_eq_true rfl | with_reducible_and_instances rfl | exact rfl | decide) ?_)
  refine both (fun _ => ?_) fun _ => ?_
  · simp only [frzP, DL.evA, DL.evH, DL.evJ, DL.evM, DL.evQ, DL.evU, DL.evX, List.getElem?_cons_zero, List.getElem?_cons_succ, List.set_cons_zero, List.set_cons_succ, ↓reduceIte, Bool.false_eq_true, List.map_cons, List.map_nil, List.length_cons, List.length_nil, Bool.not_true, Bool.not_false]
    refine comp_if pc pc (fun c => decide (0 < (c.1 * 7 + c.2 * c.2) % 11)) M (fun c hc Q' N q1 q2 => ?_) (by unfold lim; omega) ?_
    · have hbc := hb' c hc
      rw [show pc c = .tuple [.int c.1, .int c.2] from rfl]
      simp only [wipeE, DL.evA, DL.evH, DL.evJ, DL.evM, DL.evQ, DL.evU, DL.evX, List.getElem?_cons_zero, List.getElem?_cons_succ, List.set_cons_zero, List.set_cons_succ, ↓reduceIte, Bool.false_eq_true, List.map_cons, List.map_nil, List.length_cons, List.length_nil, Bool.not_true, Bool.not_false]
      have s1 : small c.1 = true := small_iff.mpr (by omega)
      have s2 : small c.2 = true := small_iff.mpr (by omega)
      rw [s1, s2]
      refine ⟨rfl, rfl, rfl, ?_⟩
      by_cases h : 0 < (c.1 * 7 + c.2 * c.2) % 11
      · rw [decide_eq_true h, if_pos rfl]
        exact q1 (decide_eq_true h)
      · rw [decide_eq_false h, if_neg (by decide)]
        exact q2 (decide_eq_false h)
    · (repeat refine And.intro (by first | exact True.intro | exact Nat.le_of_ble_eq_true rfl | with_reducible_and_instances rfl | exact rfl | decide) ?_)
      exact q _ _ (nd'.filter _) (by have := List.length_filter_le (fun c : C2 => decide (0 < (c.1 * 7 + c.2 * c.2) % 11)) M; omega) (st4.mono (by omega))
  · (repeat refine And.intro (by first | exact True.intro | exact Nat.le_of_ble_eq_true rfl | with_reducible_and_instances rfl | exact rfl | decide) ?_)
    exact q M _ nd' (by omega) (st4.mono (by omega))
end LR
/-! LRA: what runs are. -/
namespace LR
open PySem PySem.Spec PyProof.Rows L2 DL
/-- each corner a step from the one ahead -/
def stepsOf : List C2 → Prop
  | a :: b :: cs => far1 a b = 1 ∧ stepsOf (b :: cs)
  | _ => True
theorem far1_stp {c : C2} {d : Int} (h : 0 ≤ d ∧ d < 8) : far1 c (stp c d) = 1 := by
  obtain ⟨n, rfl⟩ := Int.eq_ofNat_of_zero_le h.1
  have hn : n < 8 := by omega
  unfold far1 stp
  rcases lt8 hn with rfl | rfl | rfl | rfl | rfl | rfl | rfl | rfl <;> simp only [dv, dvs] <;> simp <;> omega
theorem walk_steps : ∀ (n : Nat) (os : List C2) (c : C2) (ord : List Int), (∀ t ∈ ord, 0 ≤ t ∧ t < 8) → stepsOf (c :: (walk n os c ord).1)
  | 0, _, _, _, _ => trivial
  | n + 1, os, c, ord, h => by
    cases e : nxt os c ord with
    | none => rw [walk_none e]; trivial
    | some d =>
      have e2 : walk (n + 1) os c ord = (stp c d :: (walk n (rm os (stp c d)) (stp c d) (turn d)).1, (walk n (rm os (stp c d)) (stp c d) (turn d)).2) := by
        show (match nxt os c ord with | none => _ | some d => _) = _
        rw [e]
      rw [e2]
      exact ⟨far1_stp (h d (nxt_in e).2), walk_steps n _ _ _ fun t ht => turn_bd ht⟩
theorem steps_snoc : ∀ {cs : List C2} {a b : C2}, stepsOf (a :: cs) → far1 ((a :: cs).getLast (List.cons_ne_nil _ _)) b = 1 → stepsOf (a :: (cs ++ [b]))
  | [], a, b, _, h => ⟨h, trivial⟩
  | x :: cs, a, b, h, h2 => by
    refine ⟨h.1, steps_snoc h.2 ?_⟩
    rw [List.getLast_cons (List.cons_ne_nil _ _)] at h2
    exact h2
theorem clos_steps {c : C2} {cs : List C2} (h : stepsOf (c :: cs)) : stepsOf (clos c cs) := by
  unfold clos
  split
  · rename_i k
    exact steps_snoc h k.2
  · exact h
theorem clos_len {c : C2} {cs : List C2} : (clos c cs).length ≤ cs.length + 2 := by
  unfold clos
  split
  · rw [List.length_append, List.length_cons, List.length_singleton]; omega
  · rw [List.length_cons]; omega
theorem clos_ne {c : C2} {cs : List C2} : clos c cs ≠ [] := by
  unfold clos
  split
  · exact List.cons_ne_nil _ _
  · exact List.cons_ne_nil _ _
theorem walk_in : ∀ (n : Nat) (os : List C2) (c : C2) (ord : List Int) (a : C2), a ∈ (walk n os c ord).1 → a ∈ os
  | 0, _, _, _, a, h => by cases h
  | n + 1, os, c, ord, a, h => by
    cases e : nxt os c ord with
    | none => rw [walk_none e] at h; cases h
    | some d =>
      have e2 : walk (n + 1) os c ord = (stp c d :: (walk n (rm os (stp c d)) (stp c d) (turn d)).1, (walk n (rm os (stp c d)) (stp c d) (turn d)).2) := by
        show (match nxt os c ord with | none => _ | some d => _) = _
        rw [e]
      rw [e2] at h
      rcases List.mem_cons.mp h with rfl | h
      · exact (nxt_in e).1
      · exact (rm_mem.mp (walk_in n _ _ _ a h)).1
theorem clos_in {c : C2} {cs : List C2} {a : C2} (h : a ∈ clos c cs) : a = c ∨ a ∈ cs := by
  unfold clos at h
  split at h
  · rcases List.mem_append.mp h with h | h
    · exact List.mem_cons.mp h
    · exact .inl (List.mem_singleton.mp h)
  · exact List.mem_cons.mp h
theorem rr_all : ∀ (cs os : List C2), ∀ r ∈ rr cs os, r.length ≤ os.length + 1 ∧ r ≠ [] ∧ stepsOf r ∧ ∀ a ∈ r, a ∈ os
  | [], _, r, h => by cases h
  | c :: cs, os, r, h => by
    unfold rr at h
    split at h
    · rename_i hc
      have h1 := walk_len os.length (rm os c) c ord8
      have h2 := rm_len hc
      rcases List.mem_cons.mp h with rfl | h
      · refine ⟨by have := clos_len (c := c) (cs := (walk os.length (rm os c) c ord8).1); omega, clos_ne, clos_steps (walk_steps _ _ _ _ fun t ht => ordOf_bd (a := none) ht), fun a ha => ?_⟩
        rcases clos_in ha with rfl | ha
        · exact hc
        · exact (rm_mem.mp (walk_in _ _ _ _ _ ha)).1
      · have := rr_all cs _ r h
        exact ⟨by omega, this.2.1, this.2.2.1, fun a ha => (rm_mem.mp (walk_sub _ _ _ _ _ (this.2.2.2 a ha))).1⟩
    · exact rr_all cs os r h
theorem okS_pc (c : C2) (j : Nat) : okS (j + 2) (pc c) = true := rfl
theorem okS_lcs {r : List C2} (h : r.length ≤ 100000) (j : Nat) : okS (j + 3) (lcs r) = true := by
  show ((r.map pc).all (okS (j + 2)) && decide ((r.map pc).length ≤ lim)) = true
  rw [List.all_map, List.length_map, Bool.and_eq_true, decide_eq_true_eq, List.all_eq_true]
  exact ⟨fun c _ => okS_pc c j, by unfold lim; omega⟩
theorem okS_runs {rs : List (List C2)} (h : rs.length ≤ 100000) (h2 : ∀ r ∈ rs, r.length ≤ 100000) : okS 4 (.list (rs.map lcs)) = true := by
  show ((rs.map lcs).all (okS 3) && decide ((rs.map lcs).length ≤ lim)) = true
  rw [List.all_map, List.length_map, Bool.and_eq_true, decide_eq_true_eq, List.all_eq_true]
  exact ⟨fun r hr => okS_lcs (h2 r hr) 0, by unfold lim; omega⟩
theorem runs_len (ps : List C2) : (runsOf ps).length ≤ ps.length := by
  have := rr_len (srt ps) ps
  rw [srt_len] at this
  exact this
end LR
namespace K29
open PySem PySem.Spec PyProof.Rows L2 DL LR
noncomputable def lwB : Sx := sSeq (sSet 3 (xA (gCallF m__law_points) (aCons (xVar 1) (aNil)))) (sSeq (sSet 4 (xA (gCallF m__law_take) (aCons (xVar 1) (aCons (xP (.int 30)) (aNil))))) (sSeq (sIf (tOfE (x2 (s2 (pIB fun i j => decide (i < j))) (xVar 4) (xP (.int 5)))) (sSeq (sSet 3 (xA gLst (aNil))) (sNil)) (sNil)) (sSeq (sIf (tAndX (tOfE (x2 (gEq false) (xVar 4) (xP (.int 29)))) (tOfE (x2 (gEq false) (xVar 2) (xP (.int 0))))) (sSeq (sSet 3 (xA (gCallF m__law_great_box) (aCons (xVar 1) (aNil)))) (sNil)) (sNil)) (sSeq (sIf (tNotX (tOfE (xA (gCallP (m__law_same 4)) (aCons (xA (gCallP m_runs) (aCons (xVar 3) (aNil))) (aCons (xA (gCallP m__law_runs) (aCons (xVar 3) (aNil))) (aNil)))))) (sSeq (sRet (xP (.bool false))) (sNil)) (sNil)) (sNil)))))
noncomputable def lwI : Sx := sSeq (sIf (tOfE (x2 (s2 (pIB fun i j => decide (i < j))) (xVar 4) (xP (.int 5)))) (sSeq (sSet 3 (xA gLst (aNil))) (sNil)) (sNil)) (sSeq (sIf (tAndX (tOfE (x2 (gEq false) (xVar 4) (xP (.int 29)))) (tOfE (x2 (gEq false) (xVar 2) (xP (.int 0))))) (sSeq (sSet 3 (xA (gCallF m__law_great_box) (aCons (xVar 1) (aNil)))) (sNil)) (sNil)) (sSeq (sIf (tNotX (tOfE (xA (gCallP (m__law_same 4)) (aCons (xA (gCallP m_runs) (aCons (xVar 3) (aNil))) (aCons (xA (gCallP m__law_runs) (aCons (xVar 3) (aNil))) (aNil)))))) (sSeq (sRet (xP (.bool false))) (sNil)) (sNil)) (sNil)))
noncomputable def lwF : Sx := sSeq (sIf (tNotX (tOfE (xA (gCallP (m__law_same 4)) (aCons (xA (gCallP m_runs) (aCons (xVar 3) (aNil))) (aCons (xA (gCallP m__law_runs) (aCons (xVar 3) (aNil))) (aNil)))))) (sSeq (sRet (xP (.bool false))) (sNil)) (sNil)) (sNil)
theorem lwB_eq : lwB = sSeq (sSet 3 (xA (gCallF m__law_points) (aCons (xVar 1) (aNil)))) (sSeq (sSet 4 (xA (gCallF m__law_take) (aCons (xVar 1) (aCons (xP (.int 30)) (aNil))))) lwI) := rfl
theorem blaw_eq : b_law = sSeq (sSet 1 (xA (gCallF m__law_begin) (aCons (xVar 0) (aNil)))) (sSeq (sFor (iRange1 (aCons (xP (.int 2)) (aNil))) (gNm 2) lwB) (sSeq (sRet (xP (.bool true))) (sNil))) := rfl
theorem fin_ok {L : List C2} {S : Sto} {e0 e1 e2 e4 : Option Sl} {Q : Out → Prop} (nd : L.Nodup) (hl : L.length ≤ 900) (q : Q (.nx [e0, e1, e2, some (.val (.pu (.list (L.map pc)))), e4] S)) : W (lwF [e0, e1, e2, some (.val (.pu (.list (L.map pc)))), e4] S) Q := by
  unfold lwF
  simp only [DL.evA, DL.evH, DL.evJ, DL.evM, DL.evQ, DL.evU, DL.evX, List.getElem?_cons_zero, List.getElem?_cons_succ, List.set_cons_zero, List.set_cons_succ, ↓reduceIte, Bool.false_eq_true, List.map_cons, List.map_nil, List.length_cons, List.length_nil, Bool.not_true, Bool.not_false]
  refine runs_ok (b := false) nd (by omega) (.inl rfl) ?_
  (try simp only [DL.evA, DL.evH, DL.evJ, DL.evM, DL.evQ, DL.evU, DL.evX, List.getElem?_cons_zero, List.getElem?_cons_succ, List.set_cons_zero, List.set_cons_succ, ↓reduceIte, Bool.false_eq_true, List.map_cons, List.map_nil, List.length_cons, List.length_nil, Bool.not_true, Bool.not_false])
  refine lruns_ok nd (by omega) ?_
  (try simp only [DL.evA, DL.evH, DL.evJ, DL.evM, DL.evQ, DL.evU, DL.evX, List.getElem?_cons_zero, List.getElem?_cons_succ, List.set_cons_zero, List.set_cons_succ, ↓reduceIte, Bool.false_eq_true, List.map_cons, List.map_nil, List.length_cons, List.length_nil, Bool.not_true, Bool.not_false])
  refine same_refl 4 _ (okS_runs (by have := runs_len L; omega) fun r hr => by have := (rr_all _ _ r hr).1; omega) _ ?_
  (try simp only [DL.evA, DL.evH, DL.evJ, DL.evM, DL.evQ, DL.evU, DL.evX, List.getElem?_cons_zero, List.getElem?_cons_succ, List.set_cons_zero, List.set_cons_succ, ↓reduceIte, Bool.false_eq_true, List.map_cons, List.map_nil, List.length_cons, List.length_nil, Bool.not_true, Bool.not_false])
  exact q
theorem law_go {d : D} (hb : W (m__law_begin [d] []) fun r => ∃ n c cells S', r = (.rf n, S') ∧ StA S' n c cells 0) (hn : noBo [d] = true) : ∃ r, m_law [d] [] = some r ∧ r.1 = .pu (.bool true) := by
  suffices h : W (m_law [d] []) fun r => r.1 = .pu (.bool true) by
    obtain ⟨r, h1, h2⟩ := h
    exact ⟨r, h1, h2⟩
  unfold m_law
  rw [w_runF]
  refine ⟨⟨rfl, by decide⟩, ?_⟩
  rw [show env0 5 [d] = some (.val d) :: List.replicate 4 none from rfl]
  rw [blaw_eq]
  simp only [DL.evA, DL.evH, DL.evJ, DL.evM, DL.evQ, DL.evU, DL.evX, List.getElem?_cons_zero, List.getElem?_cons_succ, List.set_cons_zero, List.set_cons_succ, ↓reduceIte, Bool.false_eq_true, List.map_cons, List.map_nil, List.length_cons, List.length_nil, Bool.not_true, Bool.not_false, List.replicate]
  refine ⟨by cases d <;> first | exact hn | rfl, hb.imp fun r hr => ?_⟩
  obtain ⟨n, c, cells, S', rfl, hst⟩ := hr
  have h0 : St S' n 0 := ⟨c, cells, 0, hst, by omega⟩
  (try simp only [DL.evA, DL.evH, DL.evJ, DL.evM, DL.evQ, DL.evU, DL.evX, List.getElem?_cons_zero, List.getElem?_cons_succ, List.set_cons_zero, List.set_cons_succ, ↓reduceIte, Bool.false_eq_true, List.map_cons, List.map_nil, List.length_cons, List.length_nil, Bool.not_true, Bool.not_false])
  (repeat refine And.intro (by first | exact True.intro | exact Nat.le_of_ble_eq_true rfl | with_reducible_and_instances rfl | exact rfl | decide) ?_)
  refine for_rng (fun i e S => ∃ (e2 e3 e4 : Option Sl), e = [some (.val d), some (.val (.rf n)), e2, e3, e4] ∧ DL.St S n (1000 * i)) ⟨_, _, _, rfl, h0.mono (by omega)⟩ ?_ ?_
  · rintro i e S hi1 hi2 ⟨e2, e3, e4, rfl, hs⟩
    rw [lwB_eq]
    simp only [DL.evA, DL.evH, DL.evJ, DL.evM, DL.evQ, DL.evU, DL.evX, List.getElem?_cons_zero, List.getElem?_cons_succ, List.set_cons_zero, List.set_cons_succ, ↓reduceIte, Bool.false_eq_true, List.map_cons, List.map_nil, List.length_cons, List.length_nil, Bool.not_true, Bool.not_false]
    (repeat refine And.intro (by first | exact True.intro | exact Nat.le_of_ble_eq_true rfl | with_reducible_and_instances rfl | exact rfl | decide) ?_)
    refine points_ok hs (by omega) fun L S1 nd hl _ hs1 => ?_
    simp only [DL.evA, DL.evH, DL.evJ, DL.evM, DL.evQ, DL.evU, DL.evX, List.getElem?_cons_zero, List.getElem?_cons_succ, List.set_cons_zero, List.set_cons_succ, ↓reduceIte, Bool.false_eq_true, List.map_cons, List.map_nil, List.length_cons, List.length_nil, Bool.not_true, Bool.not_false]
    (repeat refine And.intro (by first | exact True.intro | exact Nat.le_of_ble_eq_true rfl | with_reducible_and_instances rfl | exact rfl | decide) ?_)
    refine take_st hs1 (by omega) (by omega) (by omega) fun v S2 l_v u_v hs2 => ?_
    simp only [DL.evA, DL.evH, DL.evJ, DL.evM, DL.evQ, DL.evU, DL.evX, List.getElem?_cons_zero, List.getElem?_cons_succ, List.set_cons_zero, List.set_cons_succ, ↓reduceIte, Bool.false_eq_true, List.map_cons, List.map_nil, List.length_cons, List.length_nil, Bool.not_true, Bool.not_false]
    have two : ∀ {L : List C2}, L.Nodup → L.length ≤ 900 → W (lwI [some (.val d), some (.val (.rf n)), some (.val (.pu (.int i))), some (.val (.pu (.list (L.map pc)))), some (.val (.pu (.int v)))] S2) (loopQ (fun e S => ∃ (e2 e3 e4 : Option Sl), e = [some (.val d), some (.val (.rf n)), e2, e3, e4] ∧ DL.St S n (1000 * (i + 1))) (seqQ (sSeq (sRet (xP (.bool true))) (sNil)) (endQ fun r => r.1 = .pu (.bool true)))) := fun {L} nd hl => by
      have gr : ∀ {L : List C2}, L.Nodup → L.length ≤ 900 → (if decide (v = 29) = true then
          (true && true) = true ∧
            if decide (i = 0) = true then
              noBo [D.rf n] = true ∧
                W (m__law_great_box [D.rf n] S2) fun r =>
                  W (gNm 3 r.1 [some (Sl.val d), some (Sl.val (D.rf n)), some (Sl.val (D.pu (PyData.int i))), some (Sl.val (D.pu (PyData.list (L.map pc)))), some (Sl.val (D.pu (PyData.int v)))] r.2) fun q =>
                    W (lwF q.1 q.2) (loopQ (fun e S => ∃ (e2 e3 e4 : Option Sl), e = [some (.val d), some (.val (.rf n)), e2, e3, e4] ∧ DL.St S n (1000 * (i + 1))) (seqQ (sSeq (sRet (xP (.bool true))) (sNil)) (endQ fun r => r.1 = .pu (.bool true))))
            else W (lwF [some (Sl.val d), some (Sl.val (D.rf n)), some (Sl.val (D.pu (PyData.int i))), some (Sl.val (D.pu (PyData.list (L.map pc)))), some (Sl.val (D.pu (PyData.int v)))] S2) (loopQ (fun e S => ∃ (e2 e3 e4 : Option Sl), e = [some (.val d), some (.val (.rf n)), e2, e3, e4] ∧ DL.St S n (1000 * (i + 1))) (seqQ (sSeq (sRet (xP (.bool true))) (sNil)) (endQ fun r => r.1 = .pu (.bool true))))
        else W (lwF [some (Sl.val d), some (Sl.val (D.rf n)), some (Sl.val (D.pu (PyData.int i))), some (Sl.val (D.pu (PyData.list (L.map pc)))), some (Sl.val (D.pu (PyData.int v)))] S2) (loopQ (fun e S => ∃ (e2 e3 e4 : Option Sl), e = [some (.val d), some (.val (.rf n)), e2, e3, e4] ∧ DL.St S n (1000 * (i + 1))) (seqQ (sSeq (sRet (xP (.bool true))) (sNil)) (endQ fun r => r.1 = .pu (.bool true))))) := fun {L} nd hl => by
        refine both (fun _ => ⟨rfl, both (fun _ => ⟨rfl, ?_⟩) fun _ => ?_⟩) fun _ => ?_
        · refine great_ok hs2 (by omega) fun M S3 nd3 hl3 hs3 => ?_
          simp only [DL.evA, DL.evH, DL.evJ, DL.evM, DL.evQ, DL.evU, DL.evX, List.getElem?_cons_zero, List.getElem?_cons_succ, List.set_cons_zero, List.set_cons_succ, ↓reduceIte, Bool.false_eq_true, List.map_cons, List.map_nil, List.length_cons, List.length_nil, Bool.not_true, Bool.not_false]
          refine fin_ok nd3 hl3 ?_
          simp only [DL.evA, DL.evH, DL.evJ, DL.evM, DL.evQ, DL.evU, DL.evX, List.getElem?_cons_zero, List.getElem?_cons_succ, List.set_cons_zero, List.set_cons_succ, ↓reduceIte, Bool.false_eq_true, List.map_cons, List.map_nil, List.length_cons, List.length_nil, Bool.not_true, Bool.not_false]
          exact ⟨_, _, _, rfl, hs3.mono (by omega)⟩
        · refine fin_ok nd hl ?_
          simp only [DL.evA, DL.evH, DL.evJ, DL.evM, DL.evQ, DL.evU, DL.evX, List.getElem?_cons_zero, List.getElem?_cons_succ, List.set_cons_zero, List.set_cons_succ, ↓reduceIte, Bool.false_eq_true, List.map_cons, List.map_nil, List.length_cons, List.length_nil, Bool.not_true, Bool.not_false]
          exact ⟨_, _, _, rfl, hs2.mono (by omega)⟩
        · refine fin_ok nd hl ?_
          simp only [DL.evA, DL.evH, DL.evJ, DL.evM, DL.evQ, DL.evU, DL.evX, List.getElem?_cons_zero, List.getElem?_cons_succ, List.set_cons_zero, List.set_cons_succ, ↓reduceIte, Bool.false_eq_true, List.map_cons, List.map_nil, List.length_cons, List.length_nil, Bool.not_true, Bool.not_false]
          exact ⟨_, _, _, rfl, hs2.mono (by omega)⟩
      rw [show lwI = sSeq _ (sSeq _ lwF) from rfl]
      simp only [DL.evA, DL.evH, DL.evJ, DL.evM, DL.evQ, DL.evU, DL.evX, List.getElem?_cons_zero, List.getElem?_cons_succ, List.set_cons_zero, List.set_cons_succ, ↓reduceIte, Bool.false_eq_true, List.map_cons, List.map_nil, List.length_cons, List.length_nil, Bool.not_true, Bool.not_false]
      refine both (fun _ => ?_) fun _ => ?_
      · refine ⟨Nat.zero_le _, rfl, ?_⟩
        exact gr (L := []) List.nodup_nil (Nat.zero_le _)
      · (repeat refine And.intro (by first | exact True.intro | exact Nat.le_of_ble_eq_true rfl | with_reducible_and_instances rfl | exact rfl | decide) ?_)
        exact gr nd hl
    exact two nd (by omega)
  · rintro e S ⟨e2, e3, e4, rfl, hs⟩
    simp only [DL.evA, DL.evH, DL.evJ, DL.evM, DL.evQ, DL.evU, DL.evX, List.getElem?_cons_zero, List.getElem?_cons_succ, List.set_cons_zero, List.set_cons_succ, ↓reduceIte, Bool.false_eq_true, List.map_cons, List.map_nil, List.length_cons, List.length_nil, Bool.not_true, Bool.not_false]
    exact ⟨rfl, trivial⟩
theorem law_ok : scriptOk m_law := fun ns hl => by
  obtain ⟨r, h1, h2⟩ := law_go (begin_pu hl) rfl
  obtain ⟨r', h3, h4⟩ := law_go (begin_wr hl) rfl
  exact ⟨⟨r.2, by rw [h1, ← h2]⟩, r'.2, by rw [h3, ← h4]⟩
end K29
namespace K29
open PySem PySem.Spec PyProof.Rows L2 DL
theorem all_mk {l : PySem.W.OpenLaw} {w : World} {K : PySem.W.Frag} {h : Heap} {mg : Str → Option Value} {fa : Addr} {a__law_begin : Addr} {od__law_begin an__law_begin : Option Addr} {sl__law_begin : Array (Option Value)} {oc__law_begin kV__law_begin dc__law_begin pm__law_begin cd__law_begin ct__law_begin : Value} {a__law_take : Addr} {od__law_take an__law_take : Option Addr} {sl__law_take : Array (Option Value)} {oc__law_take kV__law_take dc__law_take pm__law_take cd__law_take ct__law_take : Value} {a__law_great_box : Addr} {od__law_great_box an__law_great_box : Option Addr} {sl__law_great_box : Array (Option Value)} {oc__law_great_box kV__law_great_box dc__law_great_box pm__law_great_box cd__law_great_box ct__law_great_box : Value} {a__law_points : Addr} {od__law_points an__law_points : Option Addr} {sl__law_points : Array (Option Value)} {oc__law_points kV__law_points dc__law_points pm__law_points cd__law_points ct__law_points : Value} {a__law_ways : Addr} {od__law_ways an__law_ways : Option Addr} {sl__law_ways : Array (Option Value)} {oc__law_ways kV__law_ways dc__law_ways pm__law_ways cd__law_ways ct__law_ways : Value} {a__law_runs : Addr} {od__law_runs an__law_runs : Option Addr} {sl__law_runs : Array (Option Value)} {oc__law_runs kV__law_runs dc__law_runs pm__law_runs cd__law_runs ct__law_runs : Value} {a__law_same : Addr} {od__law_same an__law_same : Option Addr} {sl__law_same : Array (Option Value)} {oc__law_same kV__law_same dc__law_same pm__law_same cd__law_same ct__law_same : Value} {a_sign_of : Addr} {od_sign_of an_sign_of : Option Addr} {sl_sign_of : Array (Option Value)} {oc_sign_of kV_sign_of dc_sign_of pm_sign_of cd_sign_of ct_sign_of : Value} {a_straight : Addr} {od_straight an_straight : Option Addr} {sl_straight : Array (Option Value)} {oc_straight kV_straight dc_straight pm_straight cd_straight ct_straight : Value} {a_is_step : Addr} {od_is_step an_is_step : Option Addr} {sl_is_step : Array (Option Value)} {oc_is_step kV_is_step dc_is_step pm_is_step cd_is_step ct_is_step : Value} {a_closed_run : Addr} {od_closed_run an_closed_run : Option Addr} {sl_closed_run : Array (Option Value)} {oc_closed_run kV_closed_run dc_closed_run pm_closed_run cd_closed_run ct_closed_run : Value} {a_directions_from : Addr} {od_directions_from an_directions_from : Option Addr} {sl_directions_from : Array (Option Value)} {oc_directions_from kV_directions_from dc_directions_from pm_directions_from cd_directions_from ct_directions_from : Value} {a_stepped : Addr} {od_stepped an_stepped : Option Addr} {sl_stepped : Array (Option Value)} {oc_stepped kV_stepped dc_stepped pm_stepped cd_stepped ct_stepped : Value} {a_next_direction : Addr} {od_next_direction an_next_direction : Option Addr} {sl_next_direction : Array (Option Value)} {oc_next_direction kV_next_direction dc_next_direction pm_next_direction cd_next_direction ct_next_direction : Value} {a_run_from : Addr} {od_run_from an_run_from : Option Addr} {sl_run_from : Array (Option Value)} {oc_run_from kV_run_from dc_run_from pm_run_from cd_run_from ct_run_from : Value} {a_runs : Addr} {od_runs an_runs : Option Addr} {sl_runs : Array (Option Value)} {oc_runs kV_runs dc_runs pm_runs cd_runs ct_runs : Value} {a_law : Addr} {od_law an_law : Option Addr} {sl_law : Array (Option Value)} {oc_law kV_law dc_law pm_law cd_law ct_law : Value} {tDIRECTIONS_corners_3 : Nat} {tDIRECTIONS_corners_4 : Nat} {aDIRECTIONS_corners_2 : Addr} {nDIRECTIONS_corners_2 : Nat} {sDIRECTIONS_corners_2 : Array (Option Value)} {tDIRECTIONS_corners_6 : Nat} {tDIRECTIONS_corners_7 : Nat} {aDIRECTIONS_corners_5 : Addr} {nDIRECTIONS_corners_5 : Nat} {sDIRECTIONS_corners_5 : Array (Option Value)} {tDIRECTIONS_corners_9 : Nat} {tDIRECTIONS_corners_10 : Nat} {aDIRECTIONS_corners_8 : Addr} {nDIRECTIONS_corners_8 : Nat} {sDIRECTIONS_corners_8 : Array (Option Value)} {tDIRECTIONS_corners_12 : Nat} {tDIRECTIONS_corners_13 : Nat} {aDIRECTIONS_corners_11 : Addr} {nDIRECTIONS_corners_11 : Nat} {sDIRECTIONS_corners_11 : Array (Option Value)} {tDIRECTIONS_corners_15 : Nat} {tDIRECTIONS_corners_16 : Nat} {aDIRECTIONS_corners_14 : Addr} {nDIRECTIONS_corners_14 : Nat} {sDIRECTIONS_corners_14 : Array (Option Value)} {tDIRECTIONS_corners_18 : Nat} {tDIRECTIONS_corners_19 : Nat} {aDIRECTIONS_corners_17 : Addr} {nDIRECTIONS_corners_17 : Nat} {sDIRECTIONS_corners_17 : Array (Option Value)} {tDIRECTIONS_corners_21 : Nat} {tDIRECTIONS_corners_22 : Nat} {aDIRECTIONS_corners_20 : Addr} {nDIRECTIONS_corners_20 : Nat} {sDIRECTIONS_corners_20 : Array (Option Value)} {tDIRECTIONS_corners_24 : Nat} {tDIRECTIONS_corners_25 : Nat} {aDIRECTIONS_corners_23 : Addr} {nDIRECTIONS_corners_23 : Nat} {sDIRECTIONS_corners_23 : Array (Option Value)} {aDIRECTIONS_corners_1 : Addr} {nDIRECTIONS_corners_1 : Nat} {sDIRECTIONS_corners_1 : Array (Option Value)} {tDIRECTIONS_runs_1 : Nat} {tLEAST_CLOSED_1 : Nat} {tTURNS_2 : Nat} {tTURNS_3 : Nat} {tTURNS_4 : Nat} {tTURNS_5 : Nat} {tTURNS_6 : Nat} {tTURNS_7 : Nat} {tTURNS_8 : Nat} {aTURNS_1 : Addr} {nTURNS_1 : Nat} {sTURNS_1 : Array (Option Value)} (X : K.In h) (G : h.Ns mainGlobals mg) (hfa : mg "law" = some (.ref fa))
    (a1__law_begin : PySem.W.nsIn K mainGlobals "_law_begin" = some (some (.ref a__law_begin)))
    (l1__law_begin : K.lookup a__law_begin = some ⟨oc__law_begin, od__law_begin, .func (PySem.W.fnOf "_law_begin" "_law_begin" (defArgs s__law_begin) (defBody s__law_begin) (defScope s__law_begin) .none kV__law_begin dc__law_begin pm__law_begin an__law_begin cd__law_begin ct__law_begin), sl__law_begin⟩)
    (c1__law_begin : PySem.W.codeIn K cd__law_begin "_law_begin" = true)
    (k1__law_begin : PySem.W.keepIn K (.ref a__law_begin) = true)
    (a1__law_take : PySem.W.nsIn K mainGlobals "_law_take" = some (some (.ref a__law_take)))
    (l1__law_take : K.lookup a__law_take = some ⟨oc__law_take, od__law_take, .func (PySem.W.fnOf "_law_take" "_law_take" (defArgs s__law_take) (defBody s__law_take) (defScope s__law_take) .none kV__law_take dc__law_take pm__law_take an__law_take cd__law_take ct__law_take), sl__law_take⟩)
    (c1__law_take : PySem.W.codeIn K cd__law_take "_law_take" = true)
    (k1__law_take : PySem.W.keepIn K (.ref a__law_take) = true)
    (a1__law_great_box : PySem.W.nsIn K mainGlobals "_law_great_box" = some (some (.ref a__law_great_box)))
    (l1__law_great_box : K.lookup a__law_great_box = some ⟨oc__law_great_box, od__law_great_box, .func (PySem.W.fnOf "_law_great_box" "_law_great_box" (defArgs s__law_great_box) (defBody s__law_great_box) (defScope s__law_great_box) .none kV__law_great_box dc__law_great_box pm__law_great_box an__law_great_box cd__law_great_box ct__law_great_box), sl__law_great_box⟩)
    (c1__law_great_box : PySem.W.codeIn K cd__law_great_box "_law_great_box" = true)
    (k1__law_great_box : PySem.W.keepIn K (.ref a__law_great_box) = true)
    (a1__law_points : PySem.W.nsIn K mainGlobals "_law_points" = some (some (.ref a__law_points)))
    (l1__law_points : K.lookup a__law_points = some ⟨oc__law_points, od__law_points, .func (PySem.W.fnOf "_law_points" "_law_points" (defArgs s__law_points) (defBody s__law_points) (defScope s__law_points) .none kV__law_points dc__law_points pm__law_points an__law_points cd__law_points ct__law_points), sl__law_points⟩)
    (c1__law_points : PySem.W.codeIn K cd__law_points "_law_points" = true)
    (k1__law_points : PySem.W.keepIn K (.ref a__law_points) = true)
    (a1__law_ways : PySem.W.nsIn K mainGlobals "_law_ways" = some (some (.ref a__law_ways)))
    (l1__law_ways : K.lookup a__law_ways = some ⟨oc__law_ways, od__law_ways, .func (PySem.W.fnOf "_law_ways" "_law_ways" (defArgs s__law_ways) (defBody s__law_ways) (defScope s__law_ways) .none kV__law_ways dc__law_ways pm__law_ways an__law_ways cd__law_ways ct__law_ways), sl__law_ways⟩)
    (c1__law_ways : PySem.W.codeIn K cd__law_ways "_law_ways" = true)
    (k1__law_ways : PySem.W.keepIn K (.ref a__law_ways) = true)
    (a1__law_runs : PySem.W.nsIn K mainGlobals "_law_runs" = some (some (.ref a__law_runs)))
    (l1__law_runs : K.lookup a__law_runs = some ⟨oc__law_runs, od__law_runs, .func (PySem.W.fnOf "_law_runs" "_law_runs" (defArgs s__law_runs) (defBody s__law_runs) (defScope s__law_runs) .none kV__law_runs dc__law_runs pm__law_runs an__law_runs cd__law_runs ct__law_runs), sl__law_runs⟩)
    (c1__law_runs : PySem.W.codeIn K cd__law_runs "_law_runs" = true)
    (k1__law_runs : PySem.W.keepIn K (.ref a__law_runs) = true)
    (a1__law_same : PySem.W.nsIn K mainGlobals "_law_same" = some (some (.ref a__law_same)))
    (l1__law_same : K.lookup a__law_same = some ⟨oc__law_same, od__law_same, .func (PySem.W.fnOf "_law_same" "_law_same" (defArgs s__law_same) (defBody s__law_same) (defScope s__law_same) .none kV__law_same dc__law_same pm__law_same an__law_same cd__law_same ct__law_same), sl__law_same⟩)
    (c1__law_same : PySem.W.codeIn K cd__law_same "_law_same" = true)
    (k1__law_same : PySem.W.keepIn K (.ref a__law_same) = true)
    (a1_sign_of : PySem.W.nsIn K mainGlobals "sign_of" = some (some (.ref a_sign_of)))
    (l1_sign_of : K.lookup a_sign_of = some ⟨oc_sign_of, od_sign_of, .func (PySem.W.fnOf "sign_of" "sign_of" (defArgs s_sign_of) (defBody s_sign_of) (defScope s_sign_of) .none kV_sign_of dc_sign_of pm_sign_of an_sign_of cd_sign_of ct_sign_of), sl_sign_of⟩)
    (c1_sign_of : PySem.W.codeIn K cd_sign_of "sign_of" = true)
    (k1_sign_of : PySem.W.keepIn K (.ref a_sign_of) = true)
    (a1_straight : PySem.W.nsIn K mainGlobals "straight" = some (some (.ref a_straight)))
    (l1_straight : K.lookup a_straight = some ⟨oc_straight, od_straight, .func (PySem.W.fnOf "straight" "straight" (defArgs s_straight) (defBody s_straight) (defScope s_straight) .none kV_straight dc_straight pm_straight an_straight cd_straight ct_straight), sl_straight⟩)
    (c1_straight : PySem.W.codeIn K cd_straight "straight" = true)
    (k1_straight : PySem.W.keepIn K (.ref a_straight) = true)
    (a1_is_step : PySem.W.nsIn K mainGlobals "is_step" = some (some (.ref a_is_step)))
    (l1_is_step : K.lookup a_is_step = some ⟨oc_is_step, od_is_step, .func (PySem.W.fnOf "is_step" "is_step" (defArgs s_is_step) (defBody s_is_step) (defScope s_is_step) .none kV_is_step dc_is_step pm_is_step an_is_step cd_is_step ct_is_step), sl_is_step⟩)
    (c1_is_step : PySem.W.codeIn K cd_is_step "is_step" = true)
    (k1_is_step : PySem.W.keepIn K (.ref a_is_step) = true)
    (a1_closed_run : PySem.W.nsIn K mainGlobals "closed_run" = some (some (.ref a_closed_run)))
    (l1_closed_run : K.lookup a_closed_run = some ⟨oc_closed_run, od_closed_run, .func (PySem.W.fnOf "closed_run" "closed_run" (defArgs s_closed_run) (defBody s_closed_run) (defScope s_closed_run) .none kV_closed_run dc_closed_run pm_closed_run an_closed_run cd_closed_run ct_closed_run), sl_closed_run⟩)
    (c1_closed_run : PySem.W.codeIn K cd_closed_run "closed_run" = true)
    (k1_closed_run : PySem.W.keepIn K (.ref a_closed_run) = true)
    (a1_directions_from : PySem.W.nsIn K mainGlobals "directions_from" = some (some (.ref a_directions_from)))
    (l1_directions_from : K.lookup a_directions_from = some ⟨oc_directions_from, od_directions_from, .func (PySem.W.fnOf "directions_from" "directions_from" (defArgs s_directions_from) (defBody s_directions_from) (defScope s_directions_from) .none kV_directions_from dc_directions_from pm_directions_from an_directions_from cd_directions_from ct_directions_from), sl_directions_from⟩)
    (c1_directions_from : PySem.W.codeIn K cd_directions_from "directions_from" = true)
    (k1_directions_from : PySem.W.keepIn K (.ref a_directions_from) = true)
    (a1_stepped : PySem.W.nsIn K mainGlobals "stepped" = some (some (.ref a_stepped)))
    (l1_stepped : K.lookup a_stepped = some ⟨oc_stepped, od_stepped, .func (PySem.W.fnOf "stepped" "stepped" (defArgs s_stepped) (defBody s_stepped) (defScope s_stepped) .none kV_stepped dc_stepped pm_stepped an_stepped cd_stepped ct_stepped), sl_stepped⟩)
    (c1_stepped : PySem.W.codeIn K cd_stepped "stepped" = true)
    (k1_stepped : PySem.W.keepIn K (.ref a_stepped) = true)
    (a1_next_direction : PySem.W.nsIn K mainGlobals "next_direction" = some (some (.ref a_next_direction)))
    (l1_next_direction : K.lookup a_next_direction = some ⟨oc_next_direction, od_next_direction, .func (PySem.W.fnOf "next_direction" "next_direction" (defArgs s_next_direction) (defBody s_next_direction) (defScope s_next_direction) .none kV_next_direction dc_next_direction pm_next_direction an_next_direction cd_next_direction ct_next_direction), sl_next_direction⟩)
    (c1_next_direction : PySem.W.codeIn K cd_next_direction "next_direction" = true)
    (k1_next_direction : PySem.W.keepIn K (.ref a_next_direction) = true)
    (a1_run_from : PySem.W.nsIn K mainGlobals "run_from" = some (some (.ref a_run_from)))
    (l1_run_from : K.lookup a_run_from = some ⟨oc_run_from, od_run_from, .func (PySem.W.fnOf "run_from" "run_from" (defArgs s_run_from) (defBody s_run_from) (defScope s_run_from) .none kV_run_from dc_run_from pm_run_from an_run_from cd_run_from ct_run_from), sl_run_from⟩)
    (c1_run_from : PySem.W.codeIn K cd_run_from "run_from" = true)
    (k1_run_from : PySem.W.keepIn K (.ref a_run_from) = true)
    (a1_runs : PySem.W.nsIn K mainGlobals "runs" = some (some (.ref a_runs)))
    (l1_runs : K.lookup a_runs = some ⟨oc_runs, od_runs, .func (PySem.W.fnOf "runs" "runs" (defArgs s_runs) (defBody s_runs) (defScope s_runs) .none kV_runs dc_runs pm_runs an_runs cd_runs ct_runs), sl_runs⟩)
    (c1_runs : PySem.W.codeIn K cd_runs "runs" = true)
    (k1_runs : PySem.W.keepIn K (.ref a_runs) = true)
    (a1_law : PySem.W.nsIn K mainGlobals "law" = some (some (.ref a_law)))
    (l1_law : K.lookup a_law = some ⟨oc_law, od_law, .func (PySem.W.fnOf "law" "law" (defArgs s_law) (defBody s_law) (defScope s_law) .none kV_law dc_law pm_law an_law cd_law ct_law), sl_law⟩)
    (c1_law : PySem.W.codeIn K cd_law "law" = true)
    (k1_law : PySem.W.keepIn K (.ref a_law) = true)
    (y_abs : PySem.W.nsIn K mainGlobals "abs" = some none)
    (y_all : PySem.W.nsIn K mainGlobals "all" = some none)
    (y_bool : PySem.W.nsIn K mainGlobals "bool" = some none)
    (y_dict : PySem.W.nsIn K mainGlobals "dict" = some none)
    (y_divmod : PySem.W.nsIn K mainGlobals "divmod" = some none)
    (y_int : PySem.W.nsIn K mainGlobals "int" = some none)
    (y_isinstance : PySem.W.nsIn K mainGlobals "isinstance" = some none)
    (y_len : PySem.W.nsIn K mainGlobals "len" = some none)
    (y_list : PySem.W.nsIn K mainGlobals "list" = some none)
    (y_max : PySem.W.nsIn K mainGlobals "max" = some none)
    (y_range : PySem.W.nsIn K mainGlobals "range" = some none)
    (y_sorted : PySem.W.nsIn K mainGlobals "sorted" = some none)
    (y_str : PySem.W.nsIn K mainGlobals "str" = some none)
    (y_tuple : PySem.W.nsIn K mainGlobals "tuple" = some none)
    (y_zip : PySem.W.nsIn K mainGlobals "zip" = some none)
    (g_DIRECTIONS_corners : PySem.W.nsIn K mainGlobals "DIRECTIONS_corners" = some (some (.ref aDIRECTIONS_corners_1)))
    (lDIRECTIONS_corners_1 : K.lookup aDIRECTIONS_corners_1 = some ⟨.type "tuple", none, .seq #[(.ref aDIRECTIONS_corners_2), (.ref aDIRECTIONS_corners_5), (.ref aDIRECTIONS_corners_8), (.ref aDIRECTIONS_corners_11), (.ref aDIRECTIONS_corners_14), (.ref aDIRECTIONS_corners_17), (.ref aDIRECTIONS_corners_20), (.ref aDIRECTIONS_corners_23)] nDIRECTIONS_corners_1, sDIRECTIONS_corners_1⟩)
    (lDIRECTIONS_corners_2 : K.lookup aDIRECTIONS_corners_2 = some ⟨.type "tuple", none, .seq #[(.int 1 tDIRECTIONS_corners_3), (.int 0 tDIRECTIONS_corners_4)] nDIRECTIONS_corners_2, sDIRECTIONS_corners_2⟩)
    (lDIRECTIONS_corners_5 : K.lookup aDIRECTIONS_corners_5 = some ⟨.type "tuple", none, .seq #[(.int 1 tDIRECTIONS_corners_6), (.int 1 tDIRECTIONS_corners_7)] nDIRECTIONS_corners_5, sDIRECTIONS_corners_5⟩)
    (lDIRECTIONS_corners_8 : K.lookup aDIRECTIONS_corners_8 = some ⟨.type "tuple", none, .seq #[(.int 0 tDIRECTIONS_corners_9), (.int 1 tDIRECTIONS_corners_10)] nDIRECTIONS_corners_8, sDIRECTIONS_corners_8⟩)
    (lDIRECTIONS_corners_11 : K.lookup aDIRECTIONS_corners_11 = some ⟨.type "tuple", none, .seq #[(.int (-1) tDIRECTIONS_corners_12), (.int 1 tDIRECTIONS_corners_13)] nDIRECTIONS_corners_11, sDIRECTIONS_corners_11⟩)
    (lDIRECTIONS_corners_14 : K.lookup aDIRECTIONS_corners_14 = some ⟨.type "tuple", none, .seq #[(.int (-1) tDIRECTIONS_corners_15), (.int 0 tDIRECTIONS_corners_16)] nDIRECTIONS_corners_14, sDIRECTIONS_corners_14⟩)
    (lDIRECTIONS_corners_17 : K.lookup aDIRECTIONS_corners_17 = some ⟨.type "tuple", none, .seq #[(.int (-1) tDIRECTIONS_corners_18), (.int (-1) tDIRECTIONS_corners_19)] nDIRECTIONS_corners_17, sDIRECTIONS_corners_17⟩)
    (lDIRECTIONS_corners_20 : K.lookup aDIRECTIONS_corners_20 = some ⟨.type "tuple", none, .seq #[(.int 0 tDIRECTIONS_corners_21), (.int (-1) tDIRECTIONS_corners_22)] nDIRECTIONS_corners_20, sDIRECTIONS_corners_20⟩)
    (lDIRECTIONS_corners_23 : K.lookup aDIRECTIONS_corners_23 = some ⟨.type "tuple", none, .seq #[(.int 1 tDIRECTIONS_corners_24), (.int (-1) tDIRECTIONS_corners_25)] nDIRECTIONS_corners_23, sDIRECTIONS_corners_23⟩)
    (g_DIRECTIONS_runs : PySem.W.nsIn K mainGlobals "DIRECTIONS_runs" = some (some (.int 8 tDIRECTIONS_runs_1)))
    (g_LEAST_CLOSED : PySem.W.nsIn K mainGlobals "LEAST_CLOSED" = some (some (.int 3 tLEAST_CLOSED_1)))
    (g_TURNS : PySem.W.nsIn K mainGlobals "TURNS" = some (some (.ref aTURNS_1)))
    (lTURNS_1 : K.lookup aTURNS_1 = some ⟨.type "tuple", none, .seq #[(.int 0 tTURNS_2), (.int 1 tTURNS_3), (.int (-1) tTURNS_4), (.int 2 tTURNS_5), (.int (-2) tTURNS_6), (.int 3 tTURNS_7), (.int (-3) tTURNS_8)] nTURNS_1, sTURNS_1⟩) :
    ∃ fd : FuncData, (∀ (s : Shared) (v : Value), BindsTo s fd ⟨[v], []⟩ [("_law_script", v)]) ∧ ∀ base : Heap, K.In base → base.Ns mainGlobals mg → FnOk l.prog w K mg base CX0 6 fa fd ["_law_script"] (SpF K (fun _ => none) 1 m_law) := by
  have e := hfa.symm.trans (PySem.W.mg_of X G a1_law)
  cases e
  have z_abs := PySem.W.mg_none_of X G y_abs
  have z_all := PySem.W.mg_none_of X G y_all
  have z_bool := PySem.W.mg_none_of X G y_bool
  have z_dict := PySem.W.mg_none_of X G y_dict
  have z_divmod := PySem.W.mg_none_of X G y_divmod
  have z_int := PySem.W.mg_none_of X G y_int
  have z_isinstance := PySem.W.mg_none_of X G y_isinstance
  have z_len := PySem.W.mg_none_of X G y_len
  have z_list := PySem.W.mg_none_of X G y_list
  have z_max := PySem.W.mg_none_of X G y_max
  have z_range := PySem.W.mg_none_of X G y_range
  have z_sorted := PySem.W.mg_none_of X G y_sorted
  have z_str := PySem.W.mg_none_of X G y_str
  have z_tuple := PySem.W.mg_none_of X G y_tuple
  have z_zip := PySem.W.mg_none_of X G y_zip
  have c_DIRECTIONS_corners : KC K mg "DIRECTIONS_corners" p_DIRECTIONS_corners := ⟨⟨_, _, PySem.W.mg_of X G g_DIRECTIONS_corners, (relR aDIRECTIONS_corners_1), (.tup lDIRECTIONS_corners_1 rfl rfl rfl (Nat.le_of_ble_eq_true rfl) (.cons (relR aDIRECTIONS_corners_2) (.cons (relR aDIRECTIONS_corners_5) (.cons (relR aDIRECTIONS_corners_8) (.cons (relR aDIRECTIONS_corners_11) (.cons (relR aDIRECTIONS_corners_14) (.cons (relR aDIRECTIONS_corners_17) (.cons (relR aDIRECTIONS_corners_20) (.cons (relR aDIRECTIONS_corners_23) .nil)))))))) (.cons (.tup lDIRECTIONS_corners_2 rfl rfl rfl (Nat.le_of_ble_eq_true rfl) (.cons relI (.cons relI .nil)) (.cons (.int 1) (.cons (.int 0) .nil))) (.cons (.tup lDIRECTIONS_corners_5 rfl rfl rfl (Nat.le_of_ble_eq_true rfl) (.cons relI (.cons relI .nil)) (.cons (.int 1) (.cons (.int 1) .nil))) (.cons (.tup lDIRECTIONS_corners_8 rfl rfl rfl (Nat.le_of_ble_eq_true rfl) (.cons relI (.cons relI .nil)) (.cons (.int 0) (.cons (.int 1) .nil))) (.cons (.tup lDIRECTIONS_corners_11 rfl rfl rfl (Nat.le_of_ble_eq_true rfl) (.cons relI (.cons relI .nil)) (.cons (.int (-1)) (.cons (.int 1) .nil))) (.cons (.tup lDIRECTIONS_corners_14 rfl rfl rfl (Nat.le_of_ble_eq_true rfl) (.cons relI (.cons relI .nil)) (.cons (.int (-1)) (.cons (.int 0) .nil))) (.cons (.tup lDIRECTIONS_corners_17 rfl rfl rfl (Nat.le_of_ble_eq_true rfl) (.cons relI (.cons relI .nil)) (.cons (.int (-1)) (.cons (.int (-1)) .nil))) (.cons (.tup lDIRECTIONS_corners_20 rfl rfl rfl (Nat.le_of_ble_eq_true rfl) (.cons relI (.cons relI .nil)) (.cons (.int 0) (.cons (.int (-1)) .nil))) (.cons (.tup lDIRECTIONS_corners_23 rfl rfl rfl (Nat.le_of_ble_eq_true rfl) (.cons relI (.cons relI .nil)) (.cons (.int 1) (.cons (.int (-1)) .nil))) .nil)))))))))⟩⟩
  have c_DIRECTIONS_runs : KC K mg "DIRECTIONS_runs" p_DIRECTIONS_runs := ⟨⟨_, _, PySem.W.mg_of X G g_DIRECTIONS_runs, relI, (.int 8)⟩⟩
  have c_LEAST_CLOSED : KC K mg "LEAST_CLOSED" p_LEAST_CLOSED := ⟨⟨_, _, PySem.W.mg_of X G g_LEAST_CLOSED, relI, (.int 3)⟩⟩
  have c_TURNS : KC K mg "TURNS" p_TURNS := ⟨⟨_, _, PySem.W.mg_of X G g_TURNS, (relR aTURNS_1), (.tup lTURNS_1 rfl rfl rfl (Nat.le_of_ble_eq_true rfl) (.cons relI (.cons relI (.cons relI (.cons relI (.cons relI (.cons relI (.cons relI .nil))))))) (.cons (.int 0) (.cons (.int 1) (.cons (.int (-1)) (.cons (.int 2) (.cons (.int (-2)) (.cons (.int 3) (.cons (.int (-3)) .nil))))))))⟩⟩
  refine ⟨PySem.W.fnOf "law" "law" (defArgs s_law) (defBody s_law) (defScope s_law) .none kV_law dc_law pm_law an_law cd_law ct_law, fun s v => .of_eq rfl, fun base _ _ => ?_⟩
  have F__law_begin := fun_mk (st := s__law_begin) l1__law_begin c1__law_begin k1__law_begin
  have G__law_begin := Callee.mk' F__law_begin (ok__law_begin (Pg := l.prog) (w := w) (mg := mg) (base := base) (cl := fun _ => none) F__law_begin z_list) (PySem.W.mg_of X G a1__law_begin) (fun _ _ _ _ _ _ us hl => match us, hl with | [_], _ => rfl)
  have F__law_take := fun_mk (st := s__law_take) l1__law_take c1__law_take k1__law_take
  have G__law_take := Callee.mk' F__law_take (ok__law_take (Pg := l.prog) (w := w) (mg := mg) (base := base) (cl := fun _ => none) F__law_take z_divmod z_len) (PySem.W.mg_of X G a1__law_take) (fun _ _ _ _ _ _ us hl => match us, hl with | [_, _], _ => rfl)
  have F__law_great_box := fun_mk (st := s__law_great_box) l1__law_great_box c1__law_great_box k1__law_great_box
  have G__law_great_box := Callee.mk' F__law_great_box (ok__law_great_box (Pg := l.prog) (w := w) (mg := mg) (base := base) (cl := fun _ => none) F__law_great_box z_range G__law_take) (PySem.W.mg_of X G a1__law_great_box) (fun _ _ _ _ _ _ us hl => match us, hl with | [_], _ => rfl)
  have F__law_points := fun_mk (st := s__law_points) l1__law_points c1__law_points k1__law_points
  have G__law_points := Callee.mk' F__law_points (ok__law_points (Pg := l.prog) (w := w) (mg := mg) (base := base) (cl := fun _ => none) F__law_points z_len z_range G__law_take) (PySem.W.mg_of X G a1__law_points) (fun _ _ _ _ _ _ us hl => match us, hl with | [_], _ => rfl)
  have F__law_ways := fun_mk (st := s__law_ways) l1__law_ways c1__law_ways k1__law_ways
  have G__law_ways := Callee.mk' F__law_ways (ok__law_ways (Pg := l.prog) (w := w) (mg := mg) (base := base) (cl := fun _ => none) F__law_ways ) (PySem.W.mg_of X G a1__law_ways) (fun _ _ _ _ _ _ us hl => match us, hl with | [], _ => rfl)
  have F__law_runs := fun_mk (st := s__law_runs) l1__law_runs c1__law_runs k1__law_runs
  have G__law_runs := Callee.mk' F__law_runs (ok__law_runs (Pg := l.prog) (w := w) (mg := mg) (base := base) (cl := fun _ => none) F__law_runs z_abs z_dict z_len z_list z_max z_range z_sorted G__law_ways) (PySem.W.mg_of X G a1__law_runs) (fun _ _ _ _ _ _ us hl => match us, hl with | [_], _ => rfl)
  have F__law_same := fun_mk (st := s__law_same) l1__law_same c1__law_same k1__law_same
  have G__law_same := Callee.mk' F__law_same (ok__law_same (Pg := l.prog) (w := w) (mg := mg) (base := base) (cl := fun _ => none) F__law_same (PySem.W.mg_of X G a1__law_same) z_all z_bool z_dict z_int z_isinstance z_len z_list z_str z_tuple z_zip 4) (PySem.W.mg_of X G a1__law_same) (fun _ _ _ _ _ _ us hl => match us, hl with | [_, _], _ => rfl)
  have F_sign_of := fun_mk (st := s_sign_of) l1_sign_of c1_sign_of k1_sign_of
  have G_sign_of := Callee.mk' F_sign_of (ok_sign_of (Pg := l.prog) (w := w) (mg := mg) (base := base) (cl := fun _ => none) F_sign_of z_int) (PySem.W.mg_of X G a1_sign_of) (fun _ _ _ _ _ _ us hl => match us, hl with | [_], _ => rfl)
  have F_straight := fun_mk (st := s_straight) l1_straight c1_straight k1_straight
  have G_straight := Callee.mk' F_straight (ok_straight (Pg := l.prog) (w := w) (mg := mg) (base := base) (cl := fun _ => none) F_straight z_abs z_max c_DIRECTIONS_corners G_sign_of) (PySem.W.mg_of X G a1_straight) (fun _ _ _ _ _ _ us hl => match us, hl with | [_, _], _ => rfl)
  have F_is_step := fun_mk (st := s_is_step) l1_is_step c1_is_step k1_is_step
  have G_is_step := Callee.mk' F_is_step (ok_is_step (Pg := l.prog) (w := w) (mg := mg) (base := base) (cl := fun _ => none) F_is_step G_straight) (PySem.W.mg_of X G a1_is_step) (fun _ _ _ _ _ _ us hl => match us, hl with | [_, _], _ => rfl)
  have F_closed_run := fun_mk (st := s_closed_run) l1_closed_run c1_closed_run k1_closed_run
  have G_closed_run := Callee.mk' F_closed_run (ok_closed_run (Pg := l.prog) (w := w) (mg := mg) (base := base) (cl := fun _ => none) F_closed_run z_len c_LEAST_CLOSED G_is_step) (PySem.W.mg_of X G a1_closed_run) (fun _ _ _ _ _ _ us hl => match us, hl with | [_], _ => rfl)
  have F_directions_from := fun_mk (st := s_directions_from) l1_directions_from c1_directions_from k1_directions_from
  have G_directions_from := Callee.mk' F_directions_from (ok_directions_from (Pg := l.prog) (w := w) (mg := mg) (base := base) (cl := fun _ => none) F_directions_from z_list z_range c_DIRECTIONS_runs c_TURNS) (PySem.W.mg_of X G a1_directions_from) (fun _ _ _ _ _ _ us hl => match us, hl with | [_], _ => rfl)
  have F_stepped := fun_mk (st := s_stepped) l1_stepped c1_stepped k1_stepped
  have G_stepped := Callee.mk' F_stepped (ok_stepped (Pg := l.prog) (w := w) (mg := mg) (base := base) (cl := fun _ => none) F_stepped c_DIRECTIONS_corners) (PySem.W.mg_of X G a1_stepped) (fun _ _ _ _ _ _ us hl => match us, hl with | [_, _, _], _ => rfl)
  have F_next_direction := fun_mk (st := s_next_direction) l1_next_direction c1_next_direction k1_next_direction
  have G_next_direction := Callee.mk' F_next_direction (ok_next_direction (Pg := l.prog) (w := w) (mg := mg) (base := base) (cl := fun _ => none) F_next_direction G_directions_from G_stepped) (PySem.W.mg_of X G a1_next_direction) (fun _ _ _ _ _ _ us hl => match us, hl with | [_, _, _], _ => rfl)
  have F_run_from := fun_mk (st := s_run_from) l1_run_from c1_run_from k1_run_from
  have G_run_from := Callee.mk' F_run_from (ok_run_from (Pg := l.prog) (w := w) (mg := mg) (base := base) (cl := fun _ => none) F_run_from G_next_direction G_stepped) (PySem.W.mg_of X G a1_run_from) (fun _ _ _ _ _ _ us hl => match us, hl with | [_, _], _ => rfl)
  have F_runs := fun_mk (st := s_runs) l1_runs c1_runs k1_runs
  have G_runs := Callee.mk' F_runs (ok_runs (Pg := l.prog) (w := w) (mg := mg) (base := base) (cl := fun _ => none) F_runs z_list z_sorted z_tuple G_closed_run G_run_from) (PySem.W.mg_of X G a1_runs) (fun _ _ _ _ _ _ us hl => match us, hl with | [_], _ => rfl)
  have F_law := fun_mk (st := s_law) l1_law c1_law k1_law
  exact ok_law (Pg := l.prog) (w := w) (mg := mg) (base := base) (cl := fun _ => none) F_law z_range G__law_begin G__law_great_box G__law_points G__law_runs G__law_same G__law_take G_runs
end K29
open PySem PySem.W PyProof.Rows
theorem PySem.Challenge.cw_millpath_k29_runs_walked_holds : PySem.Challenge.rw_millpath_k29_runs_walked.Holds := by
  w_on; o_law; k_head; (case hw => w_witness2)
  k_fill
  refine L2.walk_of (l := PySem.Challenge.rw_millpath_k29_runs_walked) (n := 63) (k := 6) (x := "_law_script") (CX := fun _ => L2.CX0) (sp := fun w => DL.SpF _ (fun _ => none) 1 K29.m_law) rfl (by decide) rfl ⟨rfl, by decide, by decide⟩ (fun w h Y => PySem.W.kIn_of Y) ?F (fun _ _ a ns hl hO hS => DL.sp_law K29.law_ok hl hO hS) (fun _ _ _ _ _ h => h)
  case F =>
    intro w mg fa h KX G hmg
    refine' K29.all_mk KX G hmg ?a1__law_begin ?l1__law_begin ?c1__law_begin ?k1__law_begin ?a1__law_take ?l1__law_take ?c1__law_take ?k1__law_take ?a1__law_great_box ?l1__law_great_box ?c1__law_great_box ?k1__law_great_box ?a1__law_points ?l1__law_points ?c1__law_points ?k1__law_points ?a1__law_ways ?l1__law_ways ?c1__law_ways ?k1__law_ways ?a1__law_runs ?l1__law_runs ?c1__law_runs ?k1__law_runs ?a1__law_same ?l1__law_same ?c1__law_same ?k1__law_same ?a1_sign_of ?l1_sign_of ?c1_sign_of ?k1_sign_of ?a1_straight ?l1_straight ?c1_straight ?k1_straight ?a1_is_step ?l1_is_step ?c1_is_step ?k1_is_step ?a1_closed_run ?l1_closed_run ?c1_closed_run ?k1_closed_run ?a1_directions_from ?l1_directions_from ?c1_directions_from ?k1_directions_from ?a1_stepped ?l1_stepped ?c1_stepped ?k1_stepped ?a1_next_direction ?l1_next_direction ?c1_next_direction ?k1_next_direction ?a1_run_from ?l1_run_from ?c1_run_from ?k1_run_from ?a1_runs ?l1_runs ?c1_runs ?k1_runs ?a1_law ?l1_law ?c1_law ?k1_law ?y_abs ?y_all ?y_bool ?y_dict ?y_divmod ?y_int ?y_isinstance ?y_len ?y_list ?y_max ?y_range ?y_sorted ?y_str ?y_tuple ?y_zip ?g_DIRECTIONS_corners ?lDIRECTIONS_corners_1 ?lDIRECTIONS_corners_2 ?lDIRECTIONS_corners_5 ?lDIRECTIONS_corners_8 ?lDIRECTIONS_corners_11 ?lDIRECTIONS_corners_14 ?lDIRECTIONS_corners_17 ?lDIRECTIONS_corners_20 ?lDIRECTIONS_corners_23 ?g_DIRECTIONS_runs ?g_LEAST_CLOSED ?g_TURNS ?lTURNS_1
    (case a1__law_begin => k_is); (case l1__law_begin => k_is); (case c1__law_begin => k_is); (case k1__law_begin => k_is); (case a1__law_take => k_is); (case l1__law_take => k_is); (case c1__law_take => k_is); (case k1__law_take => k_is); (case a1__law_great_box => k_is); (case l1__law_great_box => k_is); (case c1__law_great_box => k_is); (case k1__law_great_box => k_is); (case a1__law_points => k_is); (case l1__law_points => k_is); (case c1__law_points => k_is); (case k1__law_points => k_is); (case a1__law_ways => k_is); (case l1__law_ways => k_is); (case c1__law_ways => k_is); (case k1__law_ways => k_is); (case a1__law_runs => k_is); (case l1__law_runs => k_is); (case c1__law_runs => k_is); (case k1__law_runs => k_is); (case a1__law_same => k_is); (case l1__law_same => k_is); (case c1__law_same => k_is); (case k1__law_same => k_is); (case a1_sign_of => k_is); (case l1_sign_of => k_is); (case c1_sign_of => k_is); (case k1_sign_of => k_is); (case a1_straight => k_is); (case l1_straight => k_is); (case c1_straight => k_is); (case k1_straight => k_is); (case a1_is_step => k_is); (case l1_is_step => k_is); (case c1_is_step => k_is); (case k1_is_step => k_is); (case a1_closed_run => k_is); (case l1_closed_run => k_is); (case c1_closed_run => k_is); (case k1_closed_run => k_is); (case a1_directions_from => k_is); (case l1_directions_from => k_is); (case c1_directions_from => k_is); (case k1_directions_from => k_is); (case a1_stepped => k_is); (case l1_stepped => k_is); (case c1_stepped => k_is); (case k1_stepped => k_is); (case a1_next_direction => k_is); (case l1_next_direction => k_is); (case c1_next_direction => k_is); (case k1_next_direction => k_is); (case a1_run_from => k_is); (case l1_run_from => k_is); (case c1_run_from => k_is); (case k1_run_from => k_is); (case a1_runs => k_is); (case l1_runs => k_is); (case c1_runs => k_is); (case k1_runs => k_is); (case a1_law => k_is); (case l1_law => k_is); (case c1_law => k_is); (case k1_law => k_is); (case y_abs => k_is); (case y_all => k_is); (case y_bool => k_is); (case y_dict => k_is); (case y_divmod => k_is); (case y_int => k_is); (case y_isinstance => k_is); (case y_len => k_is); (case y_list => k_is); (case y_max => k_is); (case y_range => k_is); (case y_sorted => k_is); (case y_str => k_is); (case y_tuple => k_is); (case y_zip => k_is); (case g_DIRECTIONS_corners => k_is); (case lDIRECTIONS_corners_1 => k_is); (case lDIRECTIONS_corners_2 => k_is); (case lDIRECTIONS_corners_5 => k_is); (case lDIRECTIONS_corners_8 => k_is); (case lDIRECTIONS_corners_11 => k_is); (case lDIRECTIONS_corners_14 => k_is); (case lDIRECTIONS_corners_17 => k_is); (case lDIRECTIONS_corners_20 => k_is); (case lDIRECTIONS_corners_23 => k_is); (case g_DIRECTIONS_runs => k_is); (case g_LEAST_CLOSED => k_is); (case g_TURNS => k_is); (case lTURNS_1 => k_is)
