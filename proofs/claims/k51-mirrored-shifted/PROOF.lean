import PyProof.Rows.All
import Wide.All
import OpenK.AllK
import Wide.FinOn
import KE.KStateDown
import Lean
import HandS.ForMost
import HandS.More
import HandS.WordsExc
import HandS.Defaults
import HandS.Flow
import HandS.Star
import HandS.ClsMeth
import HandS.Property
import HandS.IsInst
import HandS.Wide
import HandS.WideBits
import HandS.Style
import HandS.TupAny
import HandS.SortInts
import HandS.Head0
import HandS.Head1
import HandS.Head2
import HandS.HeadEnd
import HandS.HeadHook1
import HandS.HeadHook2
import KE.GoesEnum
import HandS.SlotsOwn
import HandS.EndBits
import PySem.Challenge.RW_drawnrings_k51_whole_rails_mirrored_and
set_option Elab.async false
set_option linter.all false
set_option maxRecDepth 100000
set_option maxHeartbeats 0
/-! GA: values without a heap (D), a store of changing objects, and how they lie in the abstract heap of the hand layer. -/
namespace Gn
open PySem PySem.Spec PyProof.Rows L2

inductive D where
  | non | bl (b : Bool) | int (i : Int) | str (x : Str) | ty (n : String) | nm (x : Str)
  | tup (xs : List D) | lst (xs : List D) | ins (c : Str) (fs : List (Str × D)) | cell (k : Nat)
  | lsc (xs : List D)
  deriving Inhabited

mutual
/-- no changing object in it -/
def D.pure : D → Bool
  | .cell _ => false
  | .tup xs => pures xs
  | .lst xs => pures xs
  | .lsc xs => pures xs
  | .ins _ fs => pureFs fs
  | _ => true
def pures : List D → Bool
  | [] => true
  | d :: ds => d.pure && pures ds
def pureFs : List (Str × D) → Bool
  | [] => true
  | (_, d) :: ds => d.pure && pureFs ds
end
/-- a changing object: a list or an instance; frz, frzi: changed no more, gone into a value -/
inductive Cell where
  | lst (xs : List D) | ins (c : Str) (fs : List (Str × D)) | frz (xs : List D) | frzi (c : Str) (fs : List (Str × D))
  deriving Inhabited
abbrev Sto := List Cell
structure Exn where
  cls : Str
  fs : List (Str × D)
inductive Res (α : Type) where
  | ok (a : α) (s : Sto)
  | ex (x : Exn) (s : Sto)
  | bad
def Res.bind {α β : Type} (r : Res α) (f : α → Sto → Res β) : Res β := match r with
  | .ok a s => f a s
  | .ex x s => .ex x s
  | .bad => .bad
abbrev M (α : Type) := Sto → Res α
abbrev Env := List (Option D)
@[simp] theorem bind_ok {α β : Type} (a : α) (s : Sto) (f : α → Sto → Res β) : (Res.ok a s).bind f = f a s := rfl
@[simp] theorem bind_ex {α β : Type} (x : Exn) (s : Sto) (f : α → Sto → Res β) : (Res.ex x s : Res α).bind f = .ex x s := rfl
@[simp] theorem bind_bad {α β : Type} (f : α → Sto → Res β) : (Res.bad : Res α).bind f = .bad := rfl
theorem bind_assoc {α β γ : Type} (r : Res α) (f : α → Sto → Res β) (g : β → Sto → Res γ) : (r.bind f).bind g = r.bind fun a s => (f a s).bind g := by
  cases r <;> rfl
def Post {α : Type} (r : Res α) (P : α → Sto → Prop) (E : Exn → Sto → Prop) : Prop := match r with
  | .ok a s => P a s
  | .ex x s => E x s
  | .bad => False
theorem post_bind {α β : Type} {r : Res α} {f : α → Sto → Res β} {P : β → Sto → Prop} {E : Exn → Sto → Prop} (h : Post (r.bind f) P E) : Post r (fun a s => Post (f a s) P E) E := by
  cases r <;> exact h
theorem Post.mono {α : Type} {r : Res α} {P P' : α → Sto → Prop} {E E' : Exn → Sto → Prop} (h : Post r P E) (hp : ∀ a s, P a s → P' a s) (he : ∀ x s, E x s → E' x s) : Post r P' E' := by
  cases r with
  | ok a s => exact hp a s h
  | ex x s => exact he x s h
  | bad => exact h

/-! ### how values lie in the heap -/
/-- rho: the addresses of the changing objects; F: the heap's part that changes no more; Z: what belongs to others, and stays -/
structure Wd where
  rho : List Addr
  F : Hp
  Z : Hp
def Wd.le (w w' : Wd) : Prop := w.rho <+: w'.rho ∧ Same w.F w'.F ∧ w'.Z = w.Z
theorem Wd.le.refl (w : Wd) : w.le w := ⟨List.prefix_refl _, Same.refl _, rfl⟩
theorem Wd.le.trans {a b c : Wd} (h : a.le b) (k : b.le c) : a.le c := ⟨h.1.trans k.1, h.2.1.trans k.2.1, k.2.2.trans h.2.2⟩

section
variable (K : PySem.W.Frag) (mg : Str → Option Value)
mutual
def RelD (w : Wd) : D → V → Prop
  | .non, v => v = .non
  | .bl b, v => v = .bl b
  | .int i, v => v = .int i
  | .str x, v => v = .str x
  | .ty n, v => v = .ty n
  | .nm x, v => ∃ a, v = .ref a ∧ mg x = some (.ref a)
  | .tup ds, v => ∃ a vs, v = .ref a ∧ SqT K w.F a vs ∧ RelDs w ds vs
  | .lst ds, v => ∃ a vs, v = .ref a ∧ Rd w.F a (.lst vs) ∧ RelDs w ds vs
  | .ins c fs, v => ∃ a C dx vs, v = .ref a ∧ mg c = some (.ref C) ∧ w.F a = some (.ins C dx vs) ∧ RelFs w fs vs
  | .cell k, v => ∃ a, v = .ref a ∧ w.rho[k]? = some a
  | .lsc ds, v => ∃ a vs, v = .ref a ∧ SqL K w.F a vs ∧ RelDs w ds vs
def RelDs (w : Wd) : List D → List V → Prop
  | [], vs => vs = []
  | d :: ds, vs => ∃ v r, vs = v :: r ∧ RelD w d v ∧ RelDs w ds r
def RelFs (w : Wd) : List (Str × D) → List (Str × V) → Prop
  | [], vs => vs = []
  | (f, d) :: ds, vs => ∃ v r, vs = (f, v) :: r ∧ RelD w d v ∧ RelFs w ds r
end
end
section
variable {K : PySem.W.Frag} {mg : Str → Option Value}
theorem sqT_mono {H H' : Hp} (e : Same H H') {a : Addr} {xs : List V} (h : SqT K H a xs) : SqT K H' a xs := by
  rcases h with (h | ⟨o, h⟩) | h
  · exact .inl (.inl (e _ _ h))
  · exact .inl (.inr ⟨o, e _ _ h⟩)
  · exact .inr h
theorem rd_mono {H H' : Hp} (e : Same H H') {a : Addr} {u : HO} (h : Rd H a u) : Rd H' a u := by
  rcases h with h | ⟨o, h⟩
  · exact .inl (e _ _ h)
  · exact .inr ⟨o, e _ _ h⟩
mutual
theorem RelD.lf {w w' : Wd} (h : w.rho <+: w'.rho ∧ Same w.F w'.F) : ∀ {d : D} {v : V}, RelD K mg w d v → RelD K mg w' d v
  | .non, _, r => r
  | .bl _, _, r => r
  | .int _, _, r => r
  | .str _, _, r => r
  | .ty _, _, r => r
  | .nm _, _, r => r
  | .tup ds, _, ⟨a, vs, e, q, r⟩ => ⟨a, vs, e, sqT_mono h.2 q, RelDs.lf h r⟩
  | .lst ds, _, ⟨a, vs, e, q, r⟩ => ⟨a, vs, e, rd_mono h.2 q, RelDs.lf h r⟩
  | .lsc ds, _, ⟨a, vs, e, q, r⟩ => ⟨a, vs, e, h.2.seq q, RelDs.lf h r⟩
  | .ins c fs, _, ⟨a, C, dx, vs, e, m, q, r⟩ => ⟨a, C, dx, vs, e, m, h.2 _ _ q, RelFs.lf h r⟩
  | .cell k, _, ⟨a, e, q⟩ => ⟨a, e, by
      obtain ⟨t, ht⟩ := h.1
      rw [← ht, List.getElem?_append_left (List.getElem?_eq_some_iff.mp q).1]
      exact q⟩
theorem RelDs.lf {w w' : Wd} (h : w.rho <+: w'.rho ∧ Same w.F w'.F) : ∀ {ds : List D} {vs : List V}, RelDs K mg w ds vs → RelDs K mg w' ds vs
  | [], _, r => r
  | _ :: _, _, ⟨v, r, e, q, z⟩ => ⟨v, r, e, RelD.lf h q, RelDs.lf h z⟩
theorem RelFs.lf {w w' : Wd} (h : w.rho <+: w'.rho ∧ Same w.F w'.F) : ∀ {ds : List (Str × D)} {vs : List (Str × V)}, RelFs K mg w ds vs → RelFs K mg w' ds vs
  | [], _, r => r
  | (_, _) :: _, _, ⟨v, r, e, q, z⟩ => ⟨v, r, e, RelD.lf h q, RelFs.lf h z⟩
end
theorem RelD.mono {w w' : Wd} (h : w.le w') {d : D} {v : V} (r : RelD K mg w d v) : RelD K mg w' d v := RelD.lf ⟨h.1, h.2.1⟩ r
theorem RelDs.mono {w w' : Wd} (h : w.le w') {d : List D} {v : List V} (r : RelDs K mg w d v) : RelDs K mg w' d v := RelDs.lf ⟨h.1, h.2.1⟩ r
theorem RelFs.mono {w w' : Wd} (h : w.le w') {d : List (Str × D)} {v : List (Str × V)} (r : RelFs K mg w d v) : RelFs K mg w' d v := RelFs.lf ⟨h.1, h.2.1⟩ r
mutual
theorem RelD.pure {w w' : Wd} (hF : Same w.F w'.F) : ∀ {d : D} {v : V}, d.pure = true → RelD K mg w d v → RelD K mg w' d v
  | .non, _, _, r => r
  | .bl _, _, _, r => r
  | .int _, _, _, r => r
  | .str _, _, _, r => r
  | .ty _, _, _, r => r
  | .nm _, _, _, r => r
  | .tup ds, _, h, ⟨a, vs, e, q, r⟩ => ⟨a, vs, e, sqT_mono hF q, RelDs.pure hF (by simpa [D.pure] using h) r⟩
  | .lst ds, _, h, ⟨a, vs, e, q, r⟩ => ⟨a, vs, e, rd_mono hF q, RelDs.pure hF (by simpa [D.pure] using h) r⟩
  | .lsc ds, _, h, ⟨a, vs, e, q, r⟩ => ⟨a, vs, e, hF.seq q, RelDs.pure hF (by simpa [D.pure] using h) r⟩
  | .ins c fs, _, h, ⟨a, C, dx, vs, e, m, q, r⟩ => ⟨a, C, dx, vs, e, m, hF _ _ q, RelFs.pure hF (by simpa [D.pure] using h) r⟩
  | .cell k, _, h, _ => by simp [D.pure] at h
theorem RelDs.pure {w w' : Wd} (hF : Same w.F w'.F) : ∀ {ds : List D} {vs : List V}, pures ds = true → RelDs K mg w ds vs → RelDs K mg w' ds vs
  | [], _, _, r => r
  | d :: ds, _, h, ⟨v, r, e, q, z⟩ => by
    have h' : d.pure = true ∧ pures ds = true := by simpa [pures] using h
    exact ⟨v, r, e, RelD.pure hF h'.1 q, RelDs.pure hF h'.2 z⟩
theorem RelFs.pure {w w' : Wd} (hF : Same w.F w'.F) : ∀ {ds : List (Str × D)} {vs : List (Str × V)}, pureFs ds = true → RelFs K mg w ds vs → RelFs K mg w' ds vs
  | [], _, _, r => r
  | (f, d) :: ds, _, h, ⟨v, r, e, q, z⟩ => by
    have h' : d.pure = true ∧ pureFs ds = true := by simpa [pureFs] using h
    exact ⟨v, r, e, RelD.pure hF h'.1 q, RelFs.pure hF h'.2 z⟩
end
theorem RelDs.length {w : Wd} : ∀ {ds : List D} {vs : List V}, RelDs K mg w ds vs → vs.length = ds.length
  | [], _, r => by rw [r]; rfl
  | d :: ds, _, ⟨v, r, e, _, z⟩ => by rw [e, List.length_cons, List.length_cons, RelDs.length z]
theorem RelDs.get {w : Wd} : ∀ {ds : List D} {vs : List V} {i : Nat} {d : D}, RelDs K mg w ds vs → ds[i]? = some d → ∃ v, vs[i]? = some v ∧ RelD K mg w d v
  | [], _, _, _, _, h => by simp at h
  | d :: ds, _, 0, _, ⟨v, r, e, q, _⟩, h => by
    subst e
    cases h
    exact ⟨v, rfl, q⟩
  | d :: ds, _, i + 1, _, ⟨v, r, e, _, z⟩, h => by
    subst e
    exact RelDs.get (i := i) z (by simpa using h)
theorem RelDs.append {w : Wd} : ∀ {ds es : List D} {vs us : List V}, RelDs K mg w ds vs → RelDs K mg w es us → RelDs K mg w (ds ++ es) (vs ++ us)
  | [], _, _, _, r, q => by rw [show _ = [] from r]; exact q
  | d :: ds, _, _, _, ⟨v, r, e, a, z⟩, q => by
    subst e
    exact ⟨v, _, rfl, a, RelDs.append z q⟩
theorem RelDs.one {w : Wd} {d : D} {v : V} (h : RelD K mg w d v) : RelDs K mg w [d] [v] := ⟨v, [], rfl, h, rfl⟩
theorem RelDs.take {w : Wd} : ∀ {ds : List D} {vs : List V} (n : Nat), RelDs K mg w ds vs → RelDs K mg w (ds.take n) (vs.take n)
  | _, _, 0, _ => by simp [RelDs]
  | [], _, _ + 1, r => by rw [show _ = [] from r]; rfl
  | d :: ds, _, n + 1, ⟨v, r, e, a, z⟩ => by
    subst e
    exact ⟨v, _, rfl, a, RelDs.take n z⟩
theorem RelDs.drop {w : Wd} : ∀ {ds : List D} {vs : List V} (n : Nat), RelDs K mg w ds vs → RelDs K mg w (ds.drop n) (vs.drop n)
  | _, _, 0, r => r
  | [], _, _ + 1, r => by rw [show _ = [] from r]; rfl
  | d :: ds, _, n + 1, ⟨v, r, e, a, z⟩ => by
    subst e
    exact RelDs.drop n z
theorem RelDs.set {w : Wd} {d : D} {v : V} (h : RelD K mg w d v) : ∀ {ds : List D} {vs : List V} (i : Nat), RelDs K mg w ds vs → RelDs K mg w (ds.set i d) (vs.set i v)
  | [], _, _, r => by rw [show _ = [] from r]; rfl
  | _ :: ds, _, 0, ⟨u, r, e, a, z⟩ => by
    subst e
    exact ⟨v, r, rfl, h, z⟩
  | _ :: ds, _, i + 1, ⟨u, r, e, a, z⟩ => by
    subst e
    exact ⟨u, _, rfl, a, RelDs.set h i z⟩
theorem RelDs.rev {w : Wd} : ∀ {ds : List D} {vs : List V}, RelDs K mg w ds vs → RelDs K mg w ds.reverse vs.reverse
  | [], _, r => by rw [show _ = [] from r]; rfl
  | _ :: ds, _, ⟨u, r, e, a, z⟩ => by
    subst e
    rw [List.reverse_cons, List.reverse_cons]
    exact RelDs.append (RelDs.rev z) (RelDs.one a)
theorem RelDs.ints {w : Wd} : ∀ {ns : List Int} {vs : List V}, RelDs K mg w (ns.map D.int) vs → vs = ns.map V.int
  | [], _, r => r
  | n :: ns, _, ⟨v, r, e, a, z⟩ => by
    subst e
    cases a
    rw [RelDs.ints z]
    rfl
theorem RelDs.bls {w : Wd} : ∀ {ns : List Bool} {vs : List V}, RelDs K mg w (ns.map D.bl) vs → vs = ns.map V.bl
  | [], _, r => r
  | n :: ns, _, ⟨v, r, e, a, z⟩ => by
    subst e
    cases a
    rw [RelDs.bls z]
    rfl
theorem RelDs.strs {w : Wd} : ∀ {ns : List Str} {vs : List V}, RelDs K mg w (ns.map D.str) vs → vs = ns.map V.str
  | [], _, r => r
  | n :: ns, _, ⟨v, r, e, a, z⟩ => by
    subst e
    cases a
    rw [RelDs.strs z]
    rfl
theorem RelDs.of_ints {w : Wd} : ∀ (ns : List Int), RelDs K mg w (ns.map D.int) (ns.map V.int)
  | [] => rfl
  | n :: ns => ⟨_, _, rfl, rfl, RelDs.of_ints ns⟩
theorem RelDs.of_strs {w : Wd} : ∀ (ns : List Str), RelDs K mg w (ns.map D.str) (ns.map V.str)
  | [] => rfl
  | n :: ns => ⟨_, _, rfl, rfl, RelDs.of_strs ns⟩
theorem RelFs.lookup {w : Wd} {f : Str} : ∀ {fs : List (Str × D)} {vs : List (Str × V)} {d : D}, RelFs K mg w fs vs → fs.lookup f = some d → ∃ v, vs.lookup f = some v ∧ RelD K mg w d v
  | [], _, _, _, h => by cases h
  | (g, d) :: fs, _, _, ⟨v, r, e, a, z⟩, h => by
    subst e
    rw [List.lookup_cons] at h ⊢
    cases q : (f == g) with
    | true =>
      rw [q] at h
      cases h
      exact ⟨v, rfl, a⟩
    | false =>
      rw [q] at h
      exact RelFs.lookup z h
theorem RelFs.lookup_none {w : Wd} {f : Str} : ∀ {fs : List (Str × D)} {vs : List (Str × V)}, RelFs K mg w fs vs → fs.lookup f = none → vs.lookup f = none
  | [], _, r, _ => by rw [show _ = [] from r]; rfl
  | (g, d) :: fs, _, ⟨v, r, e, a, z⟩, h => by
    subst e
    rw [List.lookup_cons] at h ⊢
    cases q : (f == g) with
    | true =>
      rw [q] at h
      cases h
    | false =>
      rw [q] at h
      exact RelFs.lookup_none z h
theorem RelFs.length {w : Wd} : ∀ {ds : List (Str × D)} {vs : List (Str × V)}, RelFs K mg w ds vs → vs.length = ds.length
  | [], _, r => by rw [r]; rfl
  | (_, d) :: ds, _, ⟨v, r, e, _, z⟩ => by rw [e, List.length_cons, List.length_cons, RelFs.length z]
end
/-- an attribute stored -/
def putD (f : Str) (d : D) : List (Str × D) → List (Str × D)
  | [] => [(f, d)]
  | (g, e) :: r => if g = f then (f, d) :: r else (g, e) :: putD f d r
section
variable {K : PySem.W.Frag} {mg : Str → Option Value}
theorem RelFs.put {w : Wd} {f : Str} {d : D} {v : V} (h : RelD K mg w d v) : ∀ {fs : List (Str × D)} {vs : List (Str × V)}, RelFs K mg w fs vs → RelFs K mg w (putD f d fs) (putF f v vs)
  | [], _, r => by rw [show _ = [] from r]; exact ⟨v, [], rfl, h, rfl⟩
  | (g, e) :: fs, _, ⟨u, r, eq, a, z⟩ => by
    subst eq
    unfold putD putF
    by_cases q : g = f
    · subst q
      rw [if_pos rfl, if_pos rfl]
      exact ⟨v, r, rfl, h, z⟩
    · rw [if_neg q, if_neg q]
      exact ⟨u, _, rfl, a, RelFs.put h z⟩
end

section
variable (K : PySem.W.Frag) (mg : Str → Option Value)
def CellOk (w : Wd) (H : Hp) (a : Addr) : Cell → Prop
  | .lst ds => w.F a = none ∧ pures ds = true ∧ ∃ vs, H a = some (.lst vs) ∧ RelDs K mg w ds vs
  | .ins c fs => w.F a = none ∧ pureFs fs = true ∧ ∃ C dx vs, mg c = some (.ref C) ∧ H a = some (.ins C dx vs) ∧ RelFs K mg w fs vs
  | .frz ds => pures ds = true ∧ ∃ vs, w.F a = some (.lst vs) ∧ RelDs K mg w ds vs
  | .frzi c fs => pureFs fs = true ∧ ∃ C dx vs, mg c = some (.ref C) ∧ w.F a = some (.ins C dx vs) ∧ RelFs K mg w fs vs
structure Rep (w : Wd) (S : Sto) (H : Hp) : Prop where
  same : Same w.F H
  sameZ : Same w.Z H
  len : w.rho.length = S.length
  nd : w.rho.Nodup
  has : ∀ a ∈ w.rho, H a ≠ none
  fz : ∀ a, w.Z a ≠ none → w.F a = none ∧ a ∉ w.rho
  cell : ∀ (k : Nat) (a : Addr) (c : Cell), w.rho[k]? = some a → S[k]? = some c → CellOk K mg w H a c
end
section
variable {K : PySem.W.Frag} {mg : Str → Option Value} {w w' : Wd} {S : Sto} {H : Hp} {p a : Addr} {o : HO} {k : Nat} {c : Cell} {ds : List D} {vs : List V} {cl : Str} {fs : List (Str × D)} {fv : List (Str × V)}
theorem CellOk.mono {H' : Hp} (h : CellOk K mg w H a c) (le : w.le w') (hF : w.F a = none → w'.F a = none) (hH : w.F a = none → H' a = H a) : CellOk K mg w' H' a c := by
  cases c with
  | lst ds => exact ⟨hF h.1, by
      obtain ⟨_, p, vs, e, r⟩ := id h
      exact ⟨p, vs, by rw [hH h.1]; exact e, RelDs.mono le r⟩⟩
  | ins cl fs => exact ⟨hF h.1, by
      obtain ⟨_, p, C, dx, vs, m, e, r⟩ := id h
      exact ⟨p, C, dx, vs, m, by rw [hH h.1]; exact e, RelFs.mono le r⟩⟩
  | frz ds => obtain ⟨p, vs, e, r⟩ := h; exact ⟨p, vs, le.2.1 _ _ e, RelDs.mono le r⟩
  | frzi cl fs => obtain ⟨p, C, dx, vs, m, e, r⟩ := h; exact ⟨p, C, dx, vs, m, le.2.1 _ _ e, RelFs.mono le r⟩
/-- the cell's address -/
theorem Rep.addr (R : Rep K mg w S H) (h : S[k]? = some c) : ∃ a, w.rho[k]? = some a ∧ CellOk K mg w H a c := by
  have hk : k < S.length := (List.getElem?_eq_some_iff.mp h).1
  have hk2 : k < w.rho.length := by rw [R.len]; exact hk
  exact ⟨w.rho[k], by simp [hk2], R.cell k _ c (by simp [hk2]) h⟩
/-- a new object that will not change -/
theorem Rep.laid (R : Rep K mg w S H) (hp : H p = none) (o : HO) : Rep K mg ⟨w.rho, upd w.F p o, w.Z⟩ S (upd H p o) ∧ w.le ⟨w.rho, upd w.F p o, w.Z⟩ := by
  have hF : w.F p = none := R.same.free hp
  have le : w.le ⟨w.rho, upd w.F p o, w.Z⟩ := ⟨List.prefix_refl _, fun b u e => by
    show upd w.F p o b = some u
    rw [upd_ne (ne_of_none e hF)]; exact e, rfl⟩
  have nr : ∀ a ∈ w.rho, a ≠ p := fun a ha z => R.has a ha (by rw [z]; exact hp)
  refine ⟨⟨fun b u e => ?_, fun b u e => ?_, R.len, R.nd, fun a ha => ?_, fun a ha => ?_, fun k a c h1 h2 => ?_⟩, le⟩
  · show upd H p o b = some u
    have e' : upd w.F p o b = some u := e
    by_cases q : b = p
    · subst q
      rw [upd_same] at e' ⊢
      exact e'
    · rw [upd_ne q] at e' ⊢
      exact R.same b u e'
  · rw [upd_ne (ne_of_none (R.sameZ b u e) hp)]
    exact R.sameZ b u e
  · rw [upd_ne (nr a ha)]
    exact R.has a ha
  · obtain ⟨h1, h2⟩ := R.fz a ha
    refine ⟨?_, h2⟩
    have : a ≠ p := by
      rintro rfl
      cases q : w.Z a with
      | none => exact ha q
      | some u => rw [R.sameZ a u q] at hp; cases hp
    show upd w.F p o a = none
    rw [upd_ne this]
    exact h1
  · have hm : a ∈ w.rho := List.mem_of_getElem? h1
    exact (R.cell k a c h1 h2).mono le (fun z => by show upd w.F p o a = none; rw [upd_ne (nr a hm)]; exact z) fun _ => upd_ne (nr a hm)
/-- a new object of no account -/
theorem Rep.junk (R : Rep K mg w S H) (hp : H p = none) (o : HO) : Rep K mg w S (upd H p o) := by
  have nr : ∀ a ∈ w.rho, a ≠ p := fun a ha z => R.has a ha (by rw [z]; exact hp)
  refine ⟨fun b u e => ?_, fun b u e => ?_, R.len, R.nd, fun a ha => ?_, R.fz, fun k a c h1 h2 => ?_⟩
  · rw [upd_ne (ne_of_none (R.same b u e) hp)]
    exact R.same b u e
  · rw [upd_ne (ne_of_none (R.sameZ b u e) hp)]
    exact R.sameZ b u e
  · rw [upd_ne (nr a ha)]
    exact R.has a ha
  · have hm : a ∈ w.rho := List.mem_of_getElem? h1
    exact (R.cell k a c h1 h2).mono (.refl w) (fun z => z) fun _ => upd_ne (nr a hm)
/-- a new object that may change -/
theorem Rep.newcell (R : Rep K mg w S H) (hp : H p = none) {o : HO} {c : Cell} (hc : CellOk K mg ⟨w.rho ++ [p], w.F, w.Z⟩ (upd H p o) p c) :
    Rep K mg ⟨w.rho ++ [p], w.F, w.Z⟩ (S ++ [c]) (upd H p o) ∧ w.le ⟨w.rho ++ [p], w.F, w.Z⟩ := by
  have le : w.le ⟨w.rho ++ [p], w.F, w.Z⟩ := ⟨List.prefix_append _ _, Same.refl _, rfl⟩
  have nr : ∀ a ∈ w.rho, a ≠ p := fun a ha z => R.has a ha (by rw [z]; exact hp)
  have hZ : w.Z p = none := R.sameZ.free hp
  refine ⟨⟨fun b u e => ?_, fun b u e => ?_, by simp [R.len], ?_, fun a ha => ?_, fun a ha => ?_, fun k a d h1 h2 => ?_⟩, le⟩
  · rw [upd_ne (ne_of_none (R.same b u e) hp)]
    exact R.same b u e
  · rw [upd_ne (ne_of_none (R.sameZ b u e) hp)]
    exact R.sameZ b u e
  · show (w.rho ++ [p]).Nodup
    rw [List.nodup_append]
    refine ⟨R.nd, by simp, fun a ha b hb => ?_⟩
    have : b = p := by simpa using hb
    rw [this]
    exact nr a ha
  · have ha' : a ∈ w.rho ++ [p] := ha
    rcases List.mem_append.mp ha' with h | h
    · rw [upd_ne (nr a h)]
      exact R.has a h
    · have : a = p := by simpa using h
      rw [this, upd_same]
      simp
  · obtain ⟨h1, h2⟩ := R.fz a ha
    refine ⟨h1, fun h => ?_⟩
    have h' : a ∈ w.rho ++ [p] := h
    rcases List.mem_append.mp h' with h | h
    · exact h2 h
    · have : a = p := by simpa using h
      rw [this] at ha
      exact ha hZ
  · have h1' : (w.rho ++ [p])[k]? = some a := h1
    by_cases hk : k < w.rho.length
    · rw [List.getElem?_append_left hk] at h1'
      rw [List.getElem?_append_left (by rw [← R.len]; exact hk)] at h2
      have hm : a ∈ w.rho := List.mem_of_getElem? h1'
      exact (R.cell k a d h1' h2).mono le (fun z => z) fun _ => upd_ne (nr a hm)
    · have hk2 : k = w.rho.length := by
        have := (List.getElem?_eq_some_iff.mp h1').1
        rw [List.length_append, List.length_singleton] at this
        omega
      subst hk2
      have e1 : p = a := by simpa using h1'
      have e2 : c = d := by
        rw [R.len] at h2
        simpa using h2
      subst e1 e2
      exact hc
/-- a changing object changed -/
theorem Rep.write (R : Rep K mg w S H) (hk : w.rho[k]? = some a) (hF : w.F a = none) {o : HO} {c : Cell} (hc : CellOk K mg w (upd H a o) a c) : Rep K mg w (S.set k c) (upd H a o) := by
  have hm : a ∈ w.rho := List.mem_of_getElem? hk
  refine ⟨fun b u e => ?_, fun b u e => ?_, by simp [R.len], R.nd, fun b hb => ?_, R.fz, fun j b d h1 h2 => ?_⟩
  · rw [upd_ne (ne_of_none e hF)]
    exact R.same b u e
  · have : b ≠ a := fun z => (R.fz b (by rw [e]; simp)).2 (by rw [z]; exact hm)
    rw [upd_ne this]
    exact R.sameZ b u e
  · by_cases q : b = a
    · rw [q, upd_same]; simp
    · rw [upd_ne q]; exact R.has b hb
  · by_cases q : j = k
    · subst q
      rw [hk] at h1
      cases h1
      have hl : j < S.length := by rw [← R.len]; exact (List.getElem?_eq_some_iff.mp hk).1
      rw [List.getElem?_set_self hl] at h2
      cases h2
      exact hc
    · rw [List.getElem?_set_ne (Ne.symm q)] at h2
      have hb : b ≠ a := fun z => by
        subst z
        exact q (nd_ix R.nd h1 hk)
      exact (R.cell j b d h1 h2).mono (.refl w) (fun z => z) fun _ => upd_ne hb
/-- a changing object changes no more -/
theorem Rep.freeze (R : Rep K mg w S H) (hk : w.rho[k]? = some a) (hF : w.F a = none) {o : HO} (ho : H a = some o) {c : Cell} (hc : CellOk K mg ⟨w.rho, upd w.F a o, w.Z⟩ H a c) : Rep K mg ⟨w.rho, upd w.F a o, w.Z⟩ (S.set k c) H ∧ w.le ⟨w.rho, upd w.F a o, w.Z⟩ := by
  have hm : a ∈ w.rho := List.mem_of_getElem? hk
  have le : w.le ⟨w.rho, upd w.F a o, w.Z⟩ := ⟨List.prefix_refl _, fun b u e => by
    show upd w.F a o b = some u
    rw [upd_ne (ne_of_none e hF)]; exact e, rfl⟩
  refine ⟨⟨fun b u e => ?_, R.sameZ, by simp [R.len], R.nd, R.has, fun b hb => ?_, fun j b d h1 h2 => ?_⟩, le⟩
  · have e' : upd w.F a o b = some u := e
    by_cases q : b = a
    · subst q
      rw [upd_same] at e'
      rw [ho]
      exact e'
    · rw [upd_ne q] at e'
      exact R.same b u e'
  · obtain ⟨h1, h2⟩ := R.fz b hb
    refine ⟨?_, h2⟩
    show upd w.F a o b = none
    rw [upd_ne (fun z => h2 (by rw [z]; exact hm))]
    exact h1
  · have h1' : w.rho[j]? = some b := h1
    by_cases q : j = k
    · subst q
      rw [hk] at h1'
      cases h1'
      have hl : j < S.length := by rw [← R.len]; exact (List.getElem?_eq_some_iff.mp hk).1
      rw [List.getElem?_set_self hl] at h2
      cases h2
      exact hc
    · rw [List.getElem?_set_ne (Ne.symm q)] at h2
      have hb : b ≠ a := fun z => by
        subst z
        exact q (nd_ix R.nd h1' hk)
      exact (R.cell j b d h1' h2).mono le (fun z => by show upd w.F a o b = none; rw [upd_ne hb]; exact z) fun _ => rfl
/-- the newest changing objects let go -/
theorem Rep.cut (R : Rep K mg w S H) (n : Nat) : Rep K mg ⟨w.rho.take n, w.F, w.Z⟩ (S.take n) H := by
  refine ⟨R.same, R.sameZ, by simp [R.len], R.nd.sublist (List.take_sublist _ _), fun a ha => R.has a (List.mem_of_mem_take ha), fun a ha => ⟨(R.fz a ha).1, fun z => (R.fz a ha).2 (List.mem_of_mem_take z)⟩, fun k a c h1 h2 => ?_⟩
  have h1' : w.rho[k]? = some a := by
    have h1 : (w.rho.take n)[k]? = some a := h1
    rw [List.getElem?_take] at h1
    split at h1
    · exact h1
    · cases h1
  have h2' : S[k]? = some c := by
    rw [List.getElem?_take] at h2
    split at h2
    · exact h2
    · cases h2
  have z := R.cell k a c h1' h2'
  cases c with
  | lst ds => obtain ⟨a1, p, vs, e, r⟩ := z; exact ⟨a1, p, vs, e, RelDs.pure (w := w) (w' := ⟨w.rho.take n, w.F, w.Z⟩) (Same.refl _) p r⟩
  | ins cl fs => obtain ⟨a1, p, C, dx, vs, m, e, r⟩ := z; exact ⟨a1, p, C, dx, vs, m, e, RelFs.pure (w := w) (w' := ⟨w.rho.take n, w.F, w.Z⟩) (Same.refl _) p r⟩
  | frz ds => obtain ⟨p, vs, e, r⟩ := z; exact ⟨p, vs, e, RelDs.pure (w := w) (w' := ⟨w.rho.take n, w.F, w.Z⟩) (Same.refl _) p r⟩
  | frzi cl fs => obtain ⟨p, C, dx, vs, m, e, r⟩ := z; exact ⟨p, C, dx, vs, m, e, RelFs.pure (w := w) (w' := ⟨w.rho.take n, w.F, w.Z⟩) (Same.refl _) p r⟩
end
end Gn

/-! GB: what it is that a piece of the program computes a function of D's (EV, ET, EA): the rules for expressions. -/
namespace Gn
open PySem PySem.Spec PyProof.Rows L2

section
variable (K : PySem.W.Frag) (mg : Str → Option Value)
def RelX (w : Wd) (x : Exn) (cls : Value) (dd : Option Addr) : Prop :=
  ∃ C d fv, cls = .ref C ∧ mg x.cls = some (.ref C) ∧ dd = some d ∧ w.F d = some (.xd fv) ∧ RelFs K mg w x.fs fv
def RelB (_ : Wd) (b : Bool) (c : Bool) : Prop := c = b
def RelEnv (w : Wd) (env : Env) (σ : L2.St) : Prop := env.length = σ.length ∧ ∀ (i : Nat) (d : D), env[i]? = some (some d) → ∃ v, σ[i]? = some (some v) ∧ RelD K mg w d v
def XP (E : XK) (w : Wd) (x : Exn) (S : Sto) : Prop := ∀ w' H' cls dd, w.le w' → Rep K mg w' S H' → RelX K mg w' x cls dd → E cls dd H'
def Good {α β : Type} (E : XK) (w : Wd) (R : Wd → α → β → Prop) (r : Res α) (Q : β → Hp → Prop) : Prop :=
  Post r (fun d S => ∀ w' H' v, w.le w' → Rep K mg w' S H' → R w' d v → Q v H') (XP K mg E w)
end
section
variable {K : PySem.W.Frag} {mg : Str → Option Value}
theorem RelEnv.mono {w w' : Wd} (le : w.le w') {env : Env} {σ : L2.St} (h : RelEnv K mg w env σ) : RelEnv K mg w' env σ :=
  ⟨h.1, fun i d e => let ⟨v, a, b⟩ := h.2 i d e; ⟨v, a, RelD.mono le b⟩⟩
theorem XP.up {E : XK} {w w1 : Wd} (le : w.le w1) {x : Exn} {S : Sto} (h : XP K mg E w x S) : XP K mg E w1 x S := fun w' H' cls dd l r q => h w' H' cls dd (le.trans l) r q
theorem Good.up {α β : Type} {E : XK} {w w1 : Wd} {R : Wd → α → β → Prop} {r : Res α} {Q : β → Hp → Prop} (h : Good K mg E w R r Q) (le : w.le w1) : Good K mg E w1 R r Q :=
  Post.mono h (fun _ _ h w' H' v l => h w' H' v (le.trans l)) fun _ _ h => h.up le
theorem Good.ok {α β : Type} {E : XK} {w : Wd} {R : Wd → α → β → Prop} {a : α} {S : Sto} {Q : β → Hp → Prop} (h : Good K mg E w R (.ok a S) Q) {w' : Wd} {H' : Hp} {v : β} (le : w.le w') (r : Rep K mg w' S H') (q : R w' a v) : Q v H' := h w' H' v le r q
/-- a first part, then the rest -/
theorem Good.bind {α β γ δ : Type} {E : XK} {w : Wd} {R : Wd → α → β → Prop} {R' : Wd → γ → δ → Prop} {r : Res α} {f : α → Sto → Res γ} {Q : δ → Hp → Prop} (h : Good K mg E w R' (r.bind f) Q) {Q1 : β → Hp → Prop}
    (k : ∀ a S1 w1 H1 v, w.le w1 → Rep K mg w1 S1 H1 → R w1 a v → Good K mg E w1 R' (f a S1) Q → Q1 v H1) : Good K mg E w R r Q1 :=
  Post.mono (post_bind h) (fun a S1 h1 w1 H1 v le r1 q1 => k a S1 w1 H1 v le r1 q1 (Good.up h1 le)) fun _ _ h => h
/-- .. the rest as seen from the beginning -/
theorem Good.bind0 {α β γ δ : Type} {E : XK} {w : Wd} {R : Wd → α → β → Prop} {R' : Wd → γ → δ → Prop} {r : Res α} {f : α → Sto → Res γ} {Q : δ → Hp → Prop} (h : Good K mg E w R' (r.bind f) Q) {Q1 : β → Hp → Prop}
    (k : ∀ a S1 w1 H1 v, w.le w1 → Rep K mg w1 S1 H1 → R w1 a v → Good K mg E w R' (f a S1) Q → Q1 v H1) : Good K mg E w R r Q1 :=
  Post.mono (post_bind h) (fun a S1 h1 w1 H1 v le r1 q1 => k a S1 w1 H1 v le r1 q1 h1) fun _ _ h => h
end

/-! ### the judgements -/
def EV (X : Cx) (E : XK) (e : Expr) (m : Env → M D) : Prop :=
  ∃ t, PE X e t ∧ ∀ w env S σ H Q, Rep X.K X.mg w S H → RelEnv X.K X.mg w env σ → Good X.K X.mg E w (RelD X.K X.mg) (m env S) Q → t σ H Q
def ET (X : Cx) (E : XK) (e : Expr) (m : Env → M Bool) : Prop :=
  ∃ t, PT X e t ∧ ∀ w env S σ H Q, Rep X.K X.mg w S H → RelEnv X.K X.mg w env σ → Good X.K X.mg E w RelB (m env S) Q → t σ H Q
def EW (X : Cx) (E : XK) (e : Expr) (m : Env → M Bool) : Prop :=
  ∃ t, PW X e t ∧ ∀ w env S σ H Q, Rep X.K X.mg w S H → RelEnv X.K X.mg w env σ → Good X.K X.mg E w RelB (m env S) Q → t σ H Q
def EA (X : Cx) (E : XK) (es : List Expr) (m : Env → M (List D)) : Prop :=
  ∃ t, PA X es t ∧ ∀ w env S σ H Q, Rep X.K X.mg w S H → RelEnv X.K X.mg w env σ → Good X.K X.mg E w (RelDs X.K X.mg) (m env S) Q → t σ H Q
/-- an operator by values -/
def OpD (X : Cx) (f : Value → Value → Sem Value) (g : D → D → M D) : Prop :=
  ∃ r, OpR X f r ∧ ∀ w S H Q x y u v, Rep X.K X.mg w S H → RelD X.K X.mg w x u → RelD X.K X.mg w y v → Good X.K X.mg E0 w (RelD X.K X.mg) (g x y S) Q → r u v H Q
def UnD (X : Cx) (f : Value → Sem Value) (g : D → M D) : Prop :=
  ∃ r, UnR X f r ∧ ∀ w S H Q x u, Rep X.K X.mg w S H → RelD X.K X.mg w x u → Good X.K X.mg E0 w (RelD X.K X.mg) (g x S) Q → r u H Q
/-- a built-in called -/
def CallD (X : Cx) (f : Value) (g : List D → M D) : Prop :=
  ∃ r, CallR X f r ∧ ∀ w S H Q xs us, Rep X.K X.mg w S H → RelDs X.K X.mg w xs us → Good X.K X.mg E0 w (RelD X.K X.mg) (g xs S) Q → r us H Q

/-- no exception, whatever is wished of one -/
def noex {α : Type} (r : Res α) : Res α := match r with
  | .ok a s => .ok a s
  | _ => .bad
theorem good_noex {α β : Type} {K : PySem.W.Frag} {mg : Str → Option Value} {E E' : XK} {w : Wd} {R : Wd → α → β → Prop} {r : Res α} {Q : β → Hp → Prop} (h : Good K mg E w R (noex r) Q) : Good K mg E' w R r Q := by
  cases r with
  | ok a s => exact h
  | ex x s => exact h.elim
  | bad => exact h

/-! ### the functions -/
def mVar (i : Nat) : Env → M D := fun env S => match env[i]? with
  | some (some d) => .ok d S
  | _ => .bad
def mC (d : D) : Env → M D := fun _ S => .ok d S
def mBin (g : D → D → M D) (ma mb : Env → M D) : Env → M D := fun env S => (ma env S).bind fun x S1 => (mb env S1).bind fun y S2 => noex (g x y S2)
def mUn (g : D → M D) (ma : Env → M D) : Env → M D := fun env S => (ma env S).bind fun x S1 => noex (g x S1)
def mIf (mc : Env → M Bool) (ma mb : Env → M D) : Env → M D := fun env S => (mc env S).bind fun c S1 => if c = true then ma env S1 else mb env S1
def mNil : Env → M (List D) := fun _ S => .ok [] S
def mCons (ma : Env → M D) (mr : Env → M (List D)) : Env → M (List D) := fun env S => (ma env S).bind fun x S1 => (mr env S1).bind fun xs S2 => .ok (x :: xs) S2
/-- the items of a value, frozen or not -/
def itemsD : D → Sto → Option (List D)
  | .tup xs, _ => some xs
  | .lst xs, _ => some xs
  | .lsc xs, _ => some xs
  | .cell k, S => match S[k]? with
    | some (.lst xs) => some xs
    | some (.frz xs) => some xs
    | _ => none
  | _, _ => none
def mStar (ma : Env → M D) (mr : Env → M (List D)) : Env → M (List D) := fun env S => (ma env S).bind fun x S1 => match itemsD x S1 with
  | some ys => (mr env S1).bind fun xs S2 => .ok (ys ++ xs) S2
  | none => .bad
def szL : Nat := 16777216
theorem szL_eq : szL = sizeLine := by rw [sizeLine_eq]; rfl
def mkTup (ds : List D) : M D := fun S => if ds.length ≤ szL then .ok (.tup ds) S else .bad
def mkLst (ds : List D) : M D := fun S => if ds.length ≤ szL then .ok (.lst ds) S else .bad
def mkCell (ds : List D) : M D := fun S => if ds.length ≤ szL ∧ pures ds = true then .ok (.cell S.length) (S ++ [.lst ds]) else .bad
def mArgs (f : List D → M D) (ml : Env → M (List D)) : Env → M D := fun env S => (ml env S).bind fun ds S1 => f ds S1
def tstB (d : D) : M Bool := fun S => match d with
  | .bl b => .ok b S
  | _ => .bad
def truthD (d : D) : M Bool := fun S => match d with
  | .non => .ok false S
  | .bl b => .ok b S
  | .int i => .ok (i != 0) S
  | .str x => if x.length ≤ szL then .ok ((x.length : Int) != 0) S else .bad
  | .tup xs => .ok (!xs.isEmpty) S
  | .lst xs => .ok (!xs.isEmpty) S
  | .cell k => match S[k]? with
    | some (.lst xs) => .ok (!xs.isEmpty) S
    | some (.frz xs) => .ok (!xs.isEmpty) S
    | _ => .bad
  | _ => .bad
def mTst (ma : Env → M D) : Env → M Bool := fun env S => (ma env S).bind tstB
def mTru (ma : Env → M D) : Env → M Bool := fun env S => (ma env S).bind truthD
def mNotT (mt : Env → M Bool) : Env → M Bool := fun env S => (mt env S).bind fun b S1 => .ok (!b) S1
def mAndT (mt mu : Env → M Bool) : Env → M Bool := fun env S => (mt env S).bind fun b S1 => if b = true then mu env S1 else .ok false S1
def mOrT (mt mu : Env → M Bool) : Env → M Bool := fun env S => (mt env S).bind fun b S1 => if b = true then .ok true S1 else mu env S1
def mNotV (ma : Env → M D) : Env → M D := fun env S => (ma env S).bind fun x S1 => (truthD x S1).bind fun b S2 => .ok (.bl (!b)) S2
def mAndV (ma mb : Env → M D) : Env → M D := fun env S => (ma env S).bind fun x S1 => (truthD x S1).bind fun b S2 => if b = true then mb env S2 else .ok x S2
def mOrV (ma mb : Env → M D) : Env → M D := fun env S => (ma env S).bind fun x S1 => (truthD x S1).bind fun b S2 => if b = true then .ok x S2 else mb env S2
def mChain (g g' : D → D → M D) (ma mb mc : Env → M D) : Env → M D := fun env S => (ma env S).bind fun x S1 => (mb env S1).bind fun y S2 => (noex (g x y S2)).bind fun z S3 => (tstB z S3).bind fun b S4 =>
  if b = true then (mc env S4).bind fun u S5 => noex (g' y u S5) else .ok (.bl false) S4
def mChain3 (g g' g'' : D → D → M D) (ma mb mc md : Env → M D) : Env → M D := fun env S => (ma env S).bind fun x S1 => (mb env S1).bind fun y S2 => (noex (g x y S2)).bind fun z S3 => (tstB z S3).bind fun b S4 =>
  if b = true then (mc env S4).bind fun u S5 => (noex (g' y u S5)).bind fun z S6 => (tstB z S6).bind fun b S7 => if b = true then (md env S7).bind fun t S8 => noex (g'' u t S8) else .ok (.bl false) S7 else .ok (.bl false) S4
def mFreeze (ma : Env → M D) : Env → M D := fun env S => (ma env S).bind fun x S1 => match x with
  | .cell k => match S1[k]? with
    | some (.lst xs) => .ok (.lst xs) (S1.set k (.frz xs))
    | some (.frz xs) => .ok (.lst xs) S1
    | some (.ins c fs) => .ok (.ins c fs) (S1.set k (.frzi c fs))
    | some (.frzi c fs) => .ok (.ins c fs) S1
    | _ => .bad
  | _ => .bad

section
variable {X : Cx} {E : XK} {a b c : Expr} {ma mb mc : Env → M D} {mt mu : Env → M Bool} {pos : Pos}
theorem ev_never {e : Expr} {t : TE} (h : PE X e t) : EV X E e (fun _ _ => .bad) := ⟨t, h, fun _ _ _ _ _ _ _ _ h => h.elim⟩
theorem ev_var (i : Nat) {x : Str} (hN : X.N[i]? = some x := by rfl) (hv : Vis X.env.scope x := by first | exact Or.inl rfl | exact Or.inr (Or.inl rfl) | exact Or.inr (Or.inr rfl)) (hd : (x == ("__debug__" : Str)) = false := by decide)
    (hcd : (x == ("__classdict__" : Str)) = false := by decide) : EV X E (.Name x pos) (mVar i) := by
  refine ⟨_, pe_var hN hv hd hcd, fun w env S σ H Q R RE h => ?_⟩
  unfold mVar at h
  split at h
  · rename_i d e
    obtain ⟨v, h1, h2⟩ := RE.2 i d e
    exact ⟨v, h1, h.ok (.refl w) R h2⟩
  · exact h.elim
theorem ev_int {i : Int} {j : Nat} : EV X E (.Constant (.int i) j pos) (mC (.int i)) := ⟨_, pe_int, fun w env S σ H Q R RE h => h.ok (.refl w) R rfl⟩
theorem ev_bl {i : Bool} {j : Nat} : EV X E (.Constant (.bool i) j pos) (mC (.bl i)) := ⟨_, pe_bl, fun w env S σ H Q R RE h => h.ok (.refl w) R rfl⟩
theorem ev_non {j : Nat} : EV X E (.Constant .none j pos) (mC .non) := ⟨_, pe_non, fun w env S σ H Q R RE h => h.ok (.refl w) R rfl⟩
theorem ev_str {x : Str} {j : Nat} : EV X E (.Constant (.str x) j pos) (mC (.str x)) := ⟨_, pe_str, fun w env S σ H Q R RE h => h.ok (.refl w) R rfl⟩
/-- a module's own name -/
theorem ev_glob {x : Str} {d : D} (hg : Gl X x) (h : ∃ u v, X.mg x = some u ∧ RelV v u ∧ ∀ w, RelD X.K X.mg w d v) (hd : (x == ("__debug__" : Str)) = false := by decide) : EV X E (.Name x pos) (mC d) := by
  obtain ⟨u, v, hm, r, q⟩ := h
  exact ⟨_, pe_glob hg hm r hd, fun w env S σ H Q R RE h => h.ok (.refl w) R (q w)⟩
theorem ev_bltn {x : Str} {d : D} {v : V} {u : Value} (hg : Gl X x) (hm : X.mg x = none) (hv : bootBuiltins x = some u) (r : RelV v u) (q : ∀ w, RelD X.K X.mg w d v) (hn : x ≠ "__name__" := by decide) (hd : (x == ("__debug__" : Str)) = false := by decide) : EV X E (.Name x pos) (mC d) :=
  ⟨_, pe_bltn hg hm hv r hn hd, fun w env S σ H Q R RE h => h.ok (.refl w) R (q w)⟩
theorem ev_bin {op : Operator} {g : D → D → M D} (ho : OpD X (binaryOp op) g) (ha : EV X E a ma) (hb : EV X E b mb) : EV X E (.BinOp a op b pos) (mBin g ma mb) := by
  obtain ⟨r, h1, h2⟩ := ho
  obtain ⟨ta, pa, qa⟩ := ha
  obtain ⟨tb, pb, qb⟩ := hb
  refine ⟨_, pe_op h1 pa pb, fun w env S σ H Q R RE h => ?_⟩
  refine qa w env S σ H _ R RE (h.bind fun x S1 w1 H1 u l1 R1 r1 h => ?_)
  refine qb w1 env S1 σ H1 _ R1 (RE.mono l1) (h.bind fun y S2 w2 H2 v l2 R2 r2 h => ?_)
  exact h2 w2 S2 H2 Q x y u v R2 (r1.mono l2) r2 (good_noex h)
theorem ev_un {op : UnaryOp} {g : D → M D} (ho : UnD X (unaryOp op) g) (ha : EV X E a ma) : EV X E (.UnaryOp op a pos) (mUn g ma) := by
  obtain ⟨r, h1, h2⟩ := ho
  obtain ⟨ta, pa, qa⟩ := ha
  refine ⟨_, pe_un h1 pa, fun w env S σ H Q R RE h => ?_⟩
  refine qa w env S σ H _ R RE (h.bind fun x S1 w1 H1 u l1 R1 r1 h => ?_)
  exact h2 w1 S1 H1 Q x u R1 r1 (good_noex h)
theorem ev_cmp {op : CmpOp} {g : D → D → M D} (ho : OpD X (compareOp op) g) (ha : EV X E a ma) (hb : EV X E b mb) (hm : behindInMarks op b = false) : EV X E (.Compare a [op] [b] pos) (mBin g ma mb) := by
  obtain ⟨r, h1, h2⟩ := ho
  obtain ⟨ta, pa, qa⟩ := ha
  obtain ⟨tb, pb, qb⟩ := hb
  refine ⟨_, pe_cmpR h1 pa pb hm, fun w env S σ H Q R RE h => ?_⟩
  refine qa w env S σ H _ R RE (h.bind fun x S1 w1 H1 u l1 R1 r1 h => ?_)
  refine qb w1 env S1 σ H1 _ R1 (RE.mono l1) (h.bind fun y S2 w2 H2 v l2 R2 r2 h => ?_)
  exact h2 w2 S2 H2 Q x y u v R2 (r1.mono l2) r2 (good_noex h)
theorem good_tstB {w : Wd} {K : PySem.W.Frag} {mg : Str → Option Value} {d : D} {S : Sto} {H : Hp} {v : V} {Q : Bool → Hp → Prop} (R : Rep K mg w S H) (r : RelD K mg w d v) (h : Good K mg E w RelB (tstB d S) Q) : ∃ k, v = .bl k ∧ Q k H := by
  unfold tstB at h
  split at h
  · rename_i b
    exact ⟨b, r, h.ok (.refl w) R rfl⟩
  · exact h.elim
theorem et_cmp {op : CmpOp} {g : D → D → M D} (ho : OpD X (compareOp op) g) (ha : EV X E a ma) (hb : EV X E b mb) (hm : behindInMarks op b = false) : ET X E (.Compare a [op] [b] pos) (mTst (mBin g ma mb)) := by
  obtain ⟨r, h1, h2⟩ := ho
  obtain ⟨ta, pa, qa⟩ := ha
  obtain ⟨tb, pb, qb⟩ := hb
  refine ⟨_, pt_cmpR h1 pa pb hm, fun w env S σ H Q R RE h => ?_⟩
  have h : Good X.K X.mg E w RelB ((ma env S).bind fun x S1 => (mb env S1).bind fun y S2 => (noex (g x y S2)).bind tstB) Q := by
    have e : mTst (mBin g ma mb) env S = ((ma env S).bind fun x S1 => (mb env S1).bind fun y S2 => (noex (g x y S2)).bind tstB) := by
      unfold mTst mBin
      simp only [bind_assoc]
    rw [← e]
    exact h
  refine qa w env S σ H _ R RE (h.bind fun x S1 w1 H1 u l1 R1 r1 h => ?_)
  refine qb w1 env S1 σ H1 _ R1 (RE.mono l1) (h.bind fun y S2 w2 H2 v l2 R2 r2 h => ?_)
  refine h2 w2 S2 H2 _ x y u v R2 (r1.mono l2) r2 (good_noex (E := E) (h.bind fun z S3 w3 H3 v3 l3 R3 r3 h => ?_))
  exact good_tstB R3 r3 h
theorem ev_chain {op op' : CmpOp} {g g' : D → D → M D} (ho : OpD X (compareOp op) g) (ho' : OpD X (compareOp op') g') (ha : EV X E a ma) (hb : EV X E b mb) (hc : EV X E c mc)
    (hm : lastMarks [op, op'] [b, c] = false := by with_unfolding_all rfl) : EV X E (.Compare a [op, op'] [b, c] pos) (mChain g g' ma mb mc) := by
  obtain ⟨r, h1, h2⟩ := ho
  obtain ⟨r', h1', h2'⟩ := ho'
  obtain ⟨ta, pa, qa⟩ := ha
  obtain ⟨tb, pb, qb⟩ := hb
  obtain ⟨tc, pc, qc⟩ := hc
  refine ⟨_, pe_chain h1 h1' pa pb pc hm, fun w env S σ H Q R RE h => ?_⟩
  refine qa w env S σ H _ R RE (h.bind fun x S1 w1 H1 u l1 R1 r1 h => ?_)
  refine qb w1 env S1 σ H1 _ R1 (RE.mono l1) (h.bind fun y S2 w2 H2 v l2 R2 r2 h => ?_)
  refine h2 w2 S2 H2 _ x y u v R2 (r1.mono l2) r2 (good_noex (E := E) (h.bind fun z S3 w3 H3 v3 l3 R3 r3 h => ?_))
  refine good_tstB (Q := fun k H => if k = true then tc σ H fun w' H4 => r' v w' H4 Q else Q (.bl false) H) R3 r3 (h.bind fun k S4 w4 H4 v4 l4 R4 r4 h => ?_)
  cases r4
  cases k with
  | false => exact h.ok (.refl _) R4 rfl
  | true =>
    refine qc w4 env S4 σ H4 _ R4 (RE.mono (l1.trans (l2.trans (l3.trans l4)))) (h.bind fun t S5 w5 H5 v5 l5 R5 r5 h => ?_)
    exact h2' w5 S5 H5 Q y t v v5 R5 (r2.mono (l3.trans (l4.trans l5))) r5 (good_noex h)
/-- a comparison's truth, two operators -/
theorem et_chain {op op' : CmpOp} {g g' : D → D → M D} (ho : OpD X (compareOp op) g) (ho' : OpD X (compareOp op') g') (ha : EV X E a ma) (hb : EV X E b mb) (hc : EV X E c mc)
    (hm : lastMarks [op, op'] [b, c] = false := by with_unfolding_all rfl) : ET X E (.Compare a [op, op'] [b, c] pos) (mTst (mChain g g' ma mb mc)) := by
  obtain ⟨r, h1, h2⟩ := ho
  obtain ⟨r', h1', h2'⟩ := ho'
  obtain ⟨ta, pa, qa⟩ := ha
  obtain ⟨tb, pb, qb⟩ := hb
  obtain ⟨tc, pc, qc⟩ := hc
  refine ⟨_, pt_chain h1 h1' pa pb pc hm, fun w env S σ H Q R RE h => ?_⟩
  unfold mTst mChain at h
  simp only [bind_assoc] at h
  refine qa w env S σ H _ R RE (h.bind fun x S1 w1 H1 u l1 R1 r1 h => ?_)
  refine qb w1 env S1 σ H1 _ R1 (RE.mono l1) (h.bind fun y S2 w2 H2 v l2 R2 r2 h => ?_)
  refine h2 w2 S2 H2 _ x y u v R2 (r1.mono l2) r2 (good_noex (E := E) (h.bind fun z S3 w3 H3 v3 l3 R3 r3 h => ?_))
  refine good_tstB (Q := fun k H => if k = true then tc σ H fun w' H4 => r' v w' H4 fun x H' => ∃ k, x = V.bl k ∧ Q k H' else ∃ k', V.bl false = V.bl k' ∧ Q k' H) R3 r3 (h.bind fun k S4 w4 H4 v4 l4 R4 r4 h => ?_)
  cases r4
  cases k with
  | false => exact ⟨false, rfl, h.ok (.refl _) R4 rfl⟩
  | true =>
    have h : Good X.K X.mg E w4 RelB ((mc env S4).bind fun a s => (noex (g' y a s)).bind tstB) Q := by simpa [bind_assoc] using h
    refine qc w4 env S4 σ H4 _ R4 (RE.mono (l1.trans (l2.trans (l3.trans l4)))) (h.bind fun t S5 w5 H5 v5 l5 R5 r5 h => ?_)
    refine h2' w5 S5 H5 _ y t v v5 R5 (r2.mono (l3.trans (l4.trans l5))) r5 (good_noex (E := E) (h.bind fun z S6 w6 H6 v6 l6 R6 r6 h => ?_))
    exact good_tstB R6 r6 h
theorem tru_of {w : Wd} {d : D} {S : Sto} {H : Hp} {v : V} {Q : Bool → Hp → Prop} (R : Rep X.K X.mg w S H) (r : RelD X.K X.mg w d v) (h : Good X.K X.mg E w RelB (truthD d S) Q) : ∃ k, TruV X.K v H k ∧ Q k H := by
  cases d with
  | non => cases r; exact ⟨false, rfl, h.ok (.refl w) R rfl⟩
  | bl b => cases r; exact ⟨b, rfl, h.ok (.refl w) R rfl⟩
  | int i => cases r; exact ⟨_, rfl, h.ok (.refl w) R rfl⟩
  | str x =>
    cases r
    unfold truthD at h
    by_cases q : x.length ≤ szL
    · simp only [if_pos q] at h
      exact ⟨_, ⟨by rw [← szL_eq]; exact q, rfl⟩, h.ok (.refl w) R rfl⟩
    · simp only [if_neg q] at h
      exact h.elim
  | tup xs =>
    obtain ⟨a, vs, rfl, q, rs⟩ := r
    refine ⟨_, .inr (.inl ⟨vs, sqT_mono R.same q, rfl⟩), h.ok (.refl w) R ?_⟩
    show (!vs.isEmpty) = !xs.isEmpty
    have := rs.length
    cases vs <;> cases xs <;> simp_all
  | lst xs =>
    obtain ⟨a, vs, rfl, q, rs⟩ := r
    refine ⟨_, .inl ⟨vs, .inl (rd_mono R.same q), rfl⟩, h.ok (.refl w) R ?_⟩
    show (!vs.isEmpty) = !xs.isEmpty
    have := rs.length
    cases vs <;> cases xs <;> simp_all
  | cell k =>
    obtain ⟨a, rfl, ha⟩ := r
    unfold truthD at h
    dsimp only at h
    split at h
    · rename_i xs e
      obtain ⟨_, _, vs, hv, rs⟩ := R.cell k a _ ha e
      refine ⟨_, .inl ⟨vs, .inl (.inl hv), rfl⟩, h.ok (.refl w) R ?_⟩
      show (!vs.isEmpty) = !xs.isEmpty
      have := rs.length
      cases vs <;> cases xs <;> simp_all
    · rename_i xs e
      obtain ⟨_, vs, hv, rs⟩ := R.cell k a _ ha e
      refine ⟨_, .inl ⟨vs, .inl (.inl (R.same _ _ hv)), rfl⟩, h.ok (.refl w) R ?_⟩
      show (!vs.isEmpty) = !xs.isEmpty
      have := rs.length
      cases vs <;> cases xs <;> simp_all
    · exact h.elim
  | ty n => exact h.elim
  | nm x => exact h.elim
  | lsc x => exact h.elim
  | ins c fs => exact h.elim
theorem et_tru (ha : EV X E a ma) (he : ∀ whole, isTrue a X.env whole = (do let v ← whole; standAt a.pos; holding [v] (truthy v)) := by intro _; rfl) : ET X E a (mTru ma) := by
  obtain ⟨ta, pa, qa⟩ := ha
  refine ⟨_, pt_truth pa he, fun w env S σ H Q R RE h => ?_⟩
  exact qa w env S σ H _ R RE (h.bind fun x S1 w1 H1 u l1 R1 r1 h => tru_of R1 r1 h)
theorem et_not (ha : ET X E a mt) : ET X E (.UnaryOp .Not a pos) (mNotT mt) := by
  obtain ⟨ta, pa, qa⟩ := ha
  refine ⟨_, pt_not pa, fun w env S σ H Q R RE h => ?_⟩
  refine qa w env S σ H _ R RE (h.bind fun x S1 w1 H1 u l1 R1 r1 h => ?_)
  cases r1
  exact h.ok (.refl _) R1 rfl
theorem ew_and1 (ha : ET X E a mt) : EW X E (.BoolOp .And [a] pos) mt := let ⟨_, p, q⟩ := ha; ⟨_, pw_and1 p, q⟩
theorem ew_or1 (ha : ET X E a mt) : EW X E (.BoolOp .Or [a] pos) mt := let ⟨_, p, q⟩ := ha; ⟨_, pw_or1 p, q⟩
theorem EW.et {e : Expr} (h : EW X E e mt) : ET X E e mt := let ⟨_, p, q⟩ := h; ⟨_, p.pt, q⟩
variable {rest : List Expr}
theorem ew_and (ha : ET X E a mt) (hb : EW X E (.BoolOp .And (b :: rest) pos) mu) : EW X E (.BoolOp .And (a :: b :: rest) pos) (mAndT mt mu) := by
  obtain ⟨ta, pa, qa⟩ := ha
  obtain ⟨tb, pb, qb⟩ := hb
  refine ⟨_, pw_and pa pb, fun w env S σ H Q R RE h => ?_⟩
  refine qa w env S σ H _ R RE (h.bind fun x S1 w1 H1 u l1 R1 r1 h => ?_)
  cases r1
  cases x with
  | true => exact qb w1 env S1 σ H1 _ R1 (RE.mono l1) h
  | false => exact h.ok (.refl _) R1 rfl
theorem ew_or (ha : ET X E a mt) (hb : EW X E (.BoolOp .Or (b :: rest) pos) mu) : EW X E (.BoolOp .Or (a :: b :: rest) pos) (mOrT mt mu) := by
  obtain ⟨ta, pa, qa⟩ := ha
  obtain ⟨tb, pb, qb⟩ := hb
  refine ⟨_, pw_or pa pb, fun w env S σ H Q R RE h => ?_⟩
  refine qa w env S σ H _ R RE (h.bind fun x S1 w1 H1 u l1 R1 r1 h => ?_)
  cases r1
  cases x with
  | false => exact qb w1 env S1 σ H1 _ R1 (RE.mono l1) h
  | true => exact h.ok (.refl _) R1 rfl
theorem ev_notV (ha : EV X E a ma) : EV X E (.UnaryOp .Not a pos) (mNotV ma) := by
  obtain ⟨ta, pa, qa⟩ := ha
  refine ⟨_, pe_notT pa, fun w env S σ H Q R RE h => ?_⟩
  refine qa w env S σ H _ R RE (h.bind fun x S1 w1 H1 u l1 R1 r1 h => ?_)
  refine tru_of R1 r1 (Q := fun k H2 => Q (.bl (!k)) H2) (h.bind fun k S2 w2 H2 v l2 R2 r2 h => ?_)
  cases r2
  exact h.ok (.refl _) R2 rfl
theorem ev_one {op : BoolOp} (ha : EV X E a ma) : EV X E (.BoolOp op [a] pos) ma := let ⟨_, p, q⟩ := ha; ⟨_, pe_one p, q⟩
theorem ev_andV (ha : EV X E a ma) (hb : EV X E (.BoolOp .And (b :: rest) pos) mb) : EV X E (.BoolOp .And (a :: b :: rest) pos) (mAndV ma mb) := by
  obtain ⟨ta, pa, qa⟩ := ha
  obtain ⟨tb, pb, qb⟩ := hb
  refine ⟨_, pe_andT pa pb, fun w env S σ H Q R RE h => ?_⟩
  refine qa w env S σ H _ R RE (h.bind fun x S1 w1 H1 u l1 R1 r1 h => ?_)
  refine tru_of R1 r1 (Q := fun k H2 => if k = true then tb σ H2 Q else Q u H2) (h.bind fun k S2 w2 H2 v l2 R2 r2 h => ?_) |>.imp ?_
  · cases r2
    cases k with
    | true => exact qb w2 env S2 σ H2 _ R2 (RE.mono (l1.trans l2)) h
    | false => exact h.ok (.refl _) R2 (r1.mono l2)
  · exact fun k h => h
theorem ev_orV (ha : EV X E a ma) (hb : EV X E (.BoolOp .Or (b :: rest) pos) mb) : EV X E (.BoolOp .Or (a :: b :: rest) pos) (mOrV ma mb) := by
  obtain ⟨ta, pa, qa⟩ := ha
  obtain ⟨tb, pb, qb⟩ := hb
  refine ⟨_, pe_orT pa pb, fun w env S σ H Q R RE h => ?_⟩
  refine qa w env S σ H _ R RE (h.bind fun x S1 w1 H1 u l1 R1 r1 h => ?_)
  refine tru_of R1 r1 (Q := fun k H2 => if k = true then Q u H2 else tb σ H2 Q) (h.bind fun k S2 w2 H2 v l2 R2 r2 h => ?_) |>.imp ?_
  · cases r2
    cases k with
    | false => exact qb w2 env S2 σ H2 _ R2 (RE.mono (l1.trans l2)) h
    | true => exact h.ok (.refl _) R2 (r1.mono l2)
  · exact fun k h => h
theorem ev_if {t : Expr} (hc : ET X E t mt) (ha : EV X E a ma) (hb : EV X E b mb) : EV X E (.IfExp t a b pos) (mIf mt ma mb) := by
  obtain ⟨tc, pc, qc⟩ := hc
  obtain ⟨ta, pa, qa⟩ := ha
  obtain ⟨tb, pb, qb⟩ := hb
  refine ⟨_, pe_ifExp pc pa pb, fun w env S σ H Q R RE h => ?_⟩
  refine qc w env S σ H _ R RE (h.bind fun k S1 w1 H1 u l1 R1 r1 h => ?_)
  cases r1
  cases k with
  | true => exact qa w1 env S1 σ H1 _ R1 (RE.mono l1) h
  | false => exact qb w1 env S1 σ H1 _ R1 (RE.mono l1) h
/-! ### lists of arguments, displays -/
variable {es : List Expr} {ml : Env → M (List D)}
theorem ea_nil : EA X E [] mNil := ⟨_, pa_nil, fun w env S σ H Q R RE h => h.ok (.refl w) R rfl⟩
theorem ea_cons (ha : EV X E a ma) (hr : EA X E es ml) (hs : starEach (a :: es) X.env = (false, eval a X.env) :: starEach es X.env := by rfl) : EA X E (a :: es) (mCons ma ml) := by
  obtain ⟨ta, pa, qa⟩ := ha
  obtain ⟨tb, pb, qb⟩ := hr
  refine ⟨_, pa_cons pa pb hs, fun w env S σ H Q R RE h => ?_⟩
  refine qa w env S σ H _ R RE (h.bind fun x S1 w1 H1 u l1 R1 r1 h => ?_)
  refine qb w1 env S1 σ H1 _ R1 (RE.mono l1) (h.bind fun xs S2 w2 H2 us l2 R2 r2 h => ?_)
  exact h.ok (.refl _) R2 ⟨u, us, rfl, r1.mono l2, r2⟩
theorem items_of {w : Wd} {K : PySem.W.Frag} {mg : Str → Option Value} {d : D} {S : Sto} {H : Hp} {v : V} {ys : List D} (R : Rep K mg w S H) (r : RelD K mg w d v) (h : itemsD d S = some ys) : ∃ p vs, v = .ref p ∧ (SqT K H p vs ∨ SqL K H p vs) ∧ RelDs K mg w ys vs := by
  cases d with
  | tup xs => cases h; obtain ⟨a, vs, e, q, rs⟩ := r; exact ⟨a, vs, e, .inl (sqT_mono R.same q), rs⟩
  | lst xs => cases h; obtain ⟨a, vs, e, q, rs⟩ := r; exact ⟨a, vs, e, .inr (.inl (rd_mono R.same q)), rs⟩
  | lsc xs => cases h; obtain ⟨a, vs, e, q, rs⟩ := r; exact ⟨a, vs, e, .inr (R.same.seq q), rs⟩
  | cell k =>
    obtain ⟨a, e, ha⟩ := r
    unfold itemsD at h
    dsimp only at h
    split at h
    · rename_i xs e'
      cases h
      obtain ⟨_, _, vs, hv, rs⟩ := R.cell k a _ ha e'
      exact ⟨a, vs, e, .inr (.inl (.inl hv)), rs⟩
    · rename_i xs e'
      cases h
      obtain ⟨_, vs, hv, rs⟩ := R.cell k a _ ha e'
      exact ⟨a, vs, e, .inr (.inl (.inl (R.same _ _ hv))), rs⟩
    · cases h
  | _ => cases h
theorem ea_star {p : Pos} (ha : EV X E a ma) (hr : EA X E es ml) (hs : starEach (.Starred a p :: es) X.env = (true, eval a X.env) :: starEach es X.env := by rfl) : EA X E (.Starred a p :: es) (mStar ma ml) := by
  obtain ⟨ta, pa, qa⟩ := ha
  obtain ⟨tb, pb, qb⟩ := hr
  refine ⟨_, StX.pa_star pa pb hs, fun w env S σ H Q R RE h => ?_⟩
  refine qa w env S σ H _ R RE (h.bind fun x S1 w1 H1 u l1 R1 r1 h => ?_)
  split at h
  · rename_i ys e
    obtain ⟨p, vs, e1, q, rs⟩ := items_of R1 r1 e
    refine ⟨p, vs, e1, q, qb w1 env S1 σ H1 _ R1 (RE.mono l1) (h.bind fun xs S2 w2 H2 us l2 R2 r2 h => ?_)⟩
    exact h.ok (.refl _) R2 ((rs.mono l2).append r2)
  · exact h.elim
theorem ev_tup {k : Nat} (h : EA X E es ml) : EV X E (.Tuple es k pos) (mArgs mkTup ml) := by
  obtain ⟨t, p, q⟩ := h
  refine ⟨_, pe_tup p, fun w env S σ H Q R RE h => ?_⟩
  refine q w env S σ H _ R RE (h.bind fun xs S1 w1 H1 us l1 R1 r1 h => ?_)
  unfold mkTup at h
  split at h
  · rename_i hz
    refine ⟨by rw [r1.length, ← szL_eq]; exact hz, fun p hp => ?_⟩
    obtain ⟨R2, l2⟩ := R1.laid hp (.tup us)
    exact h.ok l2 R2 ⟨p, us, rfl, .inl (.inl upd_same), r1.mono l2⟩
  · exact h.elim
theorem ev_lst (h : EA X E es ml) : EV X E (.List es pos) (mArgs mkLst ml) := by
  obtain ⟨t, p, q⟩ := h
  refine ⟨_, pe_lst p, fun w env S σ H Q R RE h => ?_⟩
  refine q w env S σ H _ R RE (h.bind fun xs S1 w1 H1 us l1 R1 r1 h => ?_)
  unfold mkLst at h
  split at h
  · rename_i hz
    refine ⟨by rw [r1.length, ← szL_eq]; exact hz, fun p hp => ?_⟩
    obtain ⟨R2, l2⟩ := R1.laid hp (.lst us)
    exact h.ok l2 R2 ⟨p, us, rfl, .inl upd_same, r1.mono l2⟩
  · exact h.elim
theorem ev_cell (h : EA X E es ml) : EV X E (.List es pos) (mArgs mkCell ml) := by
  obtain ⟨t, p, q⟩ := h
  refine ⟨_, pe_lst p, fun w env S σ H Q R RE h => ?_⟩
  refine q w env S σ H _ R RE (h.bind fun xs S1 w1 H1 us l1 R1 r1 h => ?_)
  unfold mkCell at h
  split at h
  · rename_i hz
    obtain ⟨hz, hpu⟩ := hz
    refine ⟨by rw [r1.length, ← szL_eq]; exact hz, fun p hp => ?_⟩
    have le : w1.le ⟨w1.rho ++ [p], w1.F, w1.Z⟩ := ⟨List.prefix_append _ _, Same.refl _, rfl⟩
    obtain ⟨R2, l2⟩ := R1.newcell (c := .lst xs) (o := .lst us) hp ⟨R1.same.free hp, hpu, us, upd_same, r1.mono le⟩
    exact h.ok l2 R2 ⟨p, rfl, by rw [← R1.len]; simp⟩
  · exact h.elim
/-- a value that changes no more -/
theorem ev_freeze (ha : EV X E a ma) : EV X E a (mFreeze ma) := by
  obtain ⟨ta, pa, qa⟩ := ha
  refine ⟨_, pa, fun w env S σ H Q R RE h => ?_⟩
  refine qa w env S σ H _ R RE (h.bind fun x S1 w1 H1 u l1 R1 r1 h => ?_)
  cases x with
  | cell k =>
    obtain ⟨a, rfl, ha⟩ := r1
    dsimp only at h
    split at h
    · rename_i xs e
      obtain ⟨hF, hp, vs, hv, rs⟩ := R1.cell k a _ ha e
      have le : w1.le ⟨w1.rho, upd w1.F a (.lst vs), w1.Z⟩ := ⟨List.prefix_refl _, fun b u e => by
        show upd w1.F a (.lst vs) b = some u
        rw [upd_ne (ne_of_none e hF)]; exact e, rfl⟩
      obtain ⟨R2, l2⟩ := R1.freeze (c := .frz xs) ha hF hv ⟨hp, vs, upd_same, rs.mono le⟩
      exact h.ok l2 R2 ⟨a, vs, rfl, .inl upd_same, rs.mono l2⟩
    · rename_i xs e
      obtain ⟨_, vs, hv, rs⟩ := R1.cell k a _ ha e
      exact h.ok (.refl _) R1 ⟨a, vs, rfl, .inl hv, rs⟩
    · rename_i c fs e
      obtain ⟨hF, hp, C, dx, vs, m, hv, rs⟩ := R1.cell k a _ ha e
      have le : w1.le ⟨w1.rho, upd w1.F a (.ins C dx vs), w1.Z⟩ := ⟨List.prefix_refl _, fun b u e => by
        show upd w1.F a (.ins C dx vs) b = some u
        rw [upd_ne (ne_of_none e hF)]; exact e, rfl⟩
      obtain ⟨R2, l2⟩ := R1.freeze (c := .frzi c fs) ha hF hv ⟨hp, C, dx, vs, m, upd_same, rs.mono le⟩
      exact h.ok l2 R2 ⟨a, C, dx, vs, rfl, m, upd_same, rs.mono l2⟩
    · rename_i c fs e
      obtain ⟨_, C, dx, vs, m, hv, rs⟩ := R1.cell k a _ ha e
      exact h.ok (.refl _) R1 ⟨a, C, dx, vs, rfl, m, hv, rs⟩
    · exact h.elim
  | _ => exact h.elim
/-! ### built-ins called by their names -/
theorem ev_callB {x : Str} {id : String} {f : List D → M D} {p : Pos} (hc : CallD X (.builtin id) f) (hg : Gl X x) (hm : X.mg x = none) (hv : bootBuiltins x = some (.builtin id)) (ha : EA X E (a :: es) ml) (hn : x ≠ "__name__" := by decide) (hdb : (x == ("__debug__" : Str)) = false := by decide)
    (he : starEach (a :: es) X.env = (false, eval a X.env) :: starEach es X.env := by rfl) (hpl : (backTo pos (starEach es X.env)).any (·.1) = false := by rfl) : EV X E (.Call (.Name x p) (a :: es) [] pos) (mArgs (fun ds S => noex (f ds S)) ml) := by
  obtain ⟨r, h1, h2⟩ := hc
  obtain ⟨t, p, q⟩ := ha
  refine ⟨_, pe_callB h1 hg hm hv p hn hdb he hpl, fun w env S σ H Q R RE h => ?_⟩
  exact q w env S σ H _ R RE (h.bind fun xs S1 w1 H1 us l1 R1 r1 h => h2 w1 S1 H1 Q xs us R1 r1 (good_noex h))
theorem ev_callTy {x : Str} {T : String} {f : List D → M D} {p : Pos} (hc : CallD X (.type T) f) (hg : Gl X x) (hm : X.mg x = none) (hv : bootBuiltins x = some (.type T)) (ha : EA X E (a :: es) ml) (hn : x ≠ "__name__" := by decide) (hdb : (x == ("__debug__" : Str)) = false := by decide)
    (he : starEach (a :: es) X.env = (false, eval a X.env) :: starEach es X.env := by rfl) (hpl : (backTo pos (starEach es X.env)).any (·.1) = false := by rfl) : EV X E (.Call (.Name x p) (a :: es) [] pos) (mArgs (fun ds S => noex (f ds S)) ml) := by
  obtain ⟨r, h1, h2⟩ := hc
  obtain ⟨t, p, q⟩ := ha
  refine ⟨_, pe_callTy h1 hg hm hv p hn hdb he hpl, fun w env S σ H Q R RE h => ?_⟩
  exact q w env S σ H _ R RE (h.bind fun xs S1 w1 H1 us l1 R1 r1 h => h2 w1 S1 H1 Q xs us R1 r1 (good_noex h))
end
end Gn

/-! GC: operators and built-ins over D's. -/
namespace Gn
open PySem PySem.Spec PyProof.Rows L2

theorem CallR.or {X : Cx} {f : Value} {r r' : List V → Hp → VK → Prop} (h : CallR X f r) (h' : CallR X f r') : CallR X f (fun xs H Q => r xs H Q ∨ r' xs H Q) := by
  intro pins s σ H xs us Q I rx q
  rcases q with q | q
  · exact h pins s σ H xs us Q I rx q
  · exact h' pins s σ H xs us Q I rx q

section
variable {X : Cx}
/-- list + list, wherever they stand -/
def rCatL (K : PySem.W.Frag) : R2 := fun x y H Q => ∃ l b xs zs, x = .ref l ∧ y = .ref b ∧ Rd H l (.lst xs) ∧ Rd H b (.lst zs) ∧ xs.length + zs.length ≤ sizeLine ∧ ∀ p, H p = none → Q (.ref p) (upd H p (.lst (xs ++ zs)))
theorem seq_obj {pins : List (Addr × Obj)} {σ : L2.St} {H : Hp} {s : Shared} {l : Addr} {xs : List V} (I : Inv X pins σ H s) (h : Rd H l (.lst xs)) : ∃ (its : List Value) (n : Nat), Vals xs its ∧ s.heap.get? l = some { cls := .type "list", data := .seq its.toArray n } := by
  rcases h with h | ⟨o, h⟩
  · obtain ⟨its, n, r, e, _⟩ := I.lst h
    exact ⟨its, n, r, e⟩
  · obtain ⟨e, z, its, n, r, e2⟩ := I.hok l _ h
    exact ⟨its, n, r, e2⟩
theorem op_catL : OpR X (binaryOp .Add) (rCatL X.K) := by
  intro pins s σ H x y v u Q I rx ry h
  obtain ⟨l, b, xs, zs, rfl, rfl, hH, hB, hz, q⟩ := h
  cases rx
  cases ry
  obtain ⟨its, n, r, e⟩ := seq_obj I hH
  obtain ⟨its2, n2, r2, e2⟩ := seq_obj I hB
  have hl := r.length
  have hl2 := r2.length
  refine PySem.P.add_list e e2 ?_ (by rw [List.size_toArray, List.size_toArray]; omega)
  have ea : its.toArray ++ its2.toArray = (its ++ its2).toArray := by simp
  rw [ea]
  exact ⟨.ref _, _, I.lnew (t' := s.toks) (r.append r2) (by rw [List.length_append]; omega), rfl, q _ I.fresh⟩

/-! ### + -/
def addD (x y : D) : M D := fun S => match x, y with
  | .int i, .int j => .ok (.int (i + j)) S
  | .str a, .str b => if a.length + b.length ≤ szL then .ok (.str (a ++ b)) S else .bad
  | .lst a, .lst b => if a.length + b.length ≤ szL then .ok (.lst (a ++ b)) S else .bad
  | .tup a, .tup b => if a.length + b.length ≤ szL then .ok (.tup (a ++ b)) S else .bad
  | _, _ => .bad
theorem od_add : OpD X (binaryOp .Add) addD := by
  refine ⟨_, op_add.or (op_add_str.or (op_catL.or op_catA)), fun w S H Q x y u v R r1 r2 h => ?_⟩
  unfold addD at h
  split at h
  · cases r1; cases r2
    exact .inl ⟨_, _, rfl, rfl, h.ok (.refl w) R rfl⟩
  · cases r1; cases r2
    split at h
    · rename_i hz
      exact .inr (.inl ⟨_, _, rfl, rfl, by rw [← szL_eq]; exact hz, h.ok (.refl w) R rfl⟩)
    · exact h.elim
  · obtain ⟨p, xs, rfl, hp, rx⟩ := r1
    obtain ⟨q, ys, rfl, hq, ry⟩ := r2
    split at h
    · rename_i hz
      refine .inr (.inr (.inl ⟨p, q, xs, ys, rfl, rfl, rd_mono R.same hp, rd_mono R.same hq, by rw [← szL_eq, rx.length, ry.length]; exact hz, fun l hl => ?_⟩))
      obtain ⟨R2, l2⟩ := R.laid hl (.lst (xs ++ ys))
      exact h.ok l2 R2 ⟨l, _, rfl, .inl upd_same, (rx.append ry).mono l2⟩
    · exact h.elim
  · obtain ⟨p, xs, rfl, hp, rx⟩ := r1
    obtain ⟨q, ys, rfl, hq, ry⟩ := r2
    split at h
    · rename_i hz
      refine .inr (.inr (.inr ⟨p, q, xs, ys, rfl, rfl, sqT_mono R.same hp, sqT_mono R.same hq, by rw [← szL_eq, rx.length, ry.length]; exact hz, fun e => ?_, fun _ e => ?_, fun _ _ l hl => ?_⟩))
      · subst e
        have : (RelDs X.K X.mg w _ ([] ++ ys)) := rx.append ry
        exact h.ok (.refl w) R ⟨q, ys, rfl, hq, this⟩
      · subst e
        have := rx.append ry
        rw [List.append_nil] at this
        exact h.ok (.refl w) R ⟨p, xs, rfl, hp, this⟩
      · obtain ⟨R2, l2⟩ := R.laid hl (.tup (xs ++ ys))
        exact h.ok l2 R2 ⟨l, _, rfl, .inl (.inl upd_same), (rx.append ry).mono l2⟩
    · exact h.elim
  · exact h.elim
/-! ### ints -/
def subD (x y : D) : M D := fun S => match x, y with
  | .int i, .int j => .ok (.int (i - j)) S
  | _, _ => .bad
theorem od_sub : OpD X (binaryOp .Sub) subD := by
  refine ⟨_, op_sub, fun w S H Q x y u v R r1 r2 h => ?_⟩
  unfold subD at h
  split at h
  · cases r1; cases r2
    exact ⟨_, _, rfl, rfl, h.ok (.refl w) R rfl⟩
  · exact h.elim
def smallI (i : Int) : Bool := decide (-(2 ^ 64) < i ∧ i < 2 ^ 64)
def mulD (x y : D) : M D := fun S => match x, y with
  | .int i, .int j => if (smallI i || smallI j) = true then .ok (.int (i * j)) S else .bad
  | _, _ => .bad
theorem od_mul : OpD X (binaryOp .Mult) mulD := by
  refine ⟨_, op_mul, fun w S H Q x y u v R r1 r2 h => ?_⟩
  unfold mulD at h
  split at h
  · cases r1; cases r2
    split at h
    · rename_i hz
      refine ⟨_, _, rfl, rfl, ?_, h.ok (.refl w) R rfl⟩
      rcases Bool.or_eq_true_iff.mp hz with q | q
      · exact .inl (of_decide_eq_true q)
      · exact .inr (of_decide_eq_true q)
    · exact h.elim
  · exact h.elim
def fdivD (x y : D) : M D := fun S => match x, y with
  | .int i, .int j => if 0 < j ∧ j < 1073741824 then .ok (.int (i / j)) S else .bad
  | _, _ => .bad
theorem od_fdiv : OpD X (binaryOp .FloorDiv) fdivD := by
  refine ⟨_, op_fdiv, fun w S H Q x y u v R r1 r2 h => ?_⟩
  unfold fdivD at h
  split at h
  · cases r1; cases r2
    split at h
    · rename_i hz
      exact ⟨_, _, rfl, rfl, hz, h.ok (.refl w) R rfl⟩
    · exact h.elim
  · exact h.elim
def modD (x y : D) : M D := fun S => match x, y with
  | .int i, .int j => if 0 < j then .ok (.int (i % j)) S else .bad
  | _, _ => .bad
theorem od_mod : OpD X (binaryOp .Mod) modD := by
  refine ⟨_, op_mod, fun w S H Q x y u v R r1 r2 h => ?_⟩
  unfold modD at h
  split at h
  · cases r1; cases r2
    split at h
    · rename_i hz
      exact ⟨_, _, rfl, rfl, hz, h.ok (.refl w) R rfl⟩
    · exact h.elim
  · exact h.elim
def powD (x y : D) : M D := fun S => match x, y with
  | .int i, .int j => if 0 ≤ j ∧ j ≤ 1000000 ∧ i.natAbs < 2 ^ 64 then .ok (.int (i ^ j.toNat)) S else .bad
  | _, _ => .bad
theorem od_pow : OpD X (binaryOp .Pow) powD := by
  refine ⟨_, op_pow, fun w S H Q x y u v R r1 r2 h => ?_⟩
  unfold powD at h
  split at h
  · cases r1; cases r2
    split at h
    · rename_i hz
      exact ⟨_, _, rfl, rfl, hz, h.ok (.refl w) R rfl⟩
    · exact h.elim
  · exact h.elim
def negD (x : D) : M D := fun S => match x with
  | .int i => .ok (.int (-i)) S
  | _ => .bad
theorem ud_neg : UnD X (unaryOp .USub) negD := by
  refine ⟨_, un_neg, fun w S H Q x u R r1 h => ?_⟩
  unfold negD at h
  split at h
  · cases r1
    exact ⟨_, rfl, h.ok (.refl w) R rfl⟩
  · exact h.elim
def ltD (x y : D) : M D := fun S => match x, y with
  | .int i, .int j => .ok (.bl (decide (i < j))) S
  | _, _ => .bad
theorem od_lt : OpD X (compareOp .Lt) ltD := by
  refine ⟨_, op_lt, fun w S H Q x y u v R r1 r2 h => ?_⟩
  unfold ltD at h
  split at h
  · cases r1; cases r2
    exact ⟨_, _, rfl, rfl, h.ok (.refl w) R rfl⟩
  · exact h.elim
def leD (x y : D) : M D := fun S => match x, y with
  | .int i, .int j => .ok (.bl (decide (i ≤ j))) S
  | _, _ => .bad
theorem od_le : OpD X (compareOp .LtE) leD := by
  refine ⟨_, op_le, fun w S H Q x y u v R r1 r2 h => ?_⟩
  unfold leD at h
  split at h
  · cases r1; cases r2
    exact ⟨_, _, rfl, rfl, h.ok (.refl w) R rfl⟩
  · exact h.elim
def gtD (x y : D) : M D := fun S => match x, y with
  | .int i, .int j => .ok (.bl (decide (j < i))) S
  | _, _ => .bad
theorem od_gt : OpD X (compareOp .Gt) gtD := by
  refine ⟨_, op_gt, fun w S H Q x y u v R r1 r2 h => ?_⟩
  unfold gtD at h
  split at h
  · cases r1; cases r2
    exact ⟨_, _, rfl, rfl, h.ok (.refl w) R rfl⟩
  · exact h.elim
def geD (x y : D) : M D := fun S => match x, y with
  | .int i, .int j => .ok (.bl (decide (j ≤ i))) S
  | _, _ => .bad
theorem od_ge : OpD X (compareOp .GtE) geD := by
  refine ⟨_, op_ge, fun w S H Q x y u v R r1 r2 h => ?_⟩
  unfold geD at h
  split at h
  · cases r1; cases r2
    exact ⟨_, _, rfl, rfl, h.ok (.refl w) R rfl⟩
  · exact h.elim
/-! ### is None -/
def isNonD : D → Bool
  | .non => true
  | _ => false
theorem isNonD_of {K : PySem.W.Frag} {mg : Str → Option Value} {w : Wd} {d : D} {v : V} (r : RelD K mg w d v) : decide (v = .non) = isNonD d := by
  cases d with
  | non => cases r; rfl
  | bl b => cases r; rfl
  | int i => cases r; rfl
  | str x => cases r; rfl
  | ty n => cases r; rfl
  | nm x => obtain ⟨a, rfl, _⟩ := r; rfl
  | tup xs => obtain ⟨a, vs, rfl, _⟩ := r; rfl
  | lst xs => obtain ⟨a, vs, rfl, _⟩ := r; rfl
  | ins c fs => obtain ⟨a, C, dx, vs, rfl, _⟩ := r; rfl
  | lsc xs => obtain ⟨a, vs, rfl, _⟩ := r; rfl
  | cell k => obtain ⟨a, rfl, _⟩ := r; rfl
def isD (x y : D) : M D := fun S => match y with
  | .non => .ok (.bl (isNonD x)) S
  | _ => .bad
theorem od_is : OpD X (compareOp .Is) isD := by
  refine ⟨_, op_isN, fun w S H Q x y u v R r1 r2 h => ?_⟩
  unfold isD at h
  split at h
  · cases r2
    exact ⟨rfl, h.ok (.refl w) R (congrArg V.bl (isNonD_of r1))⟩
  · exact h.elim
def isnotD (x y : D) : M D := fun S => match y with
  | .non => .ok (.bl (!isNonD x)) S
  | _ => .bad
theorem od_isnot : OpD X (compareOp .IsNot) isnotD := by
  refine ⟨_, op_notN, fun w S H Q x y u v R r1 r2 h => ?_⟩
  unfold isnotD at h
  split at h
  · cases r2
    exact ⟨rfl, h.ok (.refl w) R (congrArg (fun b => V.bl (!b)) (isNonD_of r1))⟩
  · exact h.elim
/-! ### == -/
mutual
def toPy : D → Option PyData
  | .non => some .none
  | .bl b => some (.bool b)
  | .int i => some (.int i)
  | .str x => some (.str x)
  | .tup xs => (toPys xs).map .tuple
  | .lst xs => (toPys xs).map .list
  | _ => none
def toPys : List D → Option (List PyData)
  | [] => some []
  | d :: ds => (toPy d).bind fun a => (toPys ds).map fun r => a :: r
end
mutual
theorem dp_of {K : PySem.W.Frag} {mg : Str → Option Value} {w : Wd} {S : Sto} {H : Hp} (R : Rep K mg w S H) : ∀ {d : D} {v : V} {p : PyData}, RelD K mg w d v → toPy d = some p → Dp K H v p
  | .non, v, p, r, e => by cases (show v = .non from r); cases e; exact .non
  | .bl b, v, p, r, e => by cases (show v = .bl b from r); cases e; exact .bl b
  | .int i, v, p, r, e => by cases (show v = .int i from r); cases e; exact .int i
  | .str x, v, p, r, e => by cases (show v = .str x from r); cases e; exact .str x
  | .ty n, v, p, r, e => by cases e
  | .nm x, v, p, r, e => by cases e
  | .ins c fs, v, p, r, e => by cases e
  | .cell k, v, p, r, e => by cases e
  | .lsc k, v, p, r, e => by cases e
  | .tup ds, v, p, ⟨a, vs, ev, q, rs⟩, e => by
    subst ev
    have e' : (toPys ds).map PyData.tuple = some p := by simpa [toPy] using e
    obtain ⟨ps, e1, e2⟩ := Option.map_eq_some_iff.mp e'
    subst e2
    exact .tup (sqT_mono R.same q) (dps_of R rs e1)
  | .lst ds, v, p, ⟨a, vs, ev, q, rs⟩, e => by
    subst ev
    have e' : (toPys ds).map PyData.list = some p := by simpa [toPy] using e
    obtain ⟨ps, e1, e2⟩ := Option.map_eq_some_iff.mp e'
    subst e2
    exact .lst (.inl (rd_mono R.same q)) (dps_of R rs e1)
theorem dps_of {K : PySem.W.Frag} {mg : Str → Option Value} {w : Wd} {S : Sto} {H : Hp} (R : Rep K mg w S H) : ∀ {ds : List D} {vs : List V} {ps : List PyData}, RelDs K mg w ds vs → toPys ds = some ps → DpAll K H vs ps
  | [], vs, ps, r, e => by cases (show vs = [] from r); cases e; exact .nil
  | d :: ds, vs, ps, ⟨v, rr, ev, q, z⟩, e => by
    subst ev
    have e' : ((toPy d).bind fun a => (toPys ds).map fun r => a :: r) = some ps := by simpa [toPys] using e
    obtain ⟨a, e1, e2⟩ := Option.bind_eq_some_iff.mp e'
    obtain ⟨r, e3, e4⟩ := Option.map_eq_some_iff.mp e2
    subst e4
    exact .cons (dp_of R q e1) (dps_of R z e3)
end
def eqD? (x y : D) : Option Bool := match toPy x, toPy y with
  | some d, some e => if (SeqAt.shaped d && SeqAt.shaped e) = true then some (PyData.eqv d e) else none
  | _, _ => none
def eqD (x y : D) : M D := fun S => match eqD? x y with
  | some b => .ok (.bl b) S
  | none => .bad
def neD (x y : D) : M D := fun S => match eqD? x y with
  | some b => .ok (.bl (!b)) S
  | none => .bad
theorem eqD_of {x y : D} {b : Bool} (h : eqD? x y = some b) : ∃ d e, toPy x = some d ∧ toPy y = some e ∧ SeqAt.shaped d = true ∧ SeqAt.shaped e = true ∧ PyData.eqv d e = b := by
  unfold eqD? at h
  split at h
  · rename_i d e h1 h2
    split at h
    · rename_i hs
      obtain ⟨s1, s2⟩ := Bool.and_eq_true_iff.mp hs
      exact ⟨d, e, h1, h2, s1, s2, Option.some.inj h⟩
    · cases h
  · cases h
theorem od_eq (hu : X.A.units + 64 < cLine) : OpD X (compareOp .Eq) eqD := by
  refine ⟨_, op_eqD hu, fun w S H Q x y u v R r1 r2 h => ?_⟩
  unfold eqD at h
  split at h
  · rename_i b e
    obtain ⟨d, e, h1, h2, s1, s2, eb⟩ := eqD_of e
    exact ⟨d, e, dp_of R r1 h1, dp_of R r2 h2, s1, s2, h.ok (.refl w) R (congrArg V.bl eb)⟩
  · exact h.elim
theorem od_ne (hu : X.A.units + 64 < cLine) : OpD X (compareOp .NotEq) neD := by
  refine ⟨_, op_neD hu, fun w S H Q x y u v R r1 r2 h => ?_⟩
  unfold neD at h
  split at h
  · rename_i b e
    obtain ⟨d, e, h1, h2, s1, s2, eb⟩ := eqD_of e
    exact ⟨d, e, dp_of R r1 h1, dp_of R r2 h2, s1, s2, h.ok (.refl w) R (congrArg (fun b => V.bl (!b)) eb)⟩
  · exact h.elim
/-! ### in -/
def flatOf : D → Option V
  | .non => some .non
  | .bl b => some (.bl b)
  | .int i => some (.int i)
  | .str x => some (.str x)
  | _ => none
def flatsOf : List D → Option (List V)
  | [] => some []
  | d :: ds => (flatOf d).bind fun a => (flatsOf ds).map fun r => a :: r
theorem flat_rel {K : PySem.W.Frag} {mg : Str → Option Value} {w : Wd} {d : D} {v u : V} (r : RelD K mg w d v) (h : flatOf d = some u) : v = u ∧ flatV u = true := by
  cases d with
  | non => cases h; cases r; exact ⟨rfl, rfl⟩
  | bl b => cases h; cases r; exact ⟨rfl, rfl⟩
  | int i => cases h; cases r; exact ⟨rfl, rfl⟩
  | str x => cases h; cases r; exact ⟨rfl, rfl⟩
  | _ => cases h
theorem flats_rel {K : PySem.W.Frag} {mg : Str → Option Value} {w : Wd} : ∀ {ds : List D} {vs us : List V}, RelDs K mg w ds vs → flatsOf ds = some us → vs = us ∧ us.all flatV = true
  | [], vs, us, r, h => by cases h; cases (show vs = [] from r); exact ⟨rfl, rfl⟩
  | d :: ds, vs, us, ⟨v, rr, ev, q, z⟩, h => by
    subst ev
    have h' : ((flatOf d).bind fun a => (flatsOf ds).map fun r => a :: r) = some us := h
    obtain ⟨a, e1, e2⟩ := Option.bind_eq_some_iff.mp h'
    obtain ⟨r, e3, e4⟩ := Option.map_eq_some_iff.mp e2
    subst e4
    obtain ⟨p1, p2⟩ := flat_rel q e1
    obtain ⟨p3, p4⟩ := flats_rel z e3
    subst p1 p3
    exact ⟨rfl, by rw [List.all_cons, p2, p4]; rfl⟩
def inD? (x y : D) (S : Sto) : Option Bool := match y with
  | .str z => match x with
    | .str a => match a.cps.toList with
      | [c] => some (decide (c ∈ z.cps.toList))
      | _ => none
    | _ => none
  | y => match itemsD y S, flatOf x with
    | some ys, some u => (flatsOf ys).map fun us => inV u us
    | _, _ => none
def inDD (neg : Bool) (x y : D) : M D := fun S => match inD? x y S with
  | some b => .ok (.bl (if neg then !b else b)) S
  | none => .bad
theorem od_in_core {neg : Bool} {f : Value → Value → Sem Value} (h1 : OpR X f (rIn X.K neg)) (h2 : OpR X f (fun x y H Q => ∃ (c : Nat) (z : Str), x = .str ⟨#[c]⟩ ∧ y = .str z ∧ Q (.bl (if neg then !decide (c ∈ z.cps.toList) else decide (c ∈ z.cps.toList))) H)) :
    OpD X f (inDD neg) := by
  refine ⟨_, h1.or h2, fun w S H Q x y u v R r1 r2 h => ?_⟩
  unfold inDD at h
  split at h
  · rename_i b e
    unfold inD? at e
    split at e
    · rename_i z
      split at e
      · rename_i a
        split at e
        · rename_i c ha
          cases r1; cases r2; cases e
          have ea : a = ⟨#[c]⟩ := by
            obtain ⟨cps⟩ := a
            have : cps.toList = [c] := ha
            have : cps = #[c] := by
              apply Array.toList_inj.mp
              simpa using this
            rw [this]
          subst ea
          exact .inr ⟨c, z, rfl, rfl, h.ok (.refl w) R rfl⟩
        · cases e
      · cases e
    · split at e
      · rename_i ys u' e1 e2
        obtain ⟨us, e3, e4⟩ := Option.map_eq_some_iff.mp e
        subst e4
        obtain ⟨p, vs, e5, q, rs⟩ := items_of R r2 e1
        obtain ⟨p1, p2⟩ := flat_rel r1 e2
        obtain ⟨p3, p4⟩ := flats_rel rs e3
        subst p1 p3
        exact .inl ⟨p, vs, e5, q.symm, p2, p4, h.ok (.refl w) R rfl⟩
      · cases e
  · exact h.elim
theorem od_in : OpD X (compareOp .In) (inDD false) := od_in_core op_in_seq op_in_sign
theorem od_notin : OpD X (compareOp .NotIn) (inDD true) := od_in_core op_notIn_seq op_notIn_sign
/-! ### built-ins -/
def lenD (ds : List D) : M D := fun S => match ds with
  | [.str x] => if x.length ≤ szL then .ok (.int (x.length : Int)) S else .bad
  | [d] => match itemsD d S with
    | some xs => .ok (.int (xs.length : Int)) S
    | none => .bad
  | _ => .bad
theorem cd_len : CallD X (.builtin "len") lenD := by
  refine ⟨_, call_len, fun w S H Q xs us R r h => ?_⟩
  unfold lenD at h
  split at h
  · obtain ⟨v, r, rfl, rv, rfl⟩ := r
    cases rv
    split at h
    · rename_i x hz
      exact ⟨_, _, rfl, ⟨by rw [← szL_eq]; exact hz, rfl⟩, h.ok (.refl w) R rfl⟩
    · exact h.elim
  · obtain ⟨v, r, rfl, rv, rfl⟩ := r
    split at h
    · rename_i ys e
      obtain ⟨p, vs, rfl, q, rs⟩ := items_of R rv e
      refine ⟨_, vs.length, rfl, ?_, h.ok (.refl w) R (by rw [rs.length]; rfl)⟩
      rcases q with q | q
      · exact .inr ⟨vs, q, rfl⟩
      · exact .inl ⟨vs, q, rfl⟩
    · exact h.elim
  · exact h.elim
def absD (ds : List D) : M D := fun S => match ds with
  | [.int i] => .ok (.int (if i < 0 then -i else i)) S
  | _ => .bad
theorem cd_abs : CallD X (.builtin "abs") absD := by
  refine ⟨_, call_abs, fun w S H Q xs us R r h => ?_⟩
  unfold absD at h
  split at h
  · obtain ⟨v, r, rfl, rv, rfl⟩ := r
    cases rv
    exact ⟨_, rfl, h.ok (.refl w) R rfl⟩
  · exact h.elim
def intsOf : List D → Option (List Int)
  | [] => some []
  | .int i :: ds => (intsOf ds).map fun r => i :: r
  | _ => none
theorem intsOf_eq : ∀ {ds : List D} {ns : List Int}, intsOf ds = some ns → ds = ns.map D.int
  | [], ns, h => by cases h; rfl
  | d :: ds, ns, h => by
    cases d with
    | int i =>
      have h' : (intsOf ds).map (fun r => i :: r) = some ns := h
      obtain ⟨r, e1, e2⟩ := Option.map_eq_some_iff.mp h'
      subst e2
      rw [intsOf_eq e1]
      rfl
    | _ => cases h
theorem intsOf_map (ns : List Int) : intsOf (ns.map D.int) = some ns := by
  induction ns with
  | nil => rfl
  | cons n ns ih => show (intsOf (ns.map D.int)).map _ = _; rw [ih]; rfl
def blsOf : List D → Option (List Bool)
  | [] => some []
  | .bl i :: ds => (blsOf ds).map fun r => i :: r
  | _ => none
theorem blsOf_eq : ∀ {ds : List D} {ns : List Bool}, blsOf ds = some ns → ds = ns.map D.bl
  | [], ns, h => by cases h; rfl
  | d :: ds, ns, h => by
    cases d with
    | bl i =>
      have h' : (blsOf ds).map (fun r => i :: r) = some ns := h
      obtain ⟨r, e1, e2⟩ := Option.map_eq_some_iff.mp h'
      subst e2
      rw [blsOf_eq e1]
      rfl
    | _ => cases h
theorem blsOf_map (ns : List Bool) : blsOf (ns.map D.bl) = some ns := by
  induction ns with
  | nil => rfl
  | cons n ns ih => show (blsOf (ns.map D.bl)).map _ = _; rw [ih]; rfl
def strsOf : List D → Option (List Str)
  | [] => some []
  | .str i :: ds => (strsOf ds).map fun r => i :: r
  | _ => none
theorem strsOf_eq : ∀ {ds : List D} {ns : List Str}, strsOf ds = some ns → ds = ns.map D.str
  | [], ns, h => by cases h; rfl
  | d :: ds, ns, h => by
    cases d with
    | str i =>
      have h' : (strsOf ds).map (fun r => i :: r) = some ns := h
      obtain ⟨r, e1, e2⟩ := Option.map_eq_some_iff.mp h'
      subst e2
      rw [strsOf_eq e1]
      rfl
    | _ => cases h
theorem strsOf_map (ns : List Str) : strsOf (ns.map D.str) = some ns := by
  induction ns with
  | nil => rfl
  | cons n ns ih => show (strsOf (ns.map D.str)).map _ = _; rw [ih]; rfl
/-- the items of a list, frozen or not -/
def listD : D → Sto → Option (List D)
  | .lst xs, _ => some xs
  | .lsc xs, _ => some xs
  | .cell k, S => match S[k]? with
    | some (.lst xs) => some xs
    | some (.frz xs) => some xs
    | _ => none
  | _, _ => none
theorem list_of {w : Wd} {K : PySem.W.Frag} {mg : Str → Option Value} {d : D} {S : Sto} {H : Hp} {v : V} {ys : List D} (R : Rep K mg w S H) (r : RelD K mg w d v) (h : listD d S = some ys) : ∃ p vs, v = .ref p ∧ SqL K H p vs ∧ RelDs K mg w ys vs := by
  cases d with
  | lst xs => cases h; obtain ⟨a, vs, e, q, rs⟩ := r; exact ⟨a, vs, e, .inl (rd_mono R.same q), rs⟩
  | lsc xs => cases h; obtain ⟨a, vs, e, q, rs⟩ := r; exact ⟨a, vs, e, R.same.seq q, rs⟩
  | cell k =>
    obtain ⟨a, e, ha⟩ := r
    unfold listD at h
    dsimp only at h
    split at h
    · rename_i xs e'
      cases h
      obtain ⟨_, _, vs, hv, rs⟩ := R.cell k a _ ha e'
      exact ⟨a, vs, e, .inl (.inl hv), rs⟩
    · rename_i xs e'
      cases h
      obtain ⟨_, vs, hv, rs⟩ := R.cell k a _ ha e'
      exact ⟨a, vs, e, .inl (.inl (R.same _ _ hv)), rs⟩
    · cases h
  | _ => cases h
def maxL : List Int → Int
  | [] => 0
  | [x] => x
  | x :: xs => max x (maxL xs)
def minL : List Int → Int
  | [] => 0
  | [x] => x
  | x :: xs => min x (minL xs)
theorem maxL_mem : ∀ {l : List Int}, 0 < l.length → maxL l ∈ l
  | [x], _ => by simp [maxL]
  | x :: y :: xs, _ => by
    have ih := maxL_mem (l := y :: xs) (by simp)
    show max x (maxL (y :: xs)) ∈ _
    by_cases h : x ≤ maxL (y :: xs)
    · rw [Int.max_eq_right h]; exact List.mem_cons_of_mem _ ih
    · rw [Int.max_eq_left (by omega)]; exact List.mem_cons_self
theorem maxL_ge : ∀ {l : List Int}, ∀ y ∈ l, y ≤ maxL l
  | [x], y, h => by simp at h; simp [maxL, h]
  | x :: z :: xs, y, h => by
    have ih := maxL_ge (l := z :: xs)
    show y ≤ max x (maxL (z :: xs))
    rcases List.mem_cons.mp h with e | e
    · subst e; exact Int.le_max_left _ _
    · exact Int.le_trans (ih y e) (Int.le_max_right _ _)
theorem minL_mem : ∀ {l : List Int}, 0 < l.length → minL l ∈ l
  | [x], _ => by simp [minL]
  | x :: y :: xs, _ => by
    have ih := minL_mem (l := y :: xs) (by simp)
    show min x (minL (y :: xs)) ∈ _
    by_cases h : x ≤ minL (y :: xs)
    · rw [Int.min_eq_left h]; exact List.mem_cons_self
    · rw [Int.min_eq_right (by omega)]; exact List.mem_cons_of_mem _ ih
theorem minL_le : ∀ {l : List Int}, ∀ y ∈ l, minL l ≤ y
  | [x], y, h => by simp at h; simp [minL, h]
  | x :: z :: xs, y, h => by
    have ih := minL_le (l := z :: xs)
    show min x (minL (z :: xs)) ≤ y
    rcases List.mem_cons.mp h with e | e
    · subst e; exact Int.min_le_left _ _
    · exact Int.le_trans (Int.min_le_right _ _) (ih y e)
def maxD (ds : List D) : M D := fun S => match ds with
  | [.int i, .int j] => .ok (.int (if j > i then j else i)) S
  | [d] => match (listD d S).bind intsOf with
    | some ns => if 0 < ns.length then .ok (.int (maxL ns)) S else .bad
    | none => .bad
  | _ => .bad
theorem cd_max (hc : X.calm = true) : CallD X (.builtin "max") maxD := by
  refine ⟨_, CallR.or (call_max2 hc) (cr_max hc), fun w S H Q xs us R r h => ?_⟩
  unfold maxD at h
  split at h
  · obtain ⟨v, r, rfl, rv, v2, r2, rfl, rv2, rfl⟩ := r
    cases rv; cases rv2
    exact .inl ⟨_, _, rfl, h.ok (.refl w) R rfl⟩
  · obtain ⟨v, r, rfl, rv, rfl⟩ := r
    split at h
    · rename_i d ns e
      obtain ⟨ys, e1, e2⟩ := Option.bind_eq_some_iff.mp e
      obtain ⟨p, vs, rfl, q, rs⟩ := list_of R rv e1
      rw [intsOf_eq e2] at rs
      rw [rs.ints] at q
      split at h
      · rename_i hz
        refine .inr ⟨p, ns, rfl, q, hz, fun m hm hle => ?_⟩
        have e : m = maxL ns := Int.le_antisymm (maxL_ge m hm) (hle _ (maxL_mem hz))
        rw [e]
        exact h.ok (.refl w) R rfl
      · exact h.elim
    · exact h.elim
  · exact h.elim
def minD (ds : List D) : M D := fun S => match ds with
  | [.int i, .int j] => .ok (.int (if j < i then j else i)) S
  | [d] => match (listD d S).bind intsOf with
    | some ns => if 0 < ns.length then .ok (.int (minL ns)) S else .bad
    | none => .bad
  | _ => .bad
theorem cd_min (hc : X.calm = true) : CallD X (.builtin "min") minD := by
  refine ⟨_, CallR.or (call_min2 hc) (cr_min hc), fun w S H Q xs us R r h => ?_⟩
  unfold minD at h
  split at h
  · obtain ⟨v, r, rfl, rv, v2, r2, rfl, rv2, rfl⟩ := r
    cases rv; cases rv2
    exact .inl ⟨_, _, rfl, h.ok (.refl w) R rfl⟩
  · obtain ⟨v, r, rfl, rv, rfl⟩ := r
    split at h
    · rename_i d ns e
      obtain ⟨ys, e1, e2⟩ := Option.bind_eq_some_iff.mp e
      obtain ⟨p, vs, rfl, q, rs⟩ := list_of R rv e1
      rw [intsOf_eq e2] at rs
      rw [rs.ints] at q
      split at h
      · rename_i hz
        refine .inr ⟨p, ns, rfl, q, hz, fun m hm hle => ?_⟩
        have e : m = minL ns := Int.le_antisymm (hle _ (minL_mem hz)) (minL_le m hm)
        rw [e]
        exact h.ok (.refl w) R rfl
      · exact h.elim
    · exact h.elim
  · exact h.elim
def sumD (ds : List D) : M D := fun S => match ds with
  | [d] => match (listD d S).bind intsOf with
    | some ns => .ok (.int ns.sum) S
    | none => .bad
  | _ => .bad
theorem cd_sum (hc : X.calm = true) : CallD X (.builtin "sum") sumD := by
  refine ⟨_, cr_sum hc, fun w S H Q xs us R r h => ?_⟩
  unfold sumD at h
  split at h
  · obtain ⟨v, r, rfl, rv, rfl⟩ := r
    split at h
    · rename_i d ns e
      obtain ⟨ys, e1, e2⟩ := Option.bind_eq_some_iff.mp e
      obtain ⟨p, vs, rfl, q, rs⟩ := list_of R rv e1
      rw [intsOf_eq e2] at rs
      rw [rs.ints] at q
      exact ⟨p, ns, rfl, q, h.ok (.refl w) R rfl⟩
    · exact h.elim
  · exact h.elim
def allD (ds : List D) : M D := fun S => match ds with
  | [d] => match (listD d S).bind blsOf with
    | some ns => .ok (.bl (ns.all id)) S
    | none => .bad
  | _ => .bad
theorem cd_all (hc : X.calm = true) : CallD X (.builtin "all") allD := by
  refine ⟨_, cr_all hc, fun w S H Q xs us R r h => ?_⟩
  unfold allD at h
  split at h
  · obtain ⟨v, r, rfl, rv, rfl⟩ := r
    split at h
    · rename_i d ns e
      obtain ⟨ys, e1, e2⟩ := Option.bind_eq_some_iff.mp e
      obtain ⟨p, vs, rfl, q, rs⟩ := list_of R rv e1
      rw [blsOf_eq e2] at rs
      rw [rs.bls] at q
      exact ⟨p, ns, rfl, q, h.ok (.refl w) R rfl⟩
    · exact h.elim
  · exact h.elim
def anyD (ds : List D) : M D := fun S => match ds with
  | [d] => match (listD d S).bind blsOf with
    | some ns => .ok (.bl (ns.any id)) S
    | none => .bad
  | _ => .bad
theorem cd_any (hc : X.calm = true) : CallD X (.builtin "any") anyD := by
  refine ⟨_, cr_any hc, fun w S H Q xs us R r h => ?_⟩
  unfold anyD at h
  split at h
  · obtain ⟨v, r, rfl, rv, rfl⟩ := r
    split at h
    · rename_i d ns e
      obtain ⟨ys, e1, e2⟩ := Option.bind_eq_some_iff.mp e
      obtain ⟨p, vs, rfl, q, rs⟩ := list_of R rv e1
      rw [blsOf_eq e2] at rs
      rw [rs.bls] at q
      exact ⟨p, ns, rfl, q, h.ok (.refl w) R rfl⟩
    · exact h.elim
  · exact h.elim
def intD (ds : List D) : M D := fun S => match ds with
  | [.int i] => .ok (.int i) S
  | [.bl k] => .ok (.int (if k then 1 else 0)) S
  | [.str a] => match PySem.intText? a with
    | some n => if a.length ≤ 640 then .ok (.int n) S else .bad
    | none => .bad
  | _ => .bad
theorem cd_int : CallD X (.type "int") intD := by
  refine ⟨_, CallR.or call_int1 call_int_str, fun w S H Q xs us R r h => ?_⟩
  unfold intD at h
  split at h
  · obtain ⟨v, r, rfl, rv, rfl⟩ := r
    cases rv
    exact .inl (.inl ⟨_, rfl, h.ok (.refl w) R rfl⟩)
  · obtain ⟨v, r, rfl, rv, rfl⟩ := r
    cases rv
    exact .inl (.inr ⟨_, rfl, h.ok (.refl w) R rfl⟩)
  · obtain ⟨v, r, rfl, rv, rfl⟩ := r
    cases rv
    split at h
    · rename_i n e
      split at h
      · rename_i hz
        exact .inr ⟨_, n, rfl, e, hz, h.ok (.refl w) R rfl⟩
      · exact h.elim
    · exact h.elim
  · exact h.elim
def strD (ds : List D) : M D := fun S => match ds with
  | [.int i] => if i.natAbs.log2 < 1920 then .ok (.str (toString i)) S else .bad
  | _ => .bad
theorem cd_str : CallD X (.type "str") strD := by
  refine ⟨_, call_str_int, fun w S H Q xs us R r h => ?_⟩
  unfold strD at h
  split at h
  · obtain ⟨v, r, rfl, rv, rfl⟩ := r
    cases rv
    split at h
    · rename_i hz
      exact ⟨_, rfl, hz, h.ok (.refl w) R rfl⟩
    · exact h.elim
  · exact h.elim
def tupleD (ds : List D) : M D := fun S => match ds with
  | [.tup xs] => .ok (.tup xs) S
  | [d] => match listD d S with
    | some xs => .ok (.tup xs) S
    | none => .bad
  | _ => .bad
theorem cd_tuple : CallD X (.type "tuple") tupleD := by
  refine ⟨_, call_tuple_of, fun w S H Q xs us R r h => ?_⟩
  unfold tupleD at h
  split at h
  · obtain ⟨v, r, rfl, ⟨a, vs, rfl, q, rs⟩, rfl⟩ := r
    exact ⟨a, vs, rfl, .inr ⟨sqT_mono R.same q, h.ok (.refl w) R ⟨a, vs, rfl, q, rs⟩⟩⟩
  · obtain ⟨v, r, rfl, rv, rfl⟩ := r
    split at h
    · rename_i xs e
      obtain ⟨p, vs, rfl, q, rs⟩ := list_of R rv e
      refine ⟨p, vs, rfl, .inl ⟨q, fun l hl => ?_⟩⟩
      obtain ⟨R2, l2⟩ := R.laid hl (.tup vs)
      exact h.ok l2 R2 ⟨l, vs, rfl, .inl (.inl upd_same), rs.mono l2⟩
    · exact h.elim
  · exact h.elim
def listD1 (ds : List D) : M D := fun S => match ds with
  | [d] => match itemsD d S with
    | some xs => .ok (.lst xs) S
    | none => .bad
  | _ => .bad
theorem cd_list : CallD X (.type "list") listD1 := by
  refine ⟨_, call_list_of, fun w S H Q xs us R r h => ?_⟩
  unfold listD1 at h
  split at h
  · obtain ⟨v, r, rfl, rv, rfl⟩ := r
    split at h
    · rename_i xs e
      obtain ⟨p, vs, rfl, q, rs⟩ := items_of R rv e
      refine ⟨p, vs, rfl, q.symm, fun l hl => ?_⟩
      obtain ⟨R2, l2⟩ := R.laid hl (.lst vs)
      exact h.ok l2 R2 ⟨l, vs, rfl, .inl upd_same, rs.mono l2⟩
    · exact h.elim
  · exact h.elim
def divmodD (ds : List D) : M D := fun S => match ds with
  | [.int i, .int j] => if 0 < j ∧ j < 1073741824 then .ok (.tup [.int (i / j), .int (i % j)]) S else .bad
  | _ => .bad
theorem cd_divmod : CallD X (.builtin "divmod") divmodD := by
  refine ⟨_, call_divmod, fun w S H Q xs us R r h => ?_⟩
  unfold divmodD at h
  split at h
  · obtain ⟨v, r, rfl, rv, v2, r2, rfl, rv2, rfl⟩ := r
    cases rv; cases rv2
    split at h
    · rename_i hz
      refine ⟨_, _, rfl, hz, fun p hp => ?_⟩
      obtain ⟨R2, l2⟩ := R.laid hp (.tup _)
      exact h.ok l2 R2 ⟨p, _, rfl, .inl (.inl upd_same), _, _, rfl, rfl, _, _, rfl, rfl, rfl⟩
    · exact h.elim
  · exact h.elim
/-! ### isinstance -/
def tyN : D → Option String
  | .non => some "NoneType"
  | .bl _ => some "bool"
  | .int _ => some "int"
  | .str _ => some "str"
  | .tup _ => some "tuple"
  | .lst _ => some "list"
  | _ => none
theorem tyX_of {K : PySem.W.Frag} {mg : Str → Option Value} {w : Wd} {S : Sto} {H : Hp} {d : D} {v : V} {t : String} (R : Rep K mg w S H) (r : RelD K mg w d v) (h : tyN d = some t) : TyX K H v (.type t) := by
  cases d with
  | non => cases h; cases r; exact .base .non
  | bl b => cases h; cases r; exact .base (.bl b)
  | int i => cases h; cases r; exact .base (.int i)
  | str x => cases h; cases r; exact .base (.str x)
  | tup xs =>
    cases h
    obtain ⟨a, vs, rfl, q, rs⟩ := r
    rcases sqT_mono R.same q with (q | ⟨o, q⟩) | ⟨o, its, n, q1, q2, _⟩
    · exact .base (.tup q)
    · exact .fTuple q
    · exact .kTuple q1 q2
  | lst xs =>
    cases h
    obtain ⟨a, vs, rfl, q, rs⟩ := r
    rcases rd_mono R.same q with q | ⟨o, q⟩
    · exact .base (.lst q)
    · exact .base (.frz q)
  | _ => cases h
/-- isinstance of a value that is no instance of an own class, with a built-in class -/
def isiD (ds : List D) : M D := fun S => match ds with
  | [d, .ty T] => match (tyN d).bind fun t => kitB t T with
    | some b => .ok (.bl b) S
    | none => .bad
  | _ => .bad
theorem cd_isi : CallD X (.builtin "isinstance") isiD := by
  refine ⟨_, call_isi, fun w S H Q xs us R r h => ?_⟩
  unfold isiD at h
  split at h
  · obtain ⟨v, r, rfl, rv, v2, r2, rfl, rv2, rfl⟩ := r
    cases rv2
    split at h
    · rename_i b e
      obtain ⟨t, e1, e2⟩ := Option.bind_eq_some_iff.mp e
      exact ⟨v, _, _, _, b, rfl, .ty _, tyX_of R rv e1, kit_ty e2, h.ok (.refl w) R rfl⟩
    · exact h.elim
  · exact h.elim
/-! ### items, slices -/
def ixD (x y : D) : M D := fun S => match x, y with
  | .str z, .int i => if z.length ≤ szL then match atI z.cps.toList i with
      | some c => .ok (.str ⟨#[c]⟩) S
      | none => .bad
    else .bad
  | x, .int i => match (itemsD x S).bind fun xs => atI xs i with
    | some d => .ok d S
    | none => .bad
  | _, _ => .bad
theorem atI_rel {K : PySem.W.Frag} {mg : Str → Option Value} {w : Wd} {ds : List D} {vs : List V} {i : Int} {d : D} (r : RelDs K mg w ds vs) (h : atI ds i = some d) : ∃ v, atI vs i = some v ∧ RelD K mg w d v := by
  unfold atI at h ⊢
  obtain ⟨j, e1, e2⟩ := Option.bind_eq_some_iff.mp h
  obtain ⟨v, e3, e4⟩ := r.get e2
  exact ⟨v, by rw [r.length, e1]; exact e3, e4⟩
end
section
variable {X : Cx} {E : XK} {a b : Expr} {ma mb : Env → M D} {pos : Pos}
theorem ev_ix (ha : EV X E a ma) (hb : EV X E b mb) (hs : PlainIx b) : EV X E (.Subscript a b pos) (mBin ixD ma mb) := by
  obtain ⟨ta, pa, qa⟩ := ha
  obtain ⟨tb, pb, qb⟩ := hb
  refine ⟨_, pe_ix ix_seq pa pb hs, fun w env S σ H Q R RE h => ?_⟩
  refine qa w env S σ H _ R RE (h.bind fun x S1 w1 H1 u l1 R1 r1 h => ?_)
  refine qb w1 env S1 σ H1 _ R1 (RE.mono l1) (h.bind fun y S2 w2 H2 v l2 R2 r2 h => ?_)
  have r1 := r1.mono l2
  have h := good_noex (E' := E) h
  unfold ixD at h
  split at h
  · cases r1; cases r2
    split at h
    · rename_i hz
      split at h
      · rename_i c e
        exact .inr (.inr ⟨_, _, c, rfl, rfl, by rw [← szL_eq]; exact hz, e, h.ok (.refl _) R2 rfl⟩)
      · exact h.elim
    · exact h.elim
  · cases r2
    split at h
    · rename_i d e
      obtain ⟨xs, e1, e2⟩ := Option.bind_eq_some_iff.mp e
      obtain ⟨p, vs, rfl, q, rs⟩ := items_of R2 r1 e1
      obtain ⟨v, e3, e4⟩ := atI_rel rs e2
      rcases q with q | q
      · exact .inr (.inl ⟨p, vs, _, v, rfl, rfl, q, e3, h.ok (.refl _) R2 e4⟩)
      · exact .inl ⟨p, vs, _, v, rfl, rfl, q, e3, h.ok (.refl _) R2 e4⟩
    · exact h.elim
  · exact h.elim
/-! slices -/
def EO (X : Cx) (E : XK) (e : Option Expr) (m : Env → M (Option Int)) : Prop :=
  ∃ t, PO X e t ∧ ∀ w env S σ H Q, Rep X.K X.mg w S H → RelEnv X.K X.mg w env σ → Good X.K X.mg E w (fun _ a b => b = a) (m env S) Q → t σ H Q
def mNo : Env → M (Option Int) := fun _ S => .ok none S
def intP (d : D) : M (Option Int) := fun S => match d with
  | .int i => .ok (some i) S
  | _ => .bad
def mSo (ma : Env → M D) : Env → M (Option Int) := fun env S => (ma env S).bind intP
theorem eo_none : EO X E none mNo := ⟨_, po_none, fun w env S σ H Q R RE h => h.ok (.refl w) R rfl⟩
theorem eo_some (ha : EV X E a ma) : EO X E (some a) (mSo ma) := by
  obtain ⟨ta, pa, qa⟩ := ha
  refine ⟨_, po_some pa, fun w env S σ H Q R RE h => ?_⟩
  refine qa w env S σ H _ R RE (h.bind fun x S1 w1 H1 u l1 R1 r1 h => ?_)
  unfold intP at h
  split at h
  · cases r1
    exact ⟨_, rfl, h.ok (.refl _) R1 rfl⟩
  · exact h.elim
def cutL {α : Type} (xs : List α) (lo hi : Option Int) : List α := (xs.drop (HT.sIx xs.length 0 lo)).take (HT.sIx xs.length xs.length hi - HT.sIx xs.length 0 lo)
def slD (x : D) (lo hi : Option Int) : M D := fun S => match x with
  | .str z => if z.length ≤ szL then .ok (.str (cutS z lo hi)) S else .bad
  | .tup xs => .ok (.tup (cutL xs lo hi)) S
  | x => match listD x S with
    | some xs => .ok (.lst (cutL xs lo hi)) S
    | none => .bad
def mSl (ma : Env → M D) (ml mh : Env → M (Option Int)) : Env → M D := fun env S => (ma env S).bind fun x S1 => (ml env S1).bind fun lo S2 => (mh env S2).bind fun hi S3 => slD x lo hi S3
theorem cutL_rel {K : PySem.W.Frag} {mg : Str → Option Value} {w : Wd} {ds : List D} {vs : List V} (lo hi : Option Int) (r : RelDs K mg w ds vs) : RelDs K mg w (cutL ds lo hi) (cutV vs lo hi) := by
  unfold cutL cutV
  rw [r.length]
  exact (r.drop _).take _
end
end Gn

/-! GD: slices, methods of texts, attributes, calls of own defs, methods, classes. -/
namespace Gn
open PySem PySem.Spec PyProof.Rows L2

section
variable {X : Cx} {E : XK} {a b : Expr} {ma mb : Env → M D} {ml : Env → M (List D)} {mlo mhi : Env → M (Option Int)} {lo hi : Option Expr} {pos p2 : Pos} {es : List Expr}
theorem cutL_whole {l k : Option Int} (ds : List D) (vs : List V) (e : vs.length = ds.length) (hw : HT.sIx vs.length 0 l = 0 ∧ HT.sIx vs.length vs.length k = vs.length) : cutL ds l k = ds := by
  unfold cutL
  rw [← e, hw.1, hw.2, List.drop_zero, Nat.sub_zero, e, List.take_length]
theorem ev_slice (ha : EV X E a ma) (hl : EO X E lo mlo) (hh : EO X E hi mhi) : EV X E (.Subscript a (.Slice lo hi none p2) pos) (mSl ma mlo mhi) := by
  obtain ⟨ta, pa, qa⟩ := ha
  obtain ⟨tl, pl, ql⟩ := hl
  obtain ⟨th, ph, qh⟩ := hh
  refine ⟨_, pe_slice (sl_str.or (sl_tupA.or sl_list)) pa pl ph, fun w env S σ H Q R RE h => ?_⟩
  refine qa w env S σ H _ R RE (h.bind fun x S1 w1 H1 u l1 R1 r1 h => ?_)
  refine ql w1 env S1 σ H1 _ R1 (RE.mono l1) (h.bind fun l S2 w2 H2 l' l2 R2 r2 h => ?_)
  subst r2
  refine qh w2 env S2 σ H2 _ R2 (RE.mono (l1.trans l2)) (h.bind fun k S3 w3 H3 k' l3 R3 r3 h => ?_)
  subst r3
  have r1 := r1.mono (l2.trans l3)
  unfold slD at h
  split at h
  · cases r1
    split at h
    · rename_i hz
      exact .inl ⟨_, rfl, by rw [← szL_eq]; exact hz, h.ok (.refl _) R3 rfl⟩
    · exact h.elim
  · obtain ⟨p, vs, rfl, q, rs⟩ := r1
    have q3 := sqT_mono R3.same q
    refine .inr (.inl ⟨p, vs, rfl, q3, fun hw => ?_, fun _ l hl => ?_⟩)
    · exact h.ok (.refl _) R3 ⟨p, vs, rfl, q, by rw [cutL_whole _ _ rs.length hw]; exact rs⟩
    · obtain ⟨R4, l4⟩ := R3.laid hl (.tup (cutV vs l' k'))
      exact h.ok l4 R4 ⟨l, _, rfl, .inl (.inl upd_same), (cutL_rel _ _ rs).mono l4⟩
  · split at h
    · rename_i xs e
      obtain ⟨p, vs, rfl, q, rs⟩ := list_of R3 r1 e
      refine .inr (.inr ⟨p, vs, rfl, q, fun l hl => ?_⟩)
      obtain ⟨R4, l4⟩ := R3.laid hl (.lst (cutV vs l' k'))
      exact h.ok l4 R4 ⟨l, _, rfl, .inl upd_same, (cutL_rel _ _ rs).mono l4⟩
    · exact h.elim
/-! ### texts -/
def mStrM (g : Str → D → M D) (ma mb : Env → M D) : Env → M D := fun env S => (ma env S).bind fun x S1 => match x with
  | .str a => (mb env S1).bind fun y S2 => noex (g a y S2)
  | _ => .bad
def splitD (a : Str) (y : D) : M D := fun S => match y with
  | .str b => if (b.length == 0) = false ∧ a.length + 2 ≤ szL then .ok (.lst ((Txt.split a b).map D.str)) S else .bad
  | _ => .bad
theorem ev_split {apos : Pos} (ha : EV X E a ma) (hb : EV X E b mb) (hs : starEach [b] X.env = [(false, eval b X.env)] := by rfl) (hbase : attributeBase a "split" X.env (eval a X.env) = eval a X.env := by rfl) (hline : (apos.endLine == pos.line) = true := by rfl) :
    EV X E (.Call (.Attribute a "split" apos) [b] [] pos) (mStrM splitD ma mb) := by
  obtain ⟨ta, pa, qa⟩ := ha
  obtain ⟨tb, pb, qb⟩ := hb
  refine ⟨_, pe_split pa pb hs hbase hline, fun w env S σ H Q R RE h => ?_⟩
  refine qa w env S σ H _ R RE (h.bind fun x S1 w1 H1 u l1 R1 r1 h => ?_)
  split at h
  · cases r1
    refine ⟨⟨_, rfl⟩, qb w1 env S1 σ H1 _ R1 (RE.mono l1) (h.bind fun y S2 w2 H2 v l2 R2 r2 h => ?_)⟩
    have h := good_noex (E' := E) h
    unfold splitD at h
    split at h
    · cases r2
      split at h
      · rename_i hz
        refine ⟨_, _, rfl, rfl, hz.1, by rw [← szL_eq]; exact hz.2, fun p hp => ?_⟩
        obtain ⟨R3, l3⟩ := R2.laid hp (.lst ((Txt.split _ _).map V.str))
        exact h.ok l3 R3 ⟨p, _, rfl, .inl upd_same, RelDs.of_strs _⟩
      · exact h.elim
    · exact h.elim
  · exact h.elim
def itemsLT (d : D) (S : Sto) : Option (List Str) := (itemsD d S).bind strsOf
def joinD (a : Str) (y : D) : M D := fun S => match itemsLT y S with
  | some ys => if (ys.map (·.length)).sum + ys.length * a.length ≤ 16777216 then .ok (.str (Txt.join a ys)) S else .bad
  | none => .bad
theorem ev_join {apos : Pos} (ha : EV X E a ma) (hb : EV X E b mb) (hs : starEach [b] X.env = [(false, eval b X.env)] := by rfl) (hbase : attributeBase a "join" X.env (eval a X.env) = eval a X.env := by rfl) (hline : (apos.endLine == pos.line) = true := by rfl) :
    EV X E (.Call (.Attribute a "join" apos) [b] [] pos) (mStrM joinD ma mb) := by
  obtain ⟨ta, pa, qa⟩ := ha
  obtain ⟨tb, pb, qb⟩ := hb
  refine ⟨_, pe_join pa pb hs hbase hline, fun w env S σ H Q R RE h => ?_⟩
  refine qa w env S σ H _ R RE (h.bind fun x S1 w1 H1 u l1 R1 r1 h => ?_)
  split at h
  · cases r1
    refine ⟨⟨_, rfl⟩, qb w1 env S1 σ H1 _ R1 (RE.mono l1) (h.bind fun y S2 w2 H2 v l2 R2 r2 h => ?_)⟩
    have h := good_noex (E' := E) h
    unfold joinD at h
    split at h
    · rename_i ys e
      obtain ⟨zs, e1, e2⟩ := Option.bind_eq_some_iff.mp e
      obtain ⟨p, vs, rfl, q, rs⟩ := items_of R2 r2 e1
      rw [strsOf_eq e2] at rs
      rw [rs.strs] at q
      split at h
      · rename_i hz
        exact ⟨_, p, ys, rfl, rfl, q.symm, hz, h.ok (.refl _) R2 rfl⟩
      · exact h.elim
    · exact h.elim
  · exact h.elim
/-! ### attributes -/
structure ClsAt (K : PySem.W.Frag) (mg : Str → Option Value) (c : Str) (C : Addr) : Prop where
  at_ : mg c = some (.ref C)
  cls : Cls K C
/-- the fields of an instance of the class c -/
def fieldsD (c : Str) (d : D) (S : Sto) : Option (List (Str × D)) := match d with
  | .ins c' fs => if c' = c then some fs else none
  | .cell k => match S[k]? with
    | some (.ins c' fs) => if c' = c then some fs else none
    | some (.frzi c' fs) => if c' = c then some fs else none
    | _ => none
  | _ => none
theorem fields_of {K : PySem.W.Frag} {mg : Str → Option Value} {w : Wd} {S : Sto} {H : Hp} {d : D} {v : V} {c : Str} {C : Addr} {fs : List (Str × D)} (R : Rep K mg w S H) (r : RelD K mg w d v) (hc : mg c = some (.ref C)) (h : fieldsD c d S = some fs) :
    ∃ a dx vs, v = .ref a ∧ H a = some (.ins C dx vs) ∧ RelFs K mg w fs vs := by
  cases d with
  | ins c' fs' =>
    obtain ⟨a, C', dx, vs, e, m, q, rs⟩ := r
    unfold fieldsD at h
    dsimp only at h
    split at h
    · rename_i e2
      cases h
      subst e2
      rw [hc] at m
      cases m
      exact ⟨a, dx, vs, e, R.same _ _ q, rs⟩
    · cases h
  | cell k =>
    obtain ⟨a, e, ha⟩ := r
    unfold fieldsD at h
    dsimp only at h
    split at h
    · rename_i c' fs' e'
      split at h
      · rename_i e2
        cases h
        subst e2
        obtain ⟨_, _, C', dx, vs, m, q, rs⟩ := R.cell k a _ ha e'
        rw [hc] at m
        cases m
        exact ⟨a, dx, vs, e, q, rs⟩
      · cases h
    · rename_i c' fs' e'
      split at h
      · rename_i e2
        cases h
        subst e2
        obtain ⟨_, C', dx, vs, m, q, rs⟩ := R.cell k a _ ha e'
        rw [hc] at m
        cases m
        exact ⟨a, dx, vs, e, R.same _ _ q, rs⟩
      · cases h
    · cases h
  | _ => cases h
def mFld (c f : Str) (ma : Env → M D) : Env → M D := fun env S => (ma env S).bind fun x S1 => match (fieldsD c x S1).bind fun fs => fs.lookup f with
  | some d => .ok d S1
  | none => .bad
theorem ev_fld {c f : Str} {C : Addr} (hc : ClsAt X.K X.mg c C) (hn : NoAttr X.K C f) (ha : EV X E a ma) (hb : attributeBase a f X.env (eval a X.env) = eval a X.env := by rfl) : EV X E (.Attribute a f pos) (mFld c f ma) := by
  obtain ⟨ta, pa, qa⟩ := ha
  refine ⟨_, pe_fld pa hb, fun w env S σ H Q R RE h => ?_⟩
  refine qa w env S σ H _ R RE (h.bind fun x S1 w1 H1 u l1 R1 r1 h => ?_)
  split at h
  · rename_i d e
    obtain ⟨fs, e1, e2⟩ := Option.bind_eq_some_iff.mp e
    obtain ⟨p, dx, vs, e3, e4, rs⟩ := fields_of R1 r1 hc.at_ e1
    obtain ⟨v, e5, rv⟩ := rs.lookup e2
    exact ⟨p, C, dx, vs, v, e3, e4, hc.cls, hn, e5, h.ok (.refl _) R1 rv⟩
  · exact h.elim
end
/-! ### own defs -/
/-- a def's promise: the function of D's -/
def spM (K : PySem.W.Frag) (mg : Str → Option Value) (n : Nat) (fm : List D → M D) : Sp := fun vs H Q E => vs.length = n ∧ ∃ w S ds, RelDs K mg w ds vs ∧ Rep K mg w S H ∧ Good K mg E w (RelD K mg) (fm ds S) Q
def spR (K : PySem.W.Frag) (mg : Str → Option Value) (fm : List D → M D) : Sp := fun vs H Q E => ∃ w S ds, RelDs K mg w ds vs ∧ Rep K mg w S H ∧ Good K mg E w (RelD K mg) (fm ds S) Q
/-- the module's def x -/
structure Cal (P : Program) (wd : World) (K : PySem.W.Frag) (mg : Str → Option Value) (base : Heap) (k : Nat) (x : Str) (ps : List Str) (fm : List D → M D) : Prop where
  ex : ∃ f fd, mg x = some (.ref f) ∧ PySem.W.keepIn K (.ref f) = true ∧ Binds K fd ps [] ∧ FnOk P wd K mg base (L2.CX P wd) k f fd ps (spM K mg ps.length fm)
/-- the class's def m, of D's with the instance ahead -/
structure Met (P : Program) (wd : World) (K : PySem.W.Frag) (mg : Str → Option Value) (base : Heap) (k : Nat) (c m : Str) (ps : List Str) (fm : List D → M D) : Prop where
  ex : ∃ C f fd, ClsAt K mg c C ∧ Meth K C m f ∧ Binds K fd ps [] ∧ FnOk P wd K mg base (L2.CX P wd) k f fd ps (spM K mg ps.length fm)
def mCall (n : Nat) (fm : List D → M D) (ml : Env → M (List D)) : Env → M D := fun env S => (ml env S).bind fun ds S1 => if ds.length = n then fm ds S1 else .bad
section
variable {X : Cx} {E : XK} {a b : Expr} {ma mb : Env → M D} {ml : Env → M (List D)} {pos : Pos} {es : List Expr} {k j : Nat} {x c m : Str} {ps : List Str} {fm : List D → M D}
theorem ev_call {p : Pos} (c : Cal X.prog X.w X.K X.mg X.base k x ps fm) (hr : Room j X.A) (hx : Passes (L2.CX X.prog X.w) X E) (hg : Gl X x) (ha : EA X E (a :: es) ml) (hk : k ≤ j := by decide) (hd : (x == ("__debug__" : Str)) = false := by decide)
    (he : starEach (a :: es) X.env = (false, eval a X.env) :: starEach es X.env := by rfl) (hpl : (backTo pos (starEach es X.env)).any (·.1) = false := by rfl) : EV X E (.Call (.Name x p) (a :: es) [] pos) (mCall ps.length fm ml) := by
  obtain ⟨f, fd, h1, h2, h3, h4⟩ := c.ex
  obtain ⟨t, p1, q1⟩ := ha
  refine ⟨_, pe_call h4 (hr.mono hk) hg h1 h2 h3 .nil hx p1 hd he hpl, fun w env S σ H Q R RE h => ?_⟩
  refine q1 w env S σ H _ R RE (h.bind fun ds S1 w1 H1 us l1 R1 r1 h => ?_)
  rw [List.append_nil]
  split at h
  · rename_i hl
    exact ⟨by rw [r1.length]; exact hl, w1, S1, ds, r1, R1, h⟩
  · exact h.elim
theorem ev_call0 {p : Pos} (c : Cal X.prog X.w X.K X.mg X.base k x ps fm) (hr : Room j X.A) (hx : Passes (L2.CX X.prog X.w) X E) (hg : Gl X x) (hk : k ≤ j := by decide) (hd : (x == ("__debug__" : Str)) = false := by decide) : EV X E (.Call (.Name x p) [] [] pos) (mCall ps.length fm mNil) := by
  obtain ⟨f, fd, h1, h2, h3, h4⟩ := c.ex
  refine ⟨_, pe_call0 h4 (hr.mono hk) hg h1 h2 h3 .nil hx hd, fun w env S σ H Q R RE h => ?_⟩
  unfold mCall mNil at h
  rw [bind_ok] at h
  show spM X.K X.mg ps.length fm ([] ++ []) H Q E
  rw [List.append_nil]
  split at h
  · rename_i hl
    exact ⟨hl, w, S, [], rfl, R, h⟩
  · exact h.elim
/-- o.m(..) -/
def mMeth (c m : Str) (n : Nat) (fm : List D → M D) (ma : Env → M D) (ml : Env → M (List D)) : Env → M D := fun env S => (ma env S).bind fun x S1 => match fieldsD c x S1 with
  | some fs => if fs.lookup m = none then (ml env S1).bind fun ds S2 => if ds.length + 1 = n then fm (x :: ds) S2 else .bad else .bad
  | none => .bad
theorem ev_meth {apos : Pos} {pl : Sem Bool} (ct : Met X.prog X.w X.K X.mg X.base k c m ps fm) (hr : Room j X.A) (hx : Passes (L2.CX X.prog X.w) X E) (ho : EV X E b mb) (ha : EA X E (a :: es) ml) (hk : k ≤ j := by decide)
    (hst : starEach (a :: es) X.env = (false, eval a X.env) :: starEach es X.env := by rfl) (hpl : (backTo pos (starEach es X.env)).any (·.1) = false := by rfl)
    (ht : eval (.Call (.Attribute b m apos) (a :: es) [] pos) X.env = (do
      let ov ← eval b X.env
      standAt apos.atName
      let (f, first) ← holding [ov] (getMethod ov m pl)
      callWith pos f first (backTo pos (starEach (a :: es) X.env)) (backToKw pos (keywordEach [] X.env))) := by rfl) : EV X E (.Call (.Attribute b m apos) (a :: es) [] pos) (mMeth c m ps.length fm mb ml) := by
  obtain ⟨C, f, fd, h1, h2, h3, h4⟩ := ct.ex
  obtain ⟨tb, pb, qb⟩ := ho
  obtain ⟨t, p1, q1⟩ := ha
  refine ⟨_, pe_meth pb h1.cls h2 h4 (hr.mono hk) h3 .nil hx p1 hst hpl ht, fun w env S σ H Q R RE h => ?_⟩
  refine qb w env S σ H _ R RE (h.bind fun o S1 w1 H1 u l1 R1 r1 h => ?_)
  split at h
  · rename_i fs e
    obtain ⟨p, dx, vs, e3, e4, rs⟩ := fields_of R1 r1 h1.at_ e
    split at h
    · rename_i hn
      refine ⟨p, dx, vs, e3, e4, rs.lookup_none hn, ?_⟩
      refine q1 w1 env S1 σ H1 _ R1 (RE.mono l1) (h.bind fun ds S2 w2 H2 us l2 R2 r2 h => ?_)
      rw [List.append_nil]
      split at h
      · rename_i hl
        exact ⟨by rw [List.length_cons, r2.length]; exact hl, w2, S2, o :: ds, ⟨u, us, rfl, r1.mono l2, r2⟩, R2, h⟩
      · exact h.elim
    · exact h.elim
  · exact h.elim
theorem ev_meth0 {apos : Pos} {pl : Sem Bool} (ct : Met X.prog X.w X.K X.mg X.base k c m ps fm) (hr : Room j X.A) (hx : Passes (L2.CX X.prog X.w) X E) (ho : EV X E b mb) (hk : k ≤ j := by decide)
    (ht : eval (.Call (.Attribute b m apos) [] [] pos) X.env = (do
      let ov ← eval b X.env
      standAt apos.atName
      let (f, first) ← holding [ov] (getMethod ov m pl)
      callWith pos f first (backTo pos (starEach [] X.env)) (backToKw pos (keywordEach [] X.env))) := by rfl) : EV X E (.Call (.Attribute b m apos) [] [] pos) (mMeth c m ps.length fm mb mNil) := by
  obtain ⟨C, f, fd, h1, h2, h3, h4⟩ := ct.ex
  obtain ⟨tb, pb, qb⟩ := ho
  refine ⟨_, pe_meth0 pb h1.cls h2 h4 (hr.mono hk) h3 .nil hx ht, fun w env S σ H Q R RE h => ?_⟩
  refine qb w env S σ H _ R RE (h.bind fun o S1 w1 H1 u l1 R1 r1 h => ?_)
  split at h
  · rename_i fs e
    obtain ⟨p, dx, vs, e3, e4, rs⟩ := fields_of R1 r1 h1.at_ e
    split at h
    · rename_i hn
      refine ⟨p, dx, vs, e3, e4, rs.lookup_none hn, ?_⟩
      unfold mNil at h
      rw [bind_ok] at h
      show spM X.K X.mg ps.length fm (u :: ([] ++ [])) H1 Q E
      rw [List.append_nil]
      split at h
      · rename_i hl
        exact ⟨hl, w1, S1, [o], ⟨u, [], rfl, r1, rfl⟩, R1, h⟩
      · exact h.elim
    · exact h.elim
  · exact h.elim
/-! ### properties -/
structure Prp (P : Program) (wd : World) (K : PySem.W.Frag) (mg : Str → Option Value) (base : Heap) (k : Nat) (c f : Str) (fm : List D → M D) : Prop where
  ex : ∃ C p g fd ps, ClsAt K mg c C ∧ PropOf K C f p g ∧ Binds K fd ps [] ∧ ps.length = 1 ∧ FnOk P wd K mg base (L2.CX P wd) k g fd ps (spM K mg 1 fm)
def mProp (c : Str) (fm : List D → M D) (ma : Env → M D) : Env → M D := fun env S => (ma env S).bind fun x S1 => match fieldsD c x S1 with
  | some _ => noex (fm [x] S1)
  | none => .bad
theorem ev_prop {f : Str} (ct : Prp X.prog X.w X.K X.mg X.base k c f fm) (hr : Room j X.A) (ha : EV X E a ma) (hk : k + 1 ≤ j := by decide) (hab : attributeBase a f X.env (eval a X.env) = eval a X.env := by rfl) : EV X E (.Attribute a f pos) (mProp c fm ma) := by
  obtain ⟨C, p, g, fd, ps, h1, h2, h3, hl, h4⟩ := ct.ex
  obtain ⟨ta, pa, qa⟩ := ha
  refine ⟨_, pe_prop pa h1.cls h2 h4 (hr.mono hk) h3 .nil (passL (X := X.nox)) hab, fun w env S σ H Q R RE h => ?_⟩
  refine qa w env S σ H _ R RE (h.bind fun o S1 w1 H1 u l1 R1 r1 h => ?_)
  split at h
  · rename_i fs e
    obtain ⟨p, dx, vs, e3, e4, rs⟩ := fields_of R1 r1 h1.at_ e
    subst e3
    exact ⟨p, dx, vs, rfl, e4, rfl, w1, S1, [o], ⟨_, [], rfl, r1, rfl⟩, R1, good_noex h⟩
  · exact h.elim
/-! ### instances made -/
structure Mak (P : Program) (wd : World) (K : PySem.W.Frag) (mg : Str → Option Value) (base : Heap) (k : Nat) (c : Str) (fm : List D → M D) : Prop where
  ex : ∃ C f, ClsAt K mg c C ∧ Mk K C f ∧ FnR P wd K mg base (L2.CX P wd) k f (spR K mg fm)
def mMake (c : Str) (fm : List D → M D) (ml : Env → M (List D)) : Env → M D := fun env S => (ml env S).bind fun ds S1 => (fm (.cell S1.length :: ds) (S1 ++ [.ins c []])).bind fun d S2 => match d with
  | .non => .ok (.cell S1.length) S2
  | _ => .bad
theorem make_core {C : Addr} (h1 : ClsAt X.K X.mg c C) {w : Wd} {S : Sto} {H : Hp} {ds : List D} {us : List V} {Q : VK} (R : Rep X.K X.mg w S H) (r : RelDs X.K X.mg w ds us)
    (h : Good X.K X.mg E w (RelD X.K X.mg) ((fm (.cell S.length :: ds) (S ++ [.ins c []])).bind fun d S2 => match d with | .non => .ok (.cell S.length) S2 | _ => .bad) Q) :
    ∀ x dx, H x = Option.none → H dx = Option.none → dx ≠ x → spR X.K X.mg fm (V.ref x :: us) (upd (upd H dx (.own x)) x (.ins C dx [])) (fun v H2 => v = .non ∧ Q (.ref x) H2) E := by
  intro x dx hx hdx hne
  have R1 := R.junk hdx (.own x)
  have hx1 : (upd H dx (.own x)) x = none := by rw [upd_ne (Ne.symm hne)]; exact hx
  obtain ⟨R2, l2⟩ := R1.newcell (c := .ins c []) (o := .ins C dx []) hx1 ⟨R1.same.free hx1, rfl, C, dx, [], h1.at_, upd_same, rfl⟩
  have hcell : RelD X.K X.mg ⟨w.rho ++ [x], w.F, w.Z⟩ (.cell S.length) (.ref x) := ⟨x, rfl, by rw [← R.len]; simp⟩
  refine ⟨_, _, .cell S.length :: ds, ⟨_, us, rfl, hcell, r.mono l2⟩, R2, ?_⟩
  refine Good.bind (h.up l2) fun d S3 w3 H3 v l3 R3 r3 h => ?_
  split at h
  · cases r3
    exact ⟨rfl, h.ok (.refl _) R3 (hcell.mono l3)⟩
  · exact h.elim
theorem ev_make {p : Pos} (c : Mak X.prog X.w X.K X.mg X.base k x fm) (hr : Room j X.A) (hx : Passes (L2.CX X.prog X.w) X E) (hg : Gl X x) (ha : EA X E (a :: es) ml) (hk : k + 1 ≤ j := by decide) (hdb : (x == ("__debug__" : Str)) = false := by decide)
    (he : starEach (a :: es) X.env = (false, eval a X.env) :: starEach es X.env := by rfl) (hpl : (backTo pos (starEach es X.env)).any (·.1) = false := by rfl) : EV X E (.Call (.Name x p) (a :: es) [] pos) (mMake x fm ml) := by
  obtain ⟨C, f, h1, h2, h3⟩ := c.ex
  obtain ⟨t, p1, q1⟩ := ha
  refine ⟨_, StX.pe_makeR h2 h3 (hr.mono hk) hg h1.at_ hx p1 hdb he hpl, fun w env S σ H Q R RE h => ?_⟩
  refine q1 w env S σ H _ R RE (h.bind fun ds S1 w1 H1 us l1 R1 r1 h => ?_)
  exact make_core h1 R1 r1 h
/-- C( *y) -/
theorem pe_makeS {C f : Addr} {sp : Sp} {p sp_ : Pos} {te : TE} (M : Mk X.K C f) (F : FnR X.prog X.w X.K X.mg X.base (L2.CX X.prog X.w) k f sp) (hr : Room (k + 1) X.A) (hg : Gl X x) (hm : X.mg x = some (.ref C)) (hx : Passes (L2.CX X.prog X.w) X E) (he : PE X a te) (hd : (x == ("__debug__" : Str)) = false := by decide)
    (hst : starEach [.Starred a sp_] X.env = [(true, eval a X.env)] := by rfl) :
    PE X (.Call (.Name x p) [.Starred a sp_] [] pos) (fun σ H Q => te σ H fun y H1 => ∃ b xs, y = V.ref b ∧ (SqT X.K H1 b xs ∨ SqL X.K H1 b xs) ∧ ∀ x dx, H1 x = Option.none → H1 dx = Option.none → dx ≠ x → sp (V.ref x :: xs) (upd (upd H1 dx (.own x)) x (.ins C dx [])) (fun v H2 => v = .non ∧ Q (.ref x) H2) E) := by
  refine ⟨fun pins s σ H Q I h => ?_⟩
  refine wpAny_Call_Name_kw (ld_glob I hg hm ?_ hd)
  refine PySem.W.callWith_S (h₀ := X.base) I.ok.mod.kin M.kp (thn (he.run pins s σ H _ I h) fun v s1 ⟨y, H1, I1, ry, a, xs, ey, hxs, q⟩ => ?_) hst
  subst ey
  obtain rfl : v = Value.ref a := ry
  exact StX.star_any I1 hxs fun us s2 I2 rv => ⟨I2.kIn, StX.run_makeR M F hr hx I2 rv q⟩
def mStar1 (ma : Env → M D) : Env → M (List D) := fun env S => (ma env S).bind fun x S1 => match itemsD x S1 with
  | some ys => .ok ys S1
  | none => .bad
theorem ev_makeS {p sp_ : Pos} (c : Mak X.prog X.w X.K X.mg X.base k x fm) (hr : Room j X.A) (hx : Passes (L2.CX X.prog X.w) X E) (hg : Gl X x) (ha : EV X E a ma) (hk : k + 1 ≤ j := by decide) (hdb : (x == ("__debug__" : Str)) = false := by decide)
    (hst : starEach [.Starred a sp_] X.env = [(true, eval a X.env)] := by rfl) : EV X E (.Call (.Name x p) [.Starred a sp_] [] pos) (mMake x fm (mStar1 ma)) := by
  obtain ⟨C, f, h1, h2, h3⟩ := c.ex
  obtain ⟨ta, pa, qa⟩ := ha
  refine ⟨_, pe_makeS h2 h3 (hr.mono hk) hg h1.at_ hx pa hdb hst, fun w env S σ H Q R RE h => ?_⟩
  unfold mMake mStar1 at h
  rw [bind_assoc] at h
  refine qa w env S σ H _ R RE (h.bind fun y S1 w1 H1 u l1 R1 r1 h => ?_)
  split at h
  · rename_i ys e
    obtain ⟨p, vs, e1, q, rs⟩ := items_of R1 r1 e
    exact ⟨p, vs, e1, q, make_core h1 R1 rs h⟩
  · exact h.elim
/-- an instance that changes no more -/
def mFrzLast (ma : Env → M D) : Env → M D := fun env S => (ma env S).bind fun x S1 => match x with
  | .cell k => match S1[k]? with
    | some (.ins c fs) => if S.length ≤ k then .ok (.ins c fs) (S1.take k) else .bad
    | _ => .bad
  | _ => .bad
theorem ev_frzLast (ha : EV X E a ma) : EV X E a (mFrzLast ma) := by
  obtain ⟨ta, pa, qa⟩ := ha
  refine ⟨_, pa, fun w env S σ H Q R RE h => ?_⟩
  refine qa w env S σ H _ R RE (h.bind0 fun o S1 w1 H1 u l1 R1 r1 h => ?_)
  split at h
  · rename_i k
    split at h
    · rename_i c fs e
      split at h
      · rename_i hk
        obtain ⟨a, rfl, ha⟩ := r1
        obtain ⟨hF, hp, C, dx, vs, m, hv, rs⟩ := R1.cell k a _ ha e
        have le : w1.le ⟨w1.rho, upd w1.F a (.ins C dx vs), w1.Z⟩ := ⟨List.prefix_refl _, fun b u e => by
          show upd w1.F a (.ins C dx vs) b = some u
          rw [upd_ne (ne_of_none e hF)]; exact e, rfl⟩
        obtain ⟨R2, l2⟩ := R1.freeze (c := .frzi c fs) ha hF hv ⟨hp, C, dx, vs, m, upd_same, rs.mono le⟩
        have R3 := R2.cut k
        have e2 : (S1.set k (.frzi c fs)).take k = S1.take k := by rw [List.take_set_of_le (Nat.le_refl k)]
        rw [e2] at R3
        have lw : w.le ⟨w1.rho.take k, upd w1.F a (.ins C dx vs), w1.Z⟩ := by
          have l3 := l1.trans l2
          refine ⟨?_, l3.2.1, l3.2.2⟩
          show w.rho <+: w1.rho.take k
          rw [List.prefix_take_iff]
          exact ⟨l1.1, by rw [R.len]; exact hk⟩
        exact h.ok lw R3 ⟨a, C, dx, vs, rfl, m, upd_same, RelFs.pure (w := w1) (w' := ⟨w1.rho.take k, upd w1.F a (.ins C dx vs), w1.Z⟩) l2.2.1 hp rs⟩
      · exact h.elim
    · exact h.elim
  · exact h.elim
end
end Gn

/-! GE: targets, what is walked, comprehensions, statements, bodies of defs. -/
namespace Gn
open PySem PySem.Spec PyProof.Rows L2

/-- where one stands -/
structure XO (X : Cx) (E : XK) (j : Nat) : Prop where
  calm : X.calm = true
  px : Passes (L2.CX X.prog X.w) X E
  room : Room j X.A
  nd : X.N.Nodup
structure XS (X : Cx) (E : XK) (j : Nat) : Prop extends XO X E j where
  po : PassesOwn (model X.prog X.w) X.A X.env X.xe
  tk : Takes X (fun cls d _ H => E cls d H)
theorem XO.blk {X : Cx} {E : XK} {j : Nat} (o : XO X E j) (s : Shared) (H : Hp) (scope : Scope) (C : Addr) (cl : List (Str × Addr)) (fp : List Addr) : XO (X.blk s H scope (compEnvC scope cl C X.env) fp) E0 j := ⟨o.calm, passL, o.room, o.nd⟩
theorem XO.units {X : Cx} {E : XK} {j : Nat} (o : XO X E j) : X.A.units + 64 < cLine := o.room.units

/-! ### names as targets -/
inductive Tg where
  | one (i : Nat) | tup (is : List Nat)
def putAll : List Nat → List D → Env → Option Env
  | [], [], env => some env
  | i :: is, d :: ds, env => putAll is ds (env.set i (some d))
  | _, _, _ => none
def Tg.put : Tg → D → Env → Option Env
  | .one i, d, env => some (env.set i (some d))
  | .tup is, .tup ds, env => putAll is ds env
  | _, _, _ => none
def Tg.slots : Tg → List Nat
  | .one i => [i]
  | .tup is => is
/-- what a target does to the slots -/
def Sets (K : PySem.W.Frag) (mg : Str → Option Value) (w : Wd) (is : List Nat) (σ : L2.St) (env' : Env) (σ' : L2.St) : Prop :=
  RelEnv K mg w env' σ' ∧ ∀ vs : List Nat, (∀ i ∈ is, i ∈ vs) → wipe σ' vs = wipe σ vs
def ETg (X : Cx) (tg : Expr) (T : Tg) (g : TG) : Prop :=
  PG X tg g ∧ ∀ w env S σ H v d env' Q, Rep X.K X.mg w S H → RelEnv X.K X.mg w env σ → RelD X.K X.mg w d v → T.put d env = some env' → (∀ σ', Sets X.K X.mg w T.slots σ env' σ' → Q σ' H) → g v σ H Q
theorem wipe_set (σ : L2.St) (i : Nat) (o : Option V) : ∀ vs : List Nat, i ∈ vs → wipe (σ.set i o) vs = wipe σ vs
  | [], h => by cases h
  | v :: vs, h => by
    unfold wipe
    by_cases e : i = v
    · subst e
      by_cases hm : i ∈ vs
      · rw [wipe_set σ i o vs hm]
      · have key : ∀ ws : List Nat, i ∉ ws → wipe (σ.set i o) ws = (wipe σ ws).set i o := by
          intro ws
          induction ws with
          | nil => intro _; rfl
          | cons a ws ih =>
            intro hn
            have h1 : a ≠ i := fun z => hn (by rw [z]; exact List.mem_cons_self)
            have h2 : i ∉ ws := fun z => hn (List.mem_cons_of_mem _ z)
            unfold wipe
            rw [ih h2, List.set_comm _ _ h1]
        rw [key vs hm, List.set_set]
    · have hm : i ∈ vs := by
        rcases List.mem_cons.mp h with z | z
        · exact absurd z e
        · exact z
      rw [wipe_set σ i o vs hm]
section
variable {K : PySem.W.Frag} {mg : Str → Option Value} {w : Wd}
theorem RelEnv.set {env : Env} {σ : L2.St} {i : Nat} {d : D} {v : V} (h : RelEnv K mg w env σ) (r : RelD K mg w d v) : RelEnv K mg w (env.set i (some d)) (σ.set i (some v)) := by
  refine ⟨by simpa using h.1, fun j e he => ?_⟩
  by_cases q : i = j
  · subst q
    have hl : i < env.length := by
      have := (List.getElem?_eq_some_iff.mp he).1
      simpa using this
    rw [List.getElem?_set_self hl] at he
    have e2 : d = e := by simpa using he
    subst e2
    exact ⟨v, by rw [List.getElem?_set_self (by rw [← h.1]; exact hl)], r⟩
  · rw [List.getElem?_set_ne q] at he
    obtain ⟨u, h1, h2⟩ := h.2 j e he
    exact ⟨u, by rw [List.getElem?_set_ne q]; exact h1, h2⟩
theorem RelEnv.unset {env : Env} {σ : L2.St} (i : Nat) (h : RelEnv K mg w env σ) : RelEnv K mg w (env.set i none) (σ.set i none) := by
  refine ⟨by simpa using h.1, fun j e he => ?_⟩
  by_cases q : i = j
  · subst q
    have hl : i < env.length := by
      have := (List.getElem?_eq_some_iff.mp he).1
      simpa using this
    rw [List.getElem?_set_self hl] at he
    cases he
  · rw [List.getElem?_set_ne q] at he
    obtain ⟨u, h1, h2⟩ := h.2 j e he
    exact ⟨u, by rw [List.getElem?_set_ne q]; exact h1, h2⟩
end
theorem wipe_wipe (σ : L2.St) (vs : List Nat) : wipe (wipe σ vs) vs = wipe σ vs := by
  have key : ∀ (ws : List Nat) (τ : L2.St), (∀ i ∈ ws, i ∈ vs) → wipe (wipe τ ws) vs = wipe τ vs := by
    intro ws
    induction ws with
    | nil => intro τ _; rfl
    | cons a ws ih =>
      intro τ h
      show wipe ((wipe τ ws).set a none) vs = _
      rw [wipe_set _ a none vs (h a List.mem_cons_self)]
      exact ih τ fun i hi => h i (List.mem_cons_of_mem _ hi)
  exact key vs σ fun _ h => h
def wipeE (env : Env) : List Nat → Env
  | [] => env
  | v :: vs => (wipeE env vs).set v none
theorem RelEnv.wipe {K : PySem.W.Frag} {mg : Str → Option Value} {w : Wd} {env : Env} {σ : L2.St} (h : RelEnv K mg w env σ) : ∀ vs : List Nat, RelEnv K mg w (wipeE env vs) (L2.wipe σ vs)
  | [] => h
  | v :: vs => (RelEnv.wipe h vs).unset v
section
variable {X : Cx} {pos : Pos}
theorem tg_name (i : Nat) {x : Str} (hN : X.N.Nodup) (hi : X.N[i]? = some x := by rfl) (hx : Loc X.env.scope x := by first | exact Or.inl rfl | exact Or.inr rfl) (hf : X.fn x = true ∨ X.env.scope.names.lookup x = some .local := by first | exact .inl rfl | exact .inr rfl | assumption) : ETg X (.Name x pos) (.one i) (gName i) := by
  refine ⟨pg_name hN hi hx hf, fun w env S σ H v d env' Q R RE r hp k => ?_⟩
  have e : env.set i (some d) = env' := Option.some.inj hp
  subst e
  refine k _ ⟨RE.set r, fun vs hv => ?_⟩
  exact wipe_set σ i (some v) vs (hv i (by simp [Tg.slots]))
def ETgs (X : Cx) (ts : List Expr) (is : List Nat) (g : TGs) : Prop :=
  PGs X ts g ∧ ∀ w env S σ H vs ds env' Q, Rep X.K X.mg w S H → RelEnv X.K X.mg w env σ → RelDs X.K X.mg w ds vs → putAll is ds env = some env' → (∀ σ', Sets X.K X.mg w is σ env' σ' → Q σ' H) → g vs σ H Q
theorem tgs_nil : ETgs X [] [] gNil := by
  refine ⟨pgs_nil, fun w env S σ H vs ds env' Q R RE r hp k => ?_⟩
  cases ds with
  | nil =>
    have e : env = env' := Option.some.inj hp
    subst e
    exact ⟨r, k σ ⟨RE, fun _ _ => rfl⟩⟩
  | cons d ds => cases hp
theorem tgs_cons {x : Str} {ts : List Expr} {is : List Nat} {g : TGs} (i : Nat) (hN : X.N.Nodup) (h2 : ETgs X ts is g) (hi : X.N[i]? = some x := by rfl) (hx : Loc X.env.scope x := by first | exact Or.inl rfl | exact Or.inr rfl)
    (hf : X.fn x = true ∨ X.env.scope.names.lookup x = some .local := by first | exact .inl rfl | exact .inr rfl | assumption)
    (hs : (assignEach (.Name x pos :: ts) X.env).map (·.2) = assign (.Name x pos) X.env :: (assignEach ts X.env).map (·.2) := by rfl) : ETgs X (.Name x pos :: ts) (i :: is) (gCons (gName i) g) := by
  refine ⟨pgs_cons (pg_name hN hi hx hf) h2.1 hs, fun w env S σ H vs ds env' Q R RE r hp k => ?_⟩
  cases ds with
  | nil => cases hp
  | cons d ds =>
    obtain ⟨v, rs, e, r1, r2⟩ := r
    subst e
    refine ⟨v, rs, rfl, ?_⟩
    refine h2.2 w (env.set i (some d)) S (σ.set i (some v)) H rs ds env' Q R (RE.set r1) r2 hp fun σ' hs' => ?_
    refine k σ' ⟨hs'.1, fun vs hv => ?_⟩
    rw [hs'.2 vs fun j hj => hv j (List.mem_cons_of_mem _ hj)]
    exact wipe_set σ i (some v) vs (hv i List.mem_cons_self)
theorem tg_tup {es : List Expr} {k : Nat} {is : List Nat} {g : TGs} (hc : X.calm = true) (h : ETgs X es is g) (hn : (assignEach es X.env).length = is.length := by rfl) (hst : (assignEach es X.env).findIdx? (·.1) = none := by rfl) : ETg X (.Tuple es k pos) (.tup is) (gTup X.K is.length g) := by
  refine ⟨pg_tup hc h.1 hn hst, fun w env S σ H v d env' Q R RE r hp kk => ?_⟩
  cases d with
  | tup ds =>
    obtain ⟨a, vs, e, q, rs⟩ := r
    have hl : ∀ (is : List Nat) (ds : List D) (env env' : Env), putAll is ds env = some env' → ds.length = is.length := by
      intro is
      induction is with
      | nil => intro ds env env' h; cases ds with
        | nil => rfl
        | cons d ds => cases h
      | cons i is ih => intro ds env env' h; cases ds with
        | nil => cases h
        | cons d ds => rw [List.length_cons, List.length_cons, ih ds _ _ h]
    exact ⟨a, vs, e, sqT_mono R.same q, by rw [rs.length]; exact hl _ _ _ _ hp, h.2 w env S σ H vs ds env' Q R RE rs hp kk⟩
  | _ => cases hp
end
/-! ### what is walked -/
def ItRel (K : PySem.W.Frag) (mg : Str → Option Value) (w : Wd) (ds : List D) (J : It) : Prop :=
  ∀ w1 S H, w.rho <+: w1.rho → Same w.F w1.F → Rep K mg w1 S H → (∀ (i : Nat) (d : D), ds[i]? = some d → J.go i H ∧ ∀ x H', J.yld i H x H' → ∃ w2, w1.le w2 ∧ Rep K mg w2 S H' ∧ RelD K mg w2 d x) ∧ J.stop ds.length H
def EI (X : Cx) (E : XK) (tg iter : Expr) (m : Env → M (List D)) : Prop :=
  ∃ wi, PI X tg iter wi ∧ ∀ w env S σ H Q, Rep X.K X.mg w S H → RelEnv X.K X.mg w env σ → Good X.K X.mg E w (ItRel X.K X.mg) (m env S) Q → wi σ H Q
/-- a value's items; what walks it reads it as it then stands: no changing object -/
def mItL (ma : Env → M D) : Env → M (List D) := fun env S => (ma env S).bind fun x S1 => match x with
  | .lst xs => .ok xs S1
  | _ => .bad
def mItT (ma : Env → M D) : Env → M (List D) := fun env S => (ma env S).bind fun x S1 => match x with
  | .tup xs => .ok xs S1
  | _ => .bad
def signs (x : Str) : List D := x.cps.toList.map fun c => .str ⟨#[c]⟩
def mItS (ma : Env → M D) : Env → M (List D) := fun env S => (ma env S).bind fun x S1 => match x with
  | .str z => .ok (signs z) S1
  | _ => .bad
def smallR (i : Int) : Bool := decide (-(2 ^ 62) ≤ i ∧ i < 2 ^ 62)
def rangeD (lo hi : Int) : List D := (List.range (hi - lo).toNat).map fun k => .int (lo + (k : Nat))
def mRng1 (ml : Env → M (List D)) : Env → M (List D) := fun env S => (ml env S).bind fun ds S1 => match ds with
  | [.int j] => if smallR j = true then .ok (rangeD 0 j) S1 else .bad
  | _ => .bad
def mRng2 (ml : Env → M (List D)) : Env → M (List D) := fun env S => (ml env S).bind fun ds S1 => match ds with
  | [.int i, .int j] => if (smallR i && smallR j) = true then .ok (rangeD i j) S1 else .bad
  | _ => .bad
def enumD (ds : List D) : List D := ds.mapIdx fun i d => .tup [.int (i : Nat), d]
def mEnumL (ml : Env → M (List D)) : Env → M (List D) := fun env S => (ml env S).bind fun ds S1 => match ds with
  | [.lst xs] => .ok (enumD xs) S1
  | _ => .bad
section
variable {X : Cx} {E : XK} {tg a b : Expr} {ma mb : Env → M D} {ml : Env → M (List D)} {pos p tpos : Pos}
theorem ei_list (ha : EV X E a ma) : EI X E tg a (mItL ma) := by
  obtain ⟨ta, pa, qa⟩ := ha
  refine ⟨_, pi_list pa, fun w env S σ H Q R RE h => ?_⟩
  refine qa w env S σ H _ R RE (h.bind fun x S1 w1 H1 u l1 R1 r1 h => ?_)
  split at h
  · rename_i xs
    obtain ⟨p, vs, rfl, q, rs⟩ := r1
    refine ⟨p, rfl, ⟨vs, .inl (rd_mono R1.same q)⟩, h.ok (.refl _) R1 ?_⟩
    intro w2 S2 H2 l2 l3 R2
    have q2 : SqL X.K H2 p vs := .inl (rd_mono R2.same (rd_mono l3 q))
    refine ⟨fun i d hd => ?_, ⟨vs, q2, by rw [rs.length]; exact Nat.le_refl _⟩⟩
    obtain ⟨v, hv, rv⟩ := rs.get hd
    refine ⟨⟨vs, v, q2, hv⟩, fun x H' hy => ?_⟩
    obtain ⟨e1, e2⟩ := hy
    subst e1
    have e3 := e2 vs q2
    rw [hv] at e3
    cases e3
    exact ⟨w2, .refl _, R2, rv.lf ⟨l2, l3⟩⟩
  · exact h.elim
theorem ei_tup (ha : EV X E a ma) : EI X E tg a (mItT ma) := by
  obtain ⟨ta, pa, qa⟩ := ha
  refine ⟨_, pi_tup pa, fun w env S σ H Q R RE h => ?_⟩
  refine qa w env S σ H _ R RE (h.bind fun x S1 w1 H1 u l1 R1 r1 h => ?_)
  split at h
  · rename_i xs
    obtain ⟨p, vs, rfl, q, rs⟩ := r1
    refine ⟨p, rfl, ⟨vs, sqT_mono R1.same q⟩, h.ok (.refl _) R1 ?_⟩
    intro w2 S2 H2 l2 l3 R2
    have q2 : SqT X.K H2 p vs := sqT_mono R2.same (sqT_mono l3 q)
    refine ⟨fun i d hd => ?_, ⟨vs, q2, by rw [rs.length]; exact Nat.le_refl _⟩⟩
    obtain ⟨v, hv, rv⟩ := rs.get hd
    refine ⟨⟨vs, v, q2, hv⟩, fun x H' hy => ?_⟩
    obtain ⟨e1, e2⟩ := hy
    subst e1
    have e3 := e2 vs q2
    rw [hv] at e3
    cases e3
    exact ⟨w2, .refl _, R2, rv.lf ⟨l2, l3⟩⟩
  · exact h.elim
theorem ei_str (ha : EV X E a ma) : EI X E tg a (mItS ma) := by
  obtain ⟨ta, pa, qa⟩ := ha
  refine ⟨_, pi_str pa, fun w env S σ H Q R RE h => ?_⟩
  refine qa w env S σ H _ R RE (h.bind fun x S1 w1 H1 u l1 R1 r1 h => ?_)
  split at h
  · rename_i z
    cases r1
    refine ⟨z, rfl, h.ok (.refl _) R1 ?_⟩
    intro w2 S2 H2 l2 l3 R2
    refine ⟨fun i d hd => ?_, by show z.cps.size ≤ (signs z).length; simp [signs]⟩
    have hd' : (z.cps.toList[i]?).map (fun c => D.str ⟨#[c]⟩) = some d := by simpa [signs] using hd
    obtain ⟨c, hc, ed⟩ := Option.map_eq_some_iff.mp hd'
    subst ed
    have hi : i < z.cps.size := by simpa using (List.getElem?_eq_some_iff.mp hc).1
    refine ⟨hi, fun x H' hy => ?_⟩
    obtain ⟨e1, c', e2, e3⟩ := hy
    subst e1 e3
    have : c' = c := by
      have e4 : z.cps[i]? = some c := by simpa using hc
      rw [e4] at e2
      exact (Option.some.inj e2).symm
    subst this
    exact ⟨w2, .refl _, R2, rfl⟩
  · exact h.elim
theorem range_rel {K : PySem.W.Frag} {mg : Str → Option Value} {w : Wd} (lo hi : Int) : ItRel K mg w (rangeD lo hi) (Itr lo (hi - lo).toNat) := by
  intro w2 S2 H2 l2 l3 R2
  refine ⟨fun i d hd => ?_, by show (hi - lo).toNat ≤ (rangeD lo hi).length; simp [rangeD]⟩
  unfold rangeD at hd
  rw [List.getElem?_map] at hd
  obtain ⟨k, hk, ed⟩ := Option.map_eq_some_iff.mp hd
  have hi := (List.getElem?_eq_some_iff.mp hk)
  obtain ⟨h1, h2⟩ := hi
  have hk2 : k = i := by rw [← h2]; simp
  subst hk2 ed
  refine ⟨by rw [List.length_range] at h1; exact h1, fun x H' hy => ?_⟩
  obtain ⟨e1, e2⟩ := hy
  subst e1 e2
  exact ⟨w2, .refl _, R2, rfl⟩
theorem ei_range1 (hg : Gl X "range") (hm : X.mg "range" = none) (ha : EA X E [a] ml) (hs : starEach [a] X.env = [(false, eval a X.env)] := by rfl) : EI X E tg (.Call (.Name "range" p) [a] [] pos) (mRng1 ml) := by
  obtain ⟨ta, pa, qa⟩ := ha
  refine ⟨_, pi_range1 hg hm pa hs, fun w env S σ H Q R RE h => ?_⟩
  refine qa w env S σ H _ R RE (h.bind fun x S1 w1 H1 u l1 R1 r1 h => ?_)
  split at h
  · rename_i j
    obtain ⟨v, r, rfl, rv, rfl⟩ := r1
    cases rv
    split at h
    · rename_i hj
      have hj := of_decide_eq_true hj
      refine ⟨j, rfl, hj.1, hj.2, ?_⟩
      have e : j.toNat = (j - 0).toNat := by rw [Int.sub_zero]
      rw [e]
      exact h.ok (.refl _) R1 (range_rel 0 j)
    · exact h.elim
  · exact h.elim
theorem ei_range2 (hg : Gl X "range") (hm : X.mg "range" = none) (ha : EA X E [a, b] ml) (hs : starEach [a, b] X.env = [(false, eval a X.env), (false, eval b X.env)] := by rfl) (hs2 : starEach [b] X.env = [(false, eval b X.env)] := by rfl) : EI X E tg (.Call (.Name "range" p) [a, b] [] pos) (mRng2 ml) := by
  obtain ⟨ta, pa, qa⟩ := ha
  refine ⟨_, pi_range2 hg hm pa hs hs2, fun w env S σ H Q R RE h => ?_⟩
  refine qa w env S σ H _ R RE (h.bind fun x S1 w1 H1 u l1 R1 r1 h => ?_)
  split at h
  · rename_i i j
    obtain ⟨v, r, rfl, rv, v2, r2, rfl, rv2, rfl⟩ := r1
    cases rv; cases rv2
    split at h
    · rename_i hj
      obtain ⟨h1, h2⟩ := Bool.and_eq_true_iff.mp hj
      have h1 := of_decide_eq_true h1
      have h2 := of_decide_eq_true h2
      exact ⟨i, j, rfl, ⟨h1.1, h1.2, h2.1, h2.2⟩, h.ok (.refl _) R1 (range_rel i j)⟩
    · exact h.elim
  · exact h.elim
end
/-- one of two ways to walk -/
def mOrI (m1 m2 : Env → M (List D)) : Env → M (List D) := fun env S => match m1 env S with
  | .bad => m2 env S
  | r => r
theorem ei_or {X : Cx} {E : XK} {tg e : Expr} {m1 m2 : Env → M (List D)} (h1 : EI X E tg e m1) (h2 : EI X E tg e m2) : EI X E tg e (mOrI m1 m2) := by
  obtain ⟨w1, p1, q1⟩ := h1
  obtain ⟨w2, p2, q2⟩ := h2
  refine ⟨fun σ H R => w1 σ H R ∨ w2 σ H R, ⟨fun pins s σ H R I h => h.elim (p1.run pins s σ H R I) (p2.run pins s σ H R I)⟩, fun w env S σ H Q R RE h => ?_⟩
  unfold mOrI at h
  split at h
  · exact .inr (q2 w env S σ H Q R RE h)
  · exact .inl (q1 w env S σ H Q R RE h)
/-! ### comprehensions -/
def tEc (K : PySem.W.Frag) (mg : Str → Option Value) (E : XK) (m : Env → M D) : TE := fun σ H Q => ∃ w env S, Rep K mg w S H ∧ RelEnv K mg w env σ ∧ Good K mg E w (RelD K mg) (m env S) Q
def tTc (K : PySem.W.Frag) (mg : Str → Option Value) (E : XK) (m : Env → M Bool) : TT := fun σ H Q => ∃ w env S, Rep K mg w S H ∧ RelEnv K mg w env σ ∧ Good K mg E w RelB (m env S) Q
theorem EV.canon {X : Cx} {E : XK} {e : Expr} {m : Env → M D} (h : EV X E e m) : PE X e (tEc X.K X.mg E m) := by
  obtain ⟨t, p, q⟩ := h
  exact ⟨fun pins s σ H Q I ⟨w, env, S, R, RE, g⟩ => p.run pins s σ H Q I (q w env S σ H Q R RE g)⟩
theorem ET.canon {X : Cx} {E : XK} {e : Expr} {m : Env → M Bool} (h : ET X E e m) : PT X e (tTc X.K X.mg E m) := by
  obtain ⟨t, p, q⟩ := h
  exact ⟨fun pins s σ H Q I ⟨w, env, S, R, RE, g⟩ => p.run pins s σ H Q I (q w env S σ H Q R RE g)⟩
/-- the tests of a comprehension -/
def ETs (X : Cx) (E : XK) (es : List Expr) (m : Env → M Bool) : Prop := PTs X es (tTc X.K X.mg E m)
def mYes : Env → M Bool := fun _ S => .ok true S
theorem ets_nil {X : Cx} {E : XK} : ETs X E [] mYes := by
  have h := pts_nil (X := X)
  exact ⟨fun pins s σ H Q I ⟨w, env, S, R, RE, g⟩ => h.run pins s σ H Q I (g.ok (.refl _) R rfl)⟩
theorem ets_one {X : Cx} {E : XK} {e : Expr} {m : Env → M Bool} (h : ET X E e m) : ETs X E [e] m := pts_one h.canon
def lcL (T : Tg) (mt : Env → M Bool) (me : Env → M D) (env : Env) : List D → M (List D)
  | [], S => .ok [] S
  | d :: ds, S => match T.put d env with
    | none => .bad
    | some env' => (noex (mt env' S)).bind fun b S1 => if b = true then (noex (me env' S1)).bind fun y S2 => (lcL T mt me env ds S2).bind fun ys S3 => .ok (y :: ys) S3 else lcL T mt me env ds S1
def mkLst' (ds : List D) : M D := fun S => if ds.length ≤ szL then .ok (.lst ds) S else .bad
def mLc (vs : List Nat) (T : Tg) (mi : Env → M (List D)) (mt : Env → M Bool) (me : Env → M D) : Env → M D := fun env S => (mi env S).bind fun ds S1 => (lcL T mt me (wipeE env vs) ds S1).bind mkLst'
theorem lcL_noex (T : Tg) (mt : Env → M Bool) (me : Env → M D) (env : Env) : ∀ (ds : List D) (S : Sto), noex (lcL T mt me env ds S) = lcL T mt me env ds S
  | [], S => rfl
  | d :: ds, S => by
    unfold lcL
    split
    · rfl
    · rename_i env' _
      cases mt env' S with
      | bad => rfl
      | ex x s => rfl
      | ok b S1 =>
        cases b with
        | false => exact lcL_noex T mt me env ds S1
        | true =>
          show noex ((noex (me env' S1)).bind _) = (noex (me env' S1)).bind _
          cases me env' S1 with
          | bad => rfl
          | ex x s => rfl
          | ok y S2 =>
            show noex ((lcL T mt me env ds S2).bind _) = (lcL T mt me env ds S2).bind _
            have ih := lcL_noex T mt me env ds S2
            cases q : lcL T mt me env ds S2 with
            | bad => rfl
            | ex x s => rw [q] at ih; cases ih
            | ok ys S3 => rfl
section
variable {K : PySem.W.Frag} {mg : Str → Option Value}
theorem RelDs.chg {w : Wd} {F' Z' : Hp} {ds : List D} {vs : List V} (hF : Same w.F F') (r : RelDs K mg w ds vs) : RelDs K mg ⟨w.rho, F', Z'⟩ ds vs := RelDs.lf (w := w) (w' := ⟨w.rho, F', Z'⟩) ⟨List.prefix_refl _, hF⟩ r
theorem RelFs.chg {w : Wd} {F' Z' : Hp} {ds : List (Str × D)} {vs : List (Str × V)} (hF : Same w.F F') (r : RelFs K mg w ds vs) : RelFs K mg ⟨w.rho, F', Z'⟩ ds vs := RelFs.lf (w := w) (w' := ⟨w.rho, F', Z'⟩) ⟨List.prefix_refl _, hF⟩ r
end
/-- the words of a comprehension, by parts -/
structure LcOk (X : Cx) (E : XK) (elt tg iter : Expr) (ifs : List Expr) (scope : Scope) (own : List (Str × Nat)) (T : Tg) (g : TG) (mi : Env → M (List D)) (mt : Env → M Bool) (me : Env → M D) : Prop where
  it : EI X E tg iter mi
  tg : ∀ (s : Shared) (H : Hp) (C : Addr) (cl : List (Str × Addr)) (fp : List Addr), ETg (X.blk s H scope (compEnvC scope cl C X.env) fp) tg T g
  ts : ∀ (s : Shared) (H : Hp) (C : Addr) (cl : List (Str × Addr)) (fp : List Addr), ETs (X.blk s H scope (compEnvC scope cl C X.env) fp) E0 ifs mt
  el : ∀ (s : Shared) (H : Hp) (C : Addr) (cl : List (Str × Addr)) (fp : List Addr), EV (X.blk s H scope (compEnvC scope cl C X.env) fp) E0 elt me
  sl : ∀ i ∈ T.slots, i ∈ own.map (·.2)
theorem lcok {X : Cx} {E : XK} {j : Nat} {elt tg iter : Expr} {ifs : List Expr} {scope : Scope} {own : List (Str × Nat)} {T : Tg} {g : TG} {mi : Env → M (List D)} {mt : Env → M Bool} {me : Env → M D} (o : XO X E j) (it : EI X E tg iter mi)
    (tgt : ∀ (s : Shared) (H : Hp) (C : Addr) (cl : List (Str × Addr)) (fp : List Addr), XO (X.blk s H scope (compEnvC scope cl C X.env) fp) E0 j → ETg (X.blk s H scope (compEnvC scope cl C X.env) fp) tg T g)
    (ts : ∀ (s : Shared) (H : Hp) (C : Addr) (cl : List (Str × Addr)) (fp : List Addr), XO (X.blk s H scope (compEnvC scope cl C X.env) fp) E0 j → ETs (X.blk s H scope (compEnvC scope cl C X.env) fp) E0 ifs mt)
    (el : ∀ (s : Shared) (H : Hp) (C : Addr) (cl : List (Str × Addr)) (fp : List Addr), XO (X.blk s H scope (compEnvC scope cl C X.env) fp) E0 j → EV (X.blk s H scope (compEnvC scope cl C X.env) fp) E0 elt me) (sl : ∀ i ∈ T.slots, i ∈ own.map (·.2)) : LcOk X E elt tg iter ifs scope own T g mi mt me :=
  ⟨it, fun s H C cl fp => tgt s H C cl fp (o.blk s H scope C cl fp), fun s H C cl fp => ts s H C cl fp (o.blk s H scope C cl fp), fun s H C cl fp => el s H C cl fp (o.blk s H scope C cl fp), sl⟩
/-- the reading of a comprehension, whatever is done with the list -/
theorem lc_read {X : Cx} {E : XK} {elt tg iter : Expr} {ifs : List Expr} {scope : Scope} {own : List (Str × Nat)} {T : Tg} {g : TG} {mi : Env → M (List D)} {mt : Env → M Bool} {me : Env → M D} (L : LcOk X E elt tg iter ifs scope own T g mi mt me) :
    ∃ wi tt te, PI X tg iter wi ∧ (∀ (s : Shared) (H : Hp) (C : Addr) (cl : List (Str × Addr)) (fp : List Addr), PG (X.blk s H scope (compEnvC scope cl C X.env) fp) tg g) ∧
      (∀ (s : Shared) (H : Hp) (C : Addr) (cl : List (Str × Addr)) (fp : List Addr), PTs (X.blk s H scope (compEnvC scope cl C X.env) fp) ifs tt) ∧
      (∀ (s : Shared) (H : Hp) (C : Addr) (cl : List (Str × Addr)) (fp : List Addr), PE (X.blk s H scope (compEnvC scope cl C X.env) fp) elt te) ∧
      ∀ w env S σ H Q, Rep X.K X.mg w S H → RelEnv X.K X.mg w env σ → Good X.K X.mg E w (RelD X.K X.mg) (mLc (own.map (·.2)) T mi mt me env S) Q → tLc wi g tt te (own.map (·.2)) σ H Q := by
  obtain ⟨wi, pi, qi⟩ := L.it
  refine ⟨wi, tTc X.K X.mg E0 mt, tEc X.K X.mg E0 me, pi, fun s H C cl fp => (L.tg s H C cl fp).1, fun s H C cl fp => L.ts s H C cl fp, fun s H C cl fp => (L.el s H C cl fp).canon, fun w env S σ H Q R RE h => ?_⟩
  have hT : ∀ w env S σ H v d env' Q, Rep X.K X.mg w S H → RelEnv X.K X.mg w env σ → RelD X.K X.mg w d v → T.put d env = some env' → (∀ σ', Sets X.K X.mg w T.slots σ env' σ' → Q σ' H) → g v σ H Q := by
    exact (L.tg X.s_0 H 0 [] []).2
  unfold mLc at h
  refine qi w env S σ H _ R RE (h.bind fun ds S1 w1 H1 J l1 R1 itr h => ?_)
  intro D0 hD0
  -- the new list lies with what belongs to others
  have hZ0 : w1.Z D0 = none := R1.sameZ.free hD0
  have repZ : ∀ {w2 : Wd} {S2 : Sto} {H2 : Hp} {vs : List V}, Rep X.K X.mg w2 S2 H2 → w2.Z D0 = none → w2.F D0 = none → D0 ∉ w2.rho → H2 D0 = some (.lst vs) → Rep X.K X.mg ⟨w2.rho, w2.F, upd w2.Z D0 (.lst vs)⟩ S2 H2 := by
    intro w2 S2 H2 vs R2 hz hf hr hh
    refine ⟨R2.same, fun b u e => ?_, R2.len, R2.nd, R2.has, fun a ha => ?_, fun k a c e1 e2 => ?_⟩
    · have e' : upd w2.Z D0 (.lst vs) b = some u := e
      by_cases q : b = D0
      · subst q
        rw [upd_same] at e'
        rw [hh]; exact e'
      · rw [upd_ne q] at e'
        exact R2.sameZ b u e'
    · have ha' : upd w2.Z D0 (.lst vs) a ≠ none := ha
      by_cases q : a = D0
      · subst q; exact ⟨hf, hr⟩
      · rw [upd_ne q] at ha'
        exact R2.fz a ha'
    · have z := R2.cell k a c e1 e2
      cases c with
      | lst ds => obtain ⟨a1, p, vs, e, r⟩ := z; exact ⟨a1, p, vs, e, r.chg (Same.refl _)⟩
      | ins cl fs => obtain ⟨a1, p, C, dx, vs, m, e, r⟩ := z; exact ⟨a1, p, C, dx, vs, m, e, r.chg (Same.refl _)⟩
      | frz ds => obtain ⟨p, vs, e, r⟩ := z; exact ⟨p, vs, e, r.chg (Same.refl _)⟩
      | frzi cl fs => obtain ⟨p, C, dx, vs, m, e, r⟩ := z; exact ⟨p, C, dx, vs, m, e, r.chg (Same.refl _)⟩
  -- the invariant: acc so far, the list at D0
  let W : Nat → Nat → Hp → Prop := fun i m H => m = ds.length - i ∧ i ≤ ds.length ∧ ∃ (w2 : Wd) (S2 : Sto) (acc : List D) (vs : List V), w1.rho <+: w2.rho ∧ Same w1.F w2.F ∧ w2.Z = upd w1.Z D0 (.lst vs) ∧ Rep X.K X.mg w2 S2 H ∧ RelDs X.K X.mg w2 acc vs ∧
    ∃ ys S3, lcL T mt me (wipeE env (own.map (·.2))) (ds.drop i) S2 = .ok ys S3 ∧ acc.length + ys.length ≤ szL ∧ ∀ w' H' v, w2.rho <+: w'.rho → Same w2.F w'.F → w'.Z = w1.Z → Rep X.K X.mg w' S3 H' → RelD X.K X.mg w' (.lst (acc ++ ys)) v → Q v H'
  have hres : ∃ ys S3, lcL T mt me (wipeE env (own.map (·.2))) ds S1 = .ok ys S3 := by
    have h2 := post_bind h
    have hn := lcL_noex T mt me (wipeE env (own.map (·.2))) ds S1
    cases q : lcL T mt me (wipeE env (own.map (·.2))) ds S1 with
    | bad => rw [q] at h2; exact h2.elim
    | ex x s => rw [q] at hn; cases hn
    | ok ys S3 => exact ⟨ys, S3, rfl⟩
  obtain ⟨ys, S3, hys⟩ := hres
  rw [hys] at h
  rw [bind_ok] at h
  unfold mkLst' at h
  split at h
  case isFalse => exact h.elim
  rename_i hsz
  have Rj := R1.junk hD0 (.lst [])
  have nr1 : D0 ∉ w1.rho := fun z => R1.has D0 z hD0
  refine ⟨W, ⟨ds.length, ?_⟩, ?_⟩
  · refine ⟨by simp, Nat.zero_le _, ⟨w1.rho, w1.F, upd w1.Z D0 (.lst [])⟩, S1, [], [], List.prefix_refl _, Same.refl _, rfl, repZ Rj hZ0 (R1.same.free hD0) nr1 upd_same, rfl, ys, S3, hys, by simpa using hsz, fun w' H' v le1 le2 le3 R' r' => ?_⟩
    exact h w' H' v ⟨le1, le2, le3⟩ R' r'
  · rintro i m Hc ⟨rfl, hi, w2, S2, acc, vs, le1, le2, eZ, R2, racc, ys, S3, hl, hsz2, fin⟩
    obtain ⟨its, stp⟩ := itr w2 S2 Hc le1 le2 R2
    by_cases hlt : i < ds.length
    · refine .inr ?_
      have hd : ds[i]? = some ds[i] := by simp [hlt]
      obtain ⟨hgo, hyld⟩ := its i ds[i] hd
      rw [List.drop_eq_getElem_cons hlt] at hl
      refine ⟨hgo, fun H' => W (i + 1) (ds.length - (i + 1)) H', fun H' hw => ⟨ds.length - (i + 1), by omega, hw⟩, fun x H' hy => ?_⟩
      obtain ⟨w3, l3, R3, rx⟩ := hyld x H' hy
      unfold lcL at hl
      split at hl
      · cases hl
      · rename_i env' hput
        have REw : RelEnv X.K X.mg w3 (wipeE env (own.map (·.2))) (L2.wipe σ (own.map (·.2))) := by
          have z := RelEnv.wipe RE (own.map (·.2))
          refine ⟨z.1, fun j e he => ?_⟩
          obtain ⟨v, a1, a2⟩ := z.2 j e he
          exact ⟨v, a1, a2.lf ⟨l1.1.trans (le1.trans l3.1), (l1.2.1.trans (le2.trans l3.2.1))⟩⟩
        refine hT w3 _ S2 _ H' x _ env' _ R3 REw rx hput fun σ2 hs => ?_
        refine ⟨by rw [hs.2 _ L.sl]; exact wipe_wipe σ _, ?_⟩
        have hmt : ∃ b S4, mt env' S2 = .ok b S4 := by
          cases q : mt env' S2 with
          | bad => rw [q] at hl; cases hl
          | ex x s => rw [q] at hl; cases hl
          | ok b S4 => exact ⟨b, S4, rfl⟩
        obtain ⟨b, S4, hmt⟩ := hmt
        rw [hmt] at hl
        refine ⟨w3, env', S2, R3, hs.1, ?_⟩
        rw [hmt]
        intro w4 H4 b' l4 R4 rb
        cases rb
        have hl : (if b = true then (noex (me env' S4)).bind fun y S5 => (lcL T mt me (wipeE env (own.map (·.2))) (ds.drop (i + 1)) S5).bind fun ys S6 => .ok (y :: ys) S6 else lcL T mt me (wipeE env (own.map (·.2))) (ds.drop (i + 1)) S4) = .ok ys S3 := hl
        have eZ4 : w4.Z = upd w1.Z D0 (.lst vs) := l4.2.2.trans (l3.2.2.trans eZ)
        cases b with
        | false =>
          rw [if_neg (by decide)] at hl
          rw [if_neg (by decide)]
          refine ⟨rfl, hlt, w4, S4, acc, vs, le1.trans (l3.1.trans l4.1), le2.trans (l3.2.1.trans l4.2.1), eZ4, R4, (racc.mono l3).mono l4, ys, S3, hl, hsz2, fun w' H' v a1 a2 a3 R' r' => fin w' H' v (l3.1.trans (l4.1.trans a1)) (l3.2.1.trans (l4.2.1.trans a2)) a3 R' r'⟩
        | true =>
          rw [if_pos rfl] at hl
          rw [if_pos rfl]
          have hme : ∃ y S5, me env' S4 = .ok y S5 := by
            cases q : me env' S4 with
            | bad => rw [q] at hl; cases hl
            | ex x s => rw [q] at hl; cases hl
            | ok b S4 => exact ⟨b, S4, rfl⟩
          obtain ⟨y, S5, hme⟩ := hme
          rw [hme] at hl
          have hl : (lcL T mt me (wipeE env (own.map (·.2))) (ds.drop (i + 1)) S5).bind (fun ys S6 => .ok (y :: ys) S6) = .ok ys S3 := hl
          obtain ⟨ys', e1, e2⟩ : ∃ ys', lcL T mt me (wipeE env (own.map (·.2))) (ds.drop (i + 1)) S5 = .ok ys' S3 ∧ ys = y :: ys' := by
            cases q : lcL T mt me (wipeE env (own.map (·.2))) (ds.drop (i + 1)) S5 with
            | bad => rw [q] at hl; cases hl
            | ex x s => rw [q] at hl; cases hl
            | ok b S6 => rw [q] at hl; cases hl; exact ⟨b, rfl, rfl⟩
          subst e2
          refine ⟨w4, env', S4, R4, hs.1.mono l4, ?_⟩
          rw [hme]
          intro w5 H5 v l5 R5 rv
          have eZ5 : w5.Z = upd w1.Z D0 (.lst vs) := l5.2.2.trans eZ4
          have hD5 : H5 D0 = some (.lst vs) := R5.sameZ D0 _ (by rw [eZ5]; exact upd_same)
          have racc5 : RelDs X.K X.mg w5 acc vs := ((racc.mono l3).mono l4).mono l5
          have hFD : w5.F D0 = none ∧ D0 ∉ w5.rho := R5.fz D0 (by rw [eZ5, upd_same]; simp)
          rw [List.length_cons] at hsz2
          refine ⟨vs, hD5, by rw [racc5.length, ← szL_eq]; omega, rfl, hlt, ⟨w5.rho, w5.F, upd w1.Z D0 (.lst (vs ++ [v]))⟩, S5, acc ++ [y], vs ++ [v], le1.trans (l3.1.trans (l4.1.trans l5.1)), le2.trans (l3.2.1.trans (l4.2.1.trans l5.2.1)), rfl, ?_, (racc5.append (RelDs.one rv)).chg (Same.refl _), ys', S3, e1, by rw [List.length_append, List.length_singleton]; omega, fun w' H' v' a1 a2 a3 R' r' => ?_⟩
          · -- the grown list
            have nr : ∀ a ∈ w5.rho, a ≠ D0 := fun a ha z => hFD.2 (by rw [← z]; exact ha)
            refine ⟨fun b u e => ?_, fun b u e => ?_, R5.len, R5.nd, fun a ha => ?_, fun a ha => ?_, fun k a c e1 e2 => ?_⟩
            · rw [upd_ne (ne_of_none e hFD.1)]
              exact R5.same b u e
            · have e' : upd w1.Z D0 (.lst (vs ++ [v])) b = some u := e
              by_cases q : b = D0
              · subst q
                rw [upd_same] at e'
                rw [upd_same]; exact e'
              · rw [upd_ne q] at e'
                rw [upd_ne q]
                exact R5.sameZ b u (by rw [eZ5, upd_ne q]; exact e')
            · rw [upd_ne (nr a ha)]
              exact R5.has a ha
            · have ha' : upd w1.Z D0 (.lst (vs ++ [v])) a ≠ none := ha
              by_cases q : a = D0
              · subst q; exact hFD
              · rw [upd_ne q] at ha'
                exact R5.fz a (by rw [eZ5, upd_ne q]; exact ha')
            · have hm : a ∈ w5.rho := List.mem_of_getElem? e1
              have z := R5.cell k a c e1 e2
              have hH : upd H5 D0 (.lst (vs ++ [v])) a = H5 a := upd_ne (nr a hm)
              cases c with
              | lst ds => obtain ⟨a1, p, vs, e, r⟩ := z; exact ⟨a1, p, vs, by rw [hH]; exact e, r.chg (Same.refl _)⟩
              | ins cl fs => obtain ⟨a1, p, C, dx, vs, m, e, r⟩ := z; exact ⟨a1, p, C, dx, vs, m, by rw [hH]; exact e, r.chg (Same.refl _)⟩
              | frz ds => obtain ⟨p, vs, e, r⟩ := z; exact ⟨p, vs, e, r.chg (Same.refl _)⟩
              | frzi cl fs => obtain ⟨p, C, dx, vs, m, e, r⟩ := z; exact ⟨p, C, dx, vs, m, e, r.chg (Same.refl _)⟩
          · rw [List.append_assoc] at r'
            exact fin w' H' v' (l3.1.trans (l4.1.trans (l5.1.trans a1))) (l3.2.1.trans (l4.2.1.trans (l5.2.1.trans a2))) a3 R' r'
    · have e : i = ds.length := by omega
      subst e
      refine .inl ⟨stp, ?_⟩
      rw [List.drop_length] at hl
      cases hl
      have hFD : w2.F D0 = none ∧ D0 ∉ w2.rho := R2.fz D0 (by rw [eZ, upd_same]; simp)
      have hD2 : Hc D0 = some (.lst vs) := R2.sameZ D0 _ (by rw [eZ]; exact upd_same)
      have hF : Same w2.F (upd w2.F D0 (.lst vs)) := fun b u e => by rw [upd_ne (ne_of_none e hFD.1)]; exact e
      refine fin ⟨w2.rho, upd w2.F D0 (.lst vs), w1.Z⟩ Hc (.ref D0) (List.prefix_refl _) hF rfl ?_ ⟨D0, vs, rfl, .inl upd_same, by rw [List.append_nil]; exact racc.chg hF⟩
      refine ⟨fun b u e => ?_, fun b u e => ?_, R2.len, R2.nd, R2.has, fun a ha => ?_, fun k a c e1 e2 => ?_⟩
      · have e' : upd w2.F D0 (.lst vs) b = some u := e
        by_cases q : b = D0
        · subst q
          rw [upd_same] at e'
          rw [hD2]; exact e'
        · rw [upd_ne q] at e'
          exact R2.same b u e'
      · have e' : w1.Z b = some u := e
        have q : b ≠ D0 := ne_of_none e' hZ0
        exact R2.sameZ b u (by rw [eZ, upd_ne q]; exact e')
      · have ha' : w1.Z a ≠ none := ha
        have q : a ≠ D0 := fun z => ha' (by rw [z]; exact hZ0)
        obtain ⟨f1, f2⟩ := R2.fz a (by rw [eZ, upd_ne q]; exact ha')
        exact ⟨by show upd w2.F D0 (.lst vs) a = none; rw [upd_ne q]; exact f1, f2⟩
      · have hm : a ∈ w2.rho := List.mem_of_getElem? e1
        have q : a ≠ D0 := fun z => hFD.2 (by rw [← z]; exact hm)
        have z := R2.cell k a c e1 e2
        have hu : upd w2.F D0 (.lst vs) a = w2.F a := upd_ne q
        cases c with
        | lst ds => obtain ⟨a1, p, vs, e, r⟩ := z; exact ⟨hu.trans a1, p, vs, e, r.chg hF⟩
        | ins cl fs => obtain ⟨a1, p, C, dx, vs, m, e, r⟩ := z; exact ⟨hu.trans a1, p, C, dx, vs, m, e, r.chg hF⟩
        | frz ds => obtain ⟨p, vs, e, r⟩ := z; exact ⟨p, vs, hF _ _ e, r.chg hF⟩
        | frzi cl fs => obtain ⟨p, C, dx, vs, m, e, r⟩ := z; exact ⟨p, C, dx, vs, m, hF _ _ e, r.chg hF⟩
end Gn

/-! GF: statements, bodies of defs. -/
namespace Gn
open PySem PySem.Spec PyProof.Rows L2

section
variable {X : Cx} {E : XK} {j : Nat} {pos : Pos}
theorem ev_lc {elt tg iter : Expr} {ifs : List Expr} {scope : Scope} {own : List (Str × Nat)} {T : Tg} {g : TG} {mi : Env → M (List D)} {mt : Env → M Bool} {me : Env → M D} (o : XO X E j) (ok : BlkOk X.N X.env.scope scope own) (L : LcOk X E elt tg iter ifs scope own T g mi mt me)
    (hs : ∀ x, foldedSetIterable iter X.env x = pure x := by intro _; rfl) : EV X E (.ListComp elt [⟨tg, iter, ifs, 0⟩] scope pos) (mLc (own.map (·.2)) T mi mt me) := by
  obtain ⟨wi, tt, te, h1, h2, h3, h4, h5⟩ := lc_read L
  exact ⟨_, pe_lc o.calm o.nd h1 ok h2 h3 h4 hs, h5⟩
end
/-! ### statements -/
inductive SR where
  | nx (e : Env) (s : Sto) | rt (d : D) (s : Sto) | bk (e : Env) (s : Sto) | ct (e : Env) (s : Sto) | ex (x : Exn) (s : Sto) | bad
def Res.toS {α : Type} (r : Res α) (f : α → Sto → SR) : SR := match r with
  | .ok a s => f a s
  | .ex x s => .ex x s
  | .bad => .bad
@[simp] theorem toS_ok {α : Type} (a : α) (s : Sto) (f : α → Sto → SR) : (Res.ok a s).toS f = f a s := rfl
@[simp] theorem toS_ex {α : Type} (x : Exn) (s : Sto) (f : α → Sto → SR) : (Res.ex x s : Res α).toS f = .ex x s := rfl
@[simp] theorem toS_bad {α : Type} (f : α → Sto → SR) : (Res.bad : Res α).toS f = .bad := rfl
abbrev MS := Env → Sto → SR
section
variable (K : PySem.W.Frag) (mg : Str → Option Value)
def SGood (E : XK) (w : Wd) (r : SR) (Dn : Ends) : Prop := match r with
  | .nx env S => ∀ w' H' σ', w.le w' → Rep K mg w' S H' → RelEnv K mg w' env σ' → Dn.nx σ' H'
  | .rt d S => ∀ w' H' v, w.le w' → Rep K mg w' S H' → RelD K mg w' d v → Dn.rt v H'
  | .bk env S => ∀ w' H' σ', w.le w' → Rep K mg w' S H' → RelEnv K mg w' env σ' → Dn.bk σ' H'
  | .ct env S => ∀ w' H' σ', w.le w' → Rep K mg w' S H' → RelEnv K mg w' env σ' → Dn.ct σ' H'
  | .ex x S => XP K mg E w x S
  | .bad => False
end
section
variable {K : PySem.W.Frag} {mg : Str → Option Value}
theorem SGood.up {E : XK} {w w1 : Wd} {r : SR} {Dn : Ends} (h : SGood K mg E w r Dn) (le : w.le w1) : SGood K mg E w1 r Dn := by
  cases r with
  | nx e s => exact fun w' H' σ' l => h w' H' σ' (le.trans l)
  | rt d s => exact fun w' H' σ' l => h w' H' σ' (le.trans l)
  | bk e s => exact fun w' H' σ' l => h w' H' σ' (le.trans l)
  | ct e s => exact fun w' H' σ' l => h w' H' σ' (le.trans l)
  | ex x s => exact XP.up le h
  | bad => exact h
theorem SGood.bind {α β : Type} {E : XK} {w : Wd} {R : Wd → α → β → Prop} {r : Res α} {f : α → Sto → SR} {Dn : Ends} (h : SGood K mg E w (r.toS f) Dn) {Q1 : β → Hp → Prop}
    (k : ∀ a S1 w1 H1 v, w.le w1 → Rep K mg w1 S1 H1 → R w1 a v → SGood K mg E w1 (f a S1) Dn → Q1 v H1) : Good K mg E w R r Q1 := by
  cases r with
  | ok a s => exact fun w' H' v l r q => k a s w' H' v l r q (SGood.up h l)
  | ex x s => exact h
  | bad => exact h.elim
end
def ES (X : Cx) (E : XK) (st : Stmt) (m : MS) : Prop :=
  ∃ t, PS X st t ∧ ∀ w env S σ H Dn, Rep X.K X.mg w S H → RelEnv X.K X.mg w env σ → SGood X.K X.mg E w (m env S) Dn → t Dn σ H
def ESs (X : Cx) (E : XK) (st : List Stmt) (m : MS) : Prop :=
  ∃ t, PSs X st t ∧ ∀ w env S σ H Dn, Rep X.K X.mg w S H → RelEnv X.K X.mg w env σ → SGood X.K X.mg E w (m env S) Dn → t Dn σ H
def SR.thn (r : SR) (f : MS) : SR := match r with
  | .nx e s => f e s
  | r => r
def mNx : MS := fun env S => .nx env S
def mSeq (m1 m2 : MS) : MS := fun env S => (m1 env S).thn m2
def mRet (ma : Env → M D) : MS := fun env S => (ma env S).toS fun d S1 => .rt d S1
def mRetN : MS := fun _ S => .rt .non S
def mSet (i : Nat) (ma : Env → M D) : MS := fun env S => (ma env S).toS fun d S1 => .nx (env.set i (some d)) S1
def mDrop (ma : Env → M D) : MS := fun env S => (ma env S).toS fun _ S1 => .nx env S1
def mIfS (mt : Env → M Bool) (m1 m2 : MS) : MS := fun env S => (mt env S).toS fun b S1 => if b = true then m1 env S1 else m2 env S1
def mTgS (T : Tg) (ma : Env → M D) : MS := fun env S => (ma env S).toS fun d S1 => match T.put d env with
  | some env' => .nx env' S1
  | none => .bad
def mPar (is : List Nat) (ml : Env → M (List D)) : MS := fun env S => (ml env S).toS fun ds S1 => match putAll is ds env with
  | some env' => .nx env' S1
  | none => .bad
def augAdd (x y : D) : Option D := match x, y with
  | .int i, .int j => some (.int (i + j))
  | _, _ => none
def mAugA (i : Nat) (ma : Env → M D) : MS := fun env S => match env[i]? with
  | some (some x) => (ma env S).toS fun y S1 => match augAdd x y with
    | some z => .nx (env.set i (some z)) S1
    | none => .bad
  | _ => .bad
def forL (T : Tg) (mb : MS) : List D → MS
  | [], env, S => .nx env S
  | d :: ds, env, S => match T.put d env with
    | none => .bad
    | some env' => match mb env' S with
      | .nx e s => forL T mb ds e s
      | .ct e s => forL T mb ds e s
      | .bk e s => .nx e s
      | r => r
def mFor (T : Tg) (mi : Env → M (List D)) (mb : MS) : MS := fun env S => (mi env S).toS fun ds S1 => forL T mb ds env S1
def cellSet (k : Nat) (c : Cell) (S : Sto) : Sto := S.set k c
/-- o[i] = v over a list that may change -/
def setIx (o i v : D) (S : Sto) : Option Sto := match o, i with
  | .cell k, .int n => match S[k]? with
    | some (.lst xs) => match ixN xs.length n with
      | some p => if v.pure = true then some (S.set k (.lst (xs.set p v))) else none
      | none => none
    | _ => none
  | _, _ => none
def mSetIx (mo mi ma : Env → M D) : MS := fun env S => (ma env S).toS fun v S1 => (mo env S1).toS fun o S2 => (mi env S2).toS fun i S3 => match setIx o i v S3 with
  | some S4 => .nx env S4
  | none => .bad
/-- o.f = v -/
def setFld (c f : Str) (o v : D) (S : Sto) : Option Sto := match o with
  | .cell k => match S[k]? with
    | some (.ins c' fs) => if c' = c ∧ fs.length < 1000 ∧ v.pure = true then some (S.set k (.ins c (putD f v fs))) else none
    | _ => none
  | _ => none
def mSetFld (c f : Str) (mo ma : Env → M D) : MS := fun env S => (ma env S).toS fun v S1 => (mo env S1).toS fun o S2 => match setFld c f o v S2 with
  | some S3 => .nx env S3
  | none => .bad
theorem pureFs_put {f : Str} {v : D} (hv : v.pure = true) : ∀ {fs : List (Str × D)}, pureFs fs = true → pureFs (putD f v fs) = true
  | [], _ => by simp [putD, pureFs, hv]
  | (g, e) :: r, h => by
    have h' : e.pure = true ∧ pureFs r = true := by simpa [pureFs] using h
    unfold putD
    split
    · simp [pureFs, hv, h'.2]
    · simp [pureFs, h'.1, pureFs_put hv h'.2]
theorem pures_set {v : D} (hv : v.pure = true) : ∀ {xs : List D} (p : Nat), pures xs = true → pures (xs.set p v) = true
  | [], _, h => by simp [pures]
  | x :: xs, 0, h => by
    have h' : x.pure = true ∧ pures xs = true := by simpa [pures] using h
    simp [pures, hv, h'.2]
  | x :: xs, p + 1, h => by
    have h' : x.pure = true ∧ pures xs = true := by simpa [pures] using h
    simp [pures, h'.1, pures_set hv p h'.2]
theorem pures_append : ∀ {xs ys : List D}, pures xs = true → pures ys = true → pures (xs ++ ys) = true
  | [], _, _, h => h
  | x :: xs, ys, h, k => by
    have h' : x.pure = true ∧ pures xs = true := by simpa [pures] using h
    simp [pures, h'.1, pures_append h'.2 k]
section
variable {X : Cx} {E : XK} {j : Nat} {pos : Pos} {a b c : Expr} {ma mb mo mi : Env → M D} {mt : Env → M Bool} {ml : Env → M (List D)} {st : Stmt} {rest : List Stmt} {m1 m2 : MS}
theorem ess_nil : ESs X E [] mNx := ⟨_, pss_nil, fun w env S σ H Dn R RE h => h w H σ (.refl _) R RE⟩
theorem ess_cons (h1 : ES X E st m1) (h2 : ESs X E rest m2) : ESs X E (st :: rest) (mSeq m1 m2) := by
  obtain ⟨t, p, q⟩ := h1
  obtain ⟨u, p2, q2⟩ := h2
  refine ⟨_, pss_cons p p2, fun w env S σ H Dn R RE h => ?_⟩
  refine q w env S σ H _ R RE ?_
  unfold mSeq SR.thn at h
  cases e : m1 env S with
  | nx env' S' =>
    rw [e] at h
    exact fun w' H' σ' le R' RE' => q2 w' env' S' σ' H' _ R' RE' (SGood.up h le)
  | rt d s => rw [e] at h; exact h
  | bk d s => rw [e] at h; exact h
  | ct d s => rw [e] at h; exact h
  | ex d s => rw [e] at h; exact h
  | bad => rw [e] at h; exact h
theorem ess_one (h1 : ES X E st m1) : ESs X E [st] m1 := by
  obtain ⟨t, p, q⟩ := h1
  exact ⟨_, pss_one p, q⟩
theorem es_never : ES X E st (fun _ _ => .bad) := ⟨_, ps_never, fun _ _ _ _ _ _ _ _ h => h.elim⟩
theorem ess_never {sts : List Stmt} : ESs X E sts (fun _ _ => .bad) := ⟨_, pss_never, fun _ _ _ _ _ _ _ _ h => h.elim⟩
theorem es_pass : ES X E (.Pass pos) mNx := ⟨_, ps_pass, fun w env S σ H Dn R RE h => h w H σ (.refl _) R RE⟩
theorem es_ret (ha : EV X E a ma) : ES X E (.Return (some a) pos) (mRet ma) := by
  obtain ⟨ta, pa, qa⟩ := ha
  exact ⟨_, ps_ret pa, fun w env S σ H Dn R RE h => qa w env S σ H _ R RE (h.bind fun x S1 w1 H1 u l1 R1 r1 h => h w1 H1 u (.refl _) R1 r1)⟩
theorem es_retN : ES X E (.Return none pos) mRetN := ⟨_, ps_retN, fun w env S σ H Dn R RE h => h w H .non (.refl _) R rfl⟩
theorem es_expr (ha : EV X E a ma) (hs : swapsWith a none pos.line X.env = pure false := by rfl) : ES X E (.Expr a pos) (mDrop ma) := by
  obtain ⟨ta, pa, qa⟩ := ha
  exact ⟨_, ps_expr pa hs, fun w env S σ H Dn R RE h => qa w env S σ H _ R RE (h.bind fun x S1 w1 H1 u l1 R1 r1 h => h w1 H1 σ (.refl _) R1 (RE.mono l1))⟩
theorem es_if {t u : List Stmt} (hc : ET X E a mt) (h1 : ESs X E t m1) (h2 : ESs X E u m2) : ES X E (.If a t u pos) (mIfS mt m1 m2) := by
  obtain ⟨tc, pc, qc⟩ := hc
  obtain ⟨t1, p1, q1⟩ := h1
  obtain ⟨t2, p2, q2⟩ := h2
  refine ⟨_, ps_if pc p1 p2, fun w env S σ H Dn R RE h => ?_⟩
  refine qc w env S σ H _ R RE (h.bind fun k S1 w1 H1 u l1 R1 r1 h => ?_)
  cases r1
  cases k with
  | true => exact q1 w1 env S1 σ H1 _ R1 (RE.mono l1) h
  | false => exact q2 w1 env S1 σ H1 _ R1 (RE.mono l1) h
theorem es_set (i : Nat) {x : Str} {pos' : Pos} (hN : X.N.Nodup) (ha : EV X E a ma) (hi : X.N[i]? = some x := by rfl) (hx : Loc X.env.scope x := by first | exact Or.inl rfl | exact Or.inr rfl) (hs : swapsWith a (some (.Name x pos')) pos.line X.env = pure false := by rfl)
    (hf : X.fn x = true ∨ X.env.scope.names.lookup x = some .local := by first | exact .inl rfl | exact .inr rfl | assumption) : ES X E (.Assign [.Name x pos'] a pos) (mSet i ma) := by
  obtain ⟨ta, pa, qa⟩ := ha
  refine ⟨_, ps_set hN hi hx pa hs hf, fun w env S σ H Dn R RE h => ?_⟩
  exact qa w env S σ H _ R RE (h.bind fun x S1 w1 H1 u l1 R1 r1 h => h w1 H1 _ (.refl _) R1 ((RE.mono l1).set r1))
theorem es_setLc (i : Nat) {y : Str} {py spos : Pos} {elt tg iter : Expr} {ifs : List Expr} {scope : Scope} {own : List (Str × Nat)} {T : Tg} {g : TG} {mi : Env → M (List D)} {mt : Env → M Bool} {me : Env → M D} (o : XO X E j) (ok : BlkOk X.N X.env.scope scope own) (L : LcOk X E elt tg iter ifs scope own T g mi mt me)
    (hsw : swapsWith (.ListComp elt [⟨tg, iter, ifs, 0⟩] scope pos) (some (.Name y py)) spos.line X.env = pure true) (hy : X.N[i]? = some y := by rfl) (hyl : X.env.scope.names.lookup y = some .local := by rfl)
    (hs : ∀ x, foldedSetIterable iter X.env x = pure x := by intro _; rfl) : ES X E (.Assign [.Name y py] (.ListComp elt [⟨tg, iter, ifs, 0⟩] scope pos) spos) (mSet i (mLc (own.map (·.2)) T mi mt me)) := by
  obtain ⟨wi, tt, te, h1, h2, h3, h4, h5⟩ := lc_read L
  refine ⟨_, ps_setLc o.calm o.nd hy hyl hsw h1 ok h2 h3 h4 hs, fun w env S σ H Dn R RE h => ?_⟩
  exact h5 w env S σ H _ R RE (h.bind fun x S1 w1 H1 u l1 R1 r1 h => h w1 H1 _ (.refl _) R1 ((RE.mono l1).set r1))
theorem es_tg {tg : Expr} {T : Tg} {g : TG} (ha : EV X E a ma) (hg : ETg X tg T g) (hs : swapsWithSole [tg] a pos.line X.env = pure false := by rfl) (hw : swappedStores [tg] a X.env = pure none := by rfl)
    (h1 : (assignEach [tg] X.env).map (·.2) = [assign tg X.env] := by rfl) : ES X E (.Assign [tg] a pos) (mTgS T ma) := by
  obtain ⟨ta, pa, qa⟩ := ha
  refine ⟨_, ps_asg pa hg.1 hs hw h1, fun w env S σ H Dn R RE h => ?_⟩
  refine qa w env S σ H _ R RE (h.bind fun x S1 w1 H1 u l1 R1 r1 h => ?_)
  split at h
  · rename_i env' e
    exact hg.2 w1 env S1 σ H1 u x env' _ R1 (RE.mono l1) r1 e fun σ' hs => h w1 H1 σ' (.refl _) R1 hs.1
  · exact h.elim
theorem es_par (i k : Nat) {x y : Str} {px py pt : Pos} {kt k2 pt2} (o : XO X E j) (ha : EA X E [a, b] ml) (hw : swappedStores [.Tuple [.Name x px, .Name y py] kt pt] (.Tuple [a, b] k2 pt2) X.env = pure (some [x, y]) := by rfl)
    (hi : X.N[i]? = some x := by rfl) (hj : X.N[k]? = some y := by rfl) (hij : i ≠ k := by decide) (hx : X.env.scope.names.lookup x = some .local := by rfl) (hy : X.env.scope.names.lookup y = some .local := by rfl)
    (hs : swapsWithSole [.Tuple [.Name x px, .Name y py] kt pt] (.Tuple [a, b] k2 pt2) pos.line X.env = pure false := by rfl) :
    ES X E (.Assign [.Tuple [.Name x px, .Name y py] kt pt] (.Tuple [a, b] k2 pt2) pos) (mPar [i, k] ml) := by
  obtain ⟨ta, pa, qa⟩ := ha
  refine ⟨_, ps_par o.calm o.nd hi hj hij hx hy pa hw hs, fun w env S σ H Dn R RE h => ?_⟩
  refine qa w env S σ H _ R RE (h.bind fun ds S1 w1 H1 u l1 R1 r1 h => ?_)
  split at h
  · rename_i env' e
    match ds, r1, e with
    | [d1, d2], ⟨v, r, e1, rv, v2, r2, e2, rv2, e3⟩, e =>
      subst e1 e2 e3
      cases e
      exact ⟨v, v2, rfl, h w1 H1 _ (.refl _) R1 (((RE.mono l1).set rv).set rv2)⟩
    | [], _, e => cases e
    | [_], _, e => cases e
    | _ :: _ :: _ :: _, _, e => cases e
  · exact h.elim
theorem es_par3 (i k l : Nat) {x y z : Str} {px py pz pt : Pos} {kt k2 pt2} (o : XO X E j) (ha : EA X E [a, b, c] ml) (hw : swappedStores [.Tuple [.Name x px, .Name y py, .Name z pz] kt pt] (.Tuple [a, b, c] k2 pt2) X.env = pure (some [x, y, z]) := by rfl)
    (hi : X.N[i]? = some x := by rfl) (hj : X.N[k]? = some y := by rfl) (hl : X.N[l]? = some z := by rfl) (hij : i ≠ k := by decide) (hil : i ≠ l := by decide) (hjl : k ≠ l := by decide) (hx : X.env.scope.names.lookup x = some .local := by rfl) (hy : X.env.scope.names.lookup y = some .local := by rfl) (hz : X.env.scope.names.lookup z = some .local := by rfl)
    (hs : swapsWithSole [.Tuple [.Name x px, .Name y py, .Name z pz] kt pt] (.Tuple [a, b, c] k2 pt2) pos.line X.env = pure false := by rfl) :
    ES X E (.Assign [.Tuple [.Name x px, .Name y py, .Name z pz] kt pt] (.Tuple [a, b, c] k2 pt2) pos) (mPar [i, k, l] ml) := by
  obtain ⟨ta, pa, qa⟩ := ha
  refine ⟨_, ps_par3 o.calm o.nd hi hj hl hij hil hjl hx hy hz pa hw hs, fun w env S σ H Dn R RE h => ?_⟩
  refine qa w env S σ H _ R RE (h.bind fun ds S1 w1 H1 u l1 R1 r1 h => ?_)
  split at h
  · rename_i env' e
    match ds, r1, e with
    | [d1, d2, d3], ⟨v, r, e1, rv, v2, r2, e2, rv2, v3, r3, e3, rv3, e4⟩, e =>
      subst e1 e2 e3 e4
      cases e
      exact ⟨v, v2, v3, rfl, h w1 H1 _ (.refl _) R1 ((((RE.mono l1).set rv).set rv2).set rv3)⟩
    | [], _, e => cases e
    | [_], _, e => cases e
    | [_, _], _, e => cases e
    | _ :: _ :: _ :: _ :: _, _, e => cases e
  · exact h.elim
theorem es_augA (i : Nat) {x : Str} {pos' : Pos} (hN : X.N.Nodup) (ha : EV X E a ma) (hi : X.N[i]? = some x := by rfl) (hx : Loc X.env.scope x := by first | exact Or.inl rfl | exact Or.inr rfl)
    (hf : X.fn x = true ∨ X.env.scope.names.lookup x = some .local := by first | exact .inl rfl | exact .inr rfl | assumption) : ES X E (.AugAssign (.Name x pos') .Add a pos) (mAugA i ma) := by
  obtain ⟨ta, pa, qa⟩ := ha
  refine ⟨_, ps_aug hN hi hx pa ip_add hf, fun w env S σ H Dn R RE h => ?_⟩
  unfold mAugA at h
  split at h
  · rename_i x' e
    obtain ⟨v, h1, h2⟩ := RE.2 i x' e
    refine ⟨v, h1, qa w env S σ H _ R RE (h.bind fun y S1 w1 H1 u l1 R1 r1 h => ?_)⟩
    split at h
    · rename_i z ez
      unfold augAdd at ez
      split at ez
      · cases ez
        cases h2; cases r1
        exact ⟨_, _, rfl, rfl, h w1 H1 _ (.refl _) R1 ((RE.mono l1).set rfl)⟩
      · cases ez
    · exact h.elim
  · exact h.elim
theorem es_for {tg iter : Expr} {body : List Stmt} {T : Tg} {g : TG} {mi : Env → M (List D)} {mb : MS} (o : XS X E j) (hi : EI X E tg iter mi) (hg : ETg X tg T g) (hb : ESs X E body mb)
    (hs : ∀ x, foldedSetIterable iter X.env x = pure x := by intro _; rfl) : ES X E (.For tg iter body [] pos) (mFor T mi mb) := by
  obtain ⟨wi, pi, qi⟩ := hi
  obtain ⟨tb, pb, qb⟩ := hb
  refine ⟨_, ps_for o.po o.calm pi hg.1 pb hs, fun w env S σ H Dn R RE h => ?_⟩
  refine qi w env S σ H _ R RE (h.bind fun ds S1 w1 H1 J l1 R1 itr h => ?_)
  let N : Nat → L2.St → Hp → Prop := fun i σ H => ∃ w2 env2 S2, w1.le w2 ∧ Rep X.K X.mg w2 S2 H ∧ RelEnv X.K X.mg w2 env2 σ ∧ SGood X.K X.mg E w2 (forL T mb (ds.drop i) env2 S2) Dn
  refine ⟨fun i m σ H => m = ds.length - i ∧ i ≤ ds.length ∧ N i σ H, ⟨ds.length, by simp, Nat.zero_le _, w1, env, S1, .refl _, R1, RE.mono l1, h⟩, ?_⟩
  rintro i m σ2 H2 ⟨rfl, hi, w2, env2, S2, l2, R2, RE2, h2⟩
  obtain ⟨its, stp⟩ := itr w2 S2 H2 l2.1 l2.2.1 R2
  by_cases hlt : i < ds.length
  · have hd : ds[i]? = some ds[i] := by simp [hlt]
    obtain ⟨hgo, hyld⟩ := its i ds[i] hd
    rw [List.drop_eq_getElem_cons hlt] at h2
    unfold forL at h2
    refine .inr ⟨hgo, N (i + 1), fun σ' H' n => ⟨ds.length - (i + 1), by omega, rfl, hlt, n⟩, fun x H' hy => ?_⟩
    obtain ⟨w3, l3, R3, rx⟩ := hyld x H' hy
    split at h2
    · exact h2.elim
    · rename_i env' hput
      refine hg.2 w3 env2 S2 σ2 H' x _ env' _ R3 (RE2.mono l3) rx hput fun σ3 hs3 => ?_
      refine qb w3 env' S2 σ3 H' _ R3 hs3.1 ?_
      have h2 := SGood.up h2 l3
      split at h2
      · rename_i e s em
        rw [em]
        exact fun w' H' σ' le R' RE' => ⟨w', e, s, l2.trans (l3.trans le), R', RE', SGood.up h2 le⟩
      · rename_i e s em
        rw [em]
        exact fun w' H' σ' le R' RE' => ⟨w', e, s, l2.trans (l3.trans le), R', RE', SGood.up h2 le⟩
      · rename_i e s em
        rw [em]
        exact fun w' H' σ' le R' RE' => h2 w' H' σ' le R' RE'
      · rename_i r n1 n2 n3
        cases em : mb env' S2 with
        | nx e s => exact (n1 e s em).elim
        | ct e s => exact (n2 e s em).elim
        | bk e s => exact (n3 e s em).elim
        | rt d s => rw [em] at h2; exact h2
        | ex x s => rw [em] at h2; exact h2
        | bad => rw [em] at h2; exact h2
  · have e : i = ds.length := by omega
    subst e
    rw [List.drop_length] at h2
    exact .inl ⟨stp, h2 w2 H2 σ2 (.refl _) R2 RE2⟩
theorem es_setIx {pos' : Pos} (ho : EV X E b mo) (hi : EV X E c mi) (ha : EV X E a ma)
    (hs : swapsWithSole [.Subscript b c pos'] a pos.line X.env = pure false := by rfl) (hw : swappedStores [.Subscript b c pos'] a X.env = pure none := by rfl)
    (h1 : (assignEach [.Subscript b c pos'] X.env).map (·.2) = [assign (.Subscript b c pos') X.env] := by rfl)
    (hsub : ∀ v, assign (.Subscript b c pos') X.env v = (do
      let ov ← holding [v] (eval b X.env)
      let iv ← holding [v, ov] (eval c X.env)
      standAt pos'
      holding [v, ov, iv] (setItem ov iv v)
      release [v, ov, iv] []) := by intro _; rfl) : ES X E (.Assign [.Subscript b c pos'] a pos) (mSetIx mo mi ma) := by
  obtain ⟨ta, pa, qa⟩ := ha
  obtain ⟨to, po, qo⟩ := ho
  obtain ⟨ti, pi, qi⟩ := hi
  refine ⟨_, ps_asg pa (pg_sub po pi set_list hsub) hs hw h1, fun w env S σ H Dn R RE h => ?_⟩
  refine qa w env S σ H _ R RE (h.bind fun v S1 w1 H1 u l1 R1 r1 h => ?_)
  refine qo w1 env S1 σ H1 _ R1 (RE.mono l1) (h.bind fun o S2 w2 H2 u2 l2 R2 r2 h => ?_)
  refine qi w2 env S2 σ H2 _ R2 (RE.mono (l1.trans l2)) (h.bind fun i S3 w3 H3 u3 l3 R3 r3 h => ?_)
  split at h
  · rename_i S4 e
    unfold setIx at e
    split at e
    · rename_i k n
      split at e
      · rename_i xs ek
        split at e
        · rename_i p ep
          split at e
          · rename_i hp
            cases e
            cases r3
            obtain ⟨ad, rfl, ha⟩ := r2
            have ha3 : w3.rho[k]? = some ad := by
              obtain ⟨t, ht⟩ := l3.1
              rw [← ht, List.getElem?_append_left (List.getElem?_eq_some_iff.mp ha).1]
              exact ha
            obtain ⟨hF, hpu, vs, hv, rs⟩ := R3.cell k ad _ ha3 ek
            refine ⟨ad, vs, n, p, rfl, rfl, hv, by rw [rs.length]; exact ep, ?_⟩
            have r1' := (r1.mono l2).mono l3
            have R4 := R3.write (c := .lst (xs.set p v)) (o := .lst (vs.set p u)) ha3 hF ⟨hF, pures_set hp p hpu, _, upd_same, RelDs.set r1' p rs⟩
            exact h w3 _ σ (.refl _) R4 (RE.mono (l1.trans (l2.trans l3)))
          · cases e
        · cases e
      · cases e
    · cases e
  · exact h.elim
theorem es_setFld {cl f : Str} {C : Addr} {pos' : Pos} (hc : ClsAt X.K X.mg cl C) (hn : NoAttr X.K C f) (ho : EV X E b mo) (ha : EV X E a ma) (hs : swapsWith a (some (.Attribute b f pos')) pos.line X.env = pure false := by rfl) :
    ES X E (.Assign [.Attribute b f pos'] a pos) (mSetFld cl f mo ma) := by
  obtain ⟨ta, pa, qa⟩ := ha
  obtain ⟨to, po, qo⟩ := ho
  refine ⟨_, ps_fld po pa hs, fun w env S σ H Dn R RE h => ?_⟩
  refine qa w env S σ H _ R RE (h.bind fun v S1 w1 H1 u l1 R1 r1 h => ?_)
  refine qo w1 env S1 σ H1 _ R1 (RE.mono l1) (h.bind fun o S2 w2 H2 u2 l2 R2 r2 h => ?_)
  split at h
  · rename_i S4 e
    unfold setFld at e
    split at e
    · rename_i k
      split at e
      · rename_i c' fs ek
        split at e
        · rename_i hh
          cases e
          obtain ⟨ad, rfl, ha⟩ := r2
          obtain ⟨hF, hpu, C', dx, vs, m, hv, rs⟩ := R2.cell k ad _ ha ek
          obtain ⟨e1, e2, e3⟩ := hh
          subst e1
          rw [hc.at_] at m
          cases m
          refine ⟨ad, C, dx, vs, rfl, hv, hc.cls, hn, by rw [rs.length]; exact e2, ?_⟩
          have R4 := R2.write (c := .ins c' (putD f v fs)) (o := .ins C dx (putF f u vs)) ha hF ⟨hF, pureFs_put e3 hpu, C, dx, _, hc.at_, upd_same, RelFs.put (r1.mono l2) rs⟩
          exact h w2 _ σ (.refl _) R4 (RE.mono (l1.trans l2))
        · cases e
      · cases e
    · cases e
  · exact h.elim
end
/-! ### bodies -/
def okRes (n : Nat) : D → Bool
  | .cell k => decide (k < n)
  | d => d.pure
def fin (n x : Nat) (r : SR) : Res D := match r with
  | .nx _ S => .ok .non (S.take n)
  | .rt d S => if okRes (n + x) d = true then .ok d (S.take (n + x)) else .bad
  | .ex x S => if pureFs x.fs = true then .ex x (S.take n) else .bad
  | _ => .bad
/-- a def's function by its body's: nN slots, x changing objects that it hands out -/
def fnD (nN x : Nat) (m : MS) (ds : List D) : M D := fun S => fin S.length x (m (ds.map some ++ List.replicate (nN - ds.length) none) S)
theorem relEnv_start {K : PySem.W.Frag} {mg : Str → Option Value} {w : Wd} {N : List Str} {ds : List D} {vs : List V} (r : RelDs K mg w ds vs) : RelEnv K mg w (ds.map some ++ List.replicate (N.length - ds.length) none) (L2.start N vs) := by
  have hl := r.length
  refine ⟨by unfold L2.start; simp [hl], fun i d h => ?_⟩
  by_cases hi : i < ds.length
  · rw [List.getElem?_append_left (by simpa using hi), List.getElem?_map] at h
    obtain ⟨d', h1, h2⟩ := Option.map_eq_some_iff.mp h
    cases h2
    obtain ⟨v, h3, h4⟩ := r.get h1
    refine ⟨v, ?_, h4⟩
    unfold L2.start
    rw [List.getElem?_append_left (by rw [List.length_map, hl]; exact hi), List.getElem?_map, h3]
    rfl
  · rw [List.getElem?_append_right (by simpa using Nat.le_of_not_lt hi)] at h
    have := List.mem_of_getElem? h
    simp at this
theorem fin_good {K : PySem.W.Frag} {mg : Str → Option Value} {E : XK} {w : Wd} {S : Sto} {n x : Nat} {r : SR} {Q : VK} (hn : n = w.rho.length) (h : Good K mg E w (RelD K mg) (fin n x r) Q) : SGood K mg E w r { nx := fun _ H' => Q .non H', rt := Q } := by
  have lecut : ∀ {w' : Wd} (m : Nat), w.le w' → n ≤ m → w.le ⟨w'.rho.take m, w'.F, w'.Z⟩ := fun {w'} m l hm => ⟨by
    show w.rho <+: w'.rho.take m
    rw [List.prefix_take_iff]
    exact ⟨l.1, by rw [← hn]; exact hm⟩, l.2.1, l.2.2⟩
  cases r with
  | nx e s => exact fun w' H' σ' l R _ => h _ H' .non (lecut n l (Nat.le_refl _)) (R.cut n) rfl
  | rt d s =>
    intro w' H' v l R rv
    unfold fin at h
    dsimp only at h
    split at h
    · rename_i hok
      refine h _ H' v (lecut (n + x) l (Nat.le_add_right _ _)) (R.cut (n + x)) ?_
      cases d with
      | cell k =>
        obtain ⟨a, e, ha⟩ := rv
        have hk : k < n + x := by simpa [okRes] using hok
        refine ⟨a, e, ?_⟩
        show (w'.rho.take (n + x))[k]? = some a
        rw [List.getElem?_take, if_pos hk]
        exact ha
      | _ => exact RelD.pure (w := w') (w' := ⟨w'.rho.take (n + x), w'.F, w'.Z⟩) (Same.refl _) (by simpa [okRes] using hok) rv
    · exact h.elim
  | bk e s => exact h.elim
  | ct e s => exact h.elim
  | ex y s =>
    intro w' H' cls dd l R rx
    unfold fin at h
    dsimp only at h
    split at h
    · rename_i hp
      obtain ⟨C, d, fv, e1, e2, e3, e4, rf⟩ := rx
      exact h _ H' cls dd (lecut n l (Nat.le_refl _)) (R.cut n) ⟨C, d, fv, e1, e2, e3, e4, RelFs.pure (w := w') (w' := ⟨w'.rho.take n, w'.F, w'.Z⟩) (Same.refl _) hp rf⟩
    · exact h.elim
  | bad => exact h
section
variable {P : Program} {wd : World} {K : PySem.W.Frag} {mg : Str → Option Value} {base : Heap}
/-- THE RULE for a def -/
theorem fn_body {x qual : Str} {params : Arguments} {body : List Stmt} {scope : Scope} {f : Addr} {fd : FuncData} {N ps : List Str} {k nx : Nat} {m : MS} (F : FunD K x qual params body scope [] [] f fd) (S : FnScope N ps scope)
    (hb : ∀ (cdv : Value) (A : Around) (outer : List PySem.Env) (s : Shared) (H : Hp) (E : XK), XS (cxOf (L2.CX P wd) P wd K mg base N qual scope f cdv A outer s H E) E k → XO (cxOf (L2.CX P wd) P wd K mg base N qual scope f cdv A outer s H E) E k → ESs (cxOf (L2.CX P wd) P wd K mg base N qual scope f cdv A outer s H E) E body m) :
    FnOk P wd K mg base (L2.CX P wd) (k + 1) f fd ps (spM K mg ps.length (fnD N.length nx m)) := by
  refine F.ok S (fun vs H Q E h => h.1) (fun cdv A outer s H vs Q E hr h => ?_)
  have tk : Takes (cxOf (L2.CX P wd) P wd K mg base N qual scope f cdv A outer s H E) (fun cls d _ H => E cls d H) := takes_of rfl rfl rfl rfl
  obtain ⟨t, p, q⟩ := hb cdv A outer s H E ⟨⟨rfl, passes_call tk fun _ _ _ _ h => h, hr, S.nd⟩, passes_of rfl, tk⟩ ⟨rfl, passes_call tk fun _ _ _ _ h => h, hr, S.nd⟩
  refine ⟨t, p, ?_⟩
  obtain ⟨hl, w, S0, ds, r, R, h⟩ := h
  exact q w _ S0 _ H _ R (relEnv_start r) (fin_good (S := S0) R.len.symm h)
end
end Gn

/-! GG: further rules: chains of three, t[::-1], enumerate of tuples, append, calls with keywords, class methods, len of an own instance, isinstance of an own class, defs with *rows. -/
namespace HT
open PySem PySem.Spec PyProof.Rows
section
variable {prog : Program} {w : World} {A : Around} {E : Value → Shared → Prop} {s : Shared}
theorem sliceApplied_rev {sl : Addr} {vl vu vs : Value} {n : Nat} {Q : Int × Int × Nat → Shared → Prop} (hs : s.heap.IsSliceOf sl vl vu vs) (pl : IsPart vl none) (pu : IsPart vu none) (ps : IsPart vs (some (-1)))
    (h : Q ((n : Int) - 1, -1, n) s) : wpAny (model prog w) A (Builtin.Slice.sliceApplied (.ref sl) (pure (n : Int))) Q E s := by
  obtain ⟨os, hos, hcs, hds⟩ := id hs
  unfold Builtin.Slice.sliceApplied Builtin.Slice.sliceFields
  refine wpAny_bind (wpAny_bind (wpAny_field hos hds (x := vl) rfl (wpAny_bind (wpAny_field hos hds (x := vu) rfl (wpAny_bind (wpAny_field hos hds (x := vs) rfl (wpAny_pure ?_)))))))
  refine wpAny_bind (slicePart_ ps ?_)
  show wpAny _ _ (if ((-1 : Int) == 0) = true then _ else _) _ _ s
  rw [if_neg (by decide)]
  refine wpAny_bind (slicePart_ pl (wpAny_bind (slicePart_ pu (wpAny_bind (wpAny_pure ?_)))))
  have e : Builtin.Slice.sliceAdjust none none (-1) (n : Int) = ((n : Int) - 1, -1) := rfl
  have e2 : Builtin.Slice.slicePlaces ((n : Int) - 1) (-1) (-1) = n := by
    unfold Builtin.Slice.slicePlaces
    rw [if_neg (by decide)]
    by_cases q : (n : Int) - 1 > -1
    · rw [if_pos q, show -(-1 : Int) = 1 from rfl, Int.ediv_one]; omega
    · rw [if_neg q]; omega
  show wpAny _ _ (match Builtin.Slice.sliceAdjust none none (-1) (n : Int) with | (lo, hi) => pure (lo, (-1 : Int), Builtin.Slice.slicePlaces lo hi (-1))) _ _ s
  rw [e]
  show wpAny _ _ (pure ((n : Int) - 1, (-1 : Int), Builtin.Slice.slicePlaces ((n : Int) - 1) (-1) (-1))) _ _ s
  rw [e2]
  exact wpAny_pure h
theorem pick_rev (xs : Array Value) : ((List.range xs.size).filterMap fun (k : Nat) => xs[((xs.size : Int) - 1 + (k : Int) * -1).toNat]?).toArray = xs.toList.reverse.toArray := by
  congr 1
  apply List.ext_getElem?
  intro i
  have hf : ∀ (l : List Nat) (f : Nat → Option Value) (g : Nat → Value), (∀ k ∈ l, f k = some (g k)) → l.filterMap f = l.map g := by
    intro l f g
    induction l with
    | nil => intro _; rfl
    | cons a l ih =>
      intro h
      rw [List.filterMap_cons, h a List.mem_cons_self, List.map_cons, ih fun k hk => h k (List.mem_cons_of_mem _ hk)]
  have e : (List.range xs.size).filterMap (fun (k : Nat) => xs[((xs.size : Int) - 1 + (k : Int) * -1).toNat]?) = (List.range xs.size).map fun k => xs.getD (xs.size - 1 - k) .none := by
    refine hf _ _ _ fun k hk => ?_
    have hk := List.mem_range.mp hk
    have e1 : ((xs.size : Int) - 1 + (k : Int) * -1).toNat = xs.size - 1 - k := by omega
    rw [e1, Array.getElem?_eq_getElem (by omega)]
    simp [Array.getD, show xs.size - 1 - k < xs.size by omega]
  rw [e, List.getElem?_map]
  by_cases h : i < xs.size
  · rw [List.getElem?_reverse (by simpa using h), List.getElem?_range h]
    simp [Array.getD, show xs.size - 1 - i < xs.size by omega]
  · rw [List.getElem?_eq_none (l := xs.toList.reverse) (by simpa using Nat.le_of_not_lt h), List.getElem?_eq_none (l := List.range xs.size) (by simpa using Nat.le_of_not_lt h)]
    rfl
theorem getItem_tuple_rev {t sl : Addr} {items : Array Value} {vl vu vs : Value} {Q : Value → Shared → Prop} (ht : IsTup s.heap t items) (hs : s.heap.IsSliceOf sl vl vu vs) (pl : IsPart vl none) (pu : IsPart vu none) (ps : IsPart vs (some (-1)))
    (h : Q (.ref s.heap.objs.size) { s with heap := s.heap.push { cls := .type "tuple", data := .seq items.toList.reverse.toArray } })
    (hsz : items.size ≤ sizeLine) : wpAny (model prog w) A (getItem (.ref t) (.ref sl)) Q E s := by
  have htake : sizeOk (.seq items.toList.reverse.toArray) := by
    show items.toList.reverse.toArray.size ≤ sizeLine
    simpa using hsz
  obtain ⟨os, hos, hcs, hds⟩ := id hs
  have hTs : s.TypeIs (.ref sl) "slice" := ⟨os, hos, hcs⟩
  unfold getItem
  try with_reducible refine wpAny_holding ?_
  first | refine wpAny_bind (wpAny_pure ?_) | skip
  refine wpAny_bind (wpAny_sequenceKey ht.typeIs (by decide) ?_)
  refine wpAny_bind (wpAny_callSpecial?_slot (name := Str.ofString "__getitem__") ht.typeIs PyProof.Rows.slot_tuple_getitem
    (wpAny_call_entry PyProof.Rows.slot_tuple_getitem ht.typeIs entry_tuple_getitem ?_ (args_tuple_getitem _ _)))
  show wpAny _ _ (Builtin.Tuple.tupleItemsOf (.ref t) >>= _) _ _ s
  refine wpAny_bind (tupleItemsOf_ ht ?_)
  refine wpAny_bind (wpAny_typeOf hTs ?_)
  rw [if_pos (by decide)]
  refine wpAny_bind (sliceApplied_rev hs pl pu ps ?_)
  have hno : ¬ ((((items.size : Int) - 1) == 0 && (-1 : Int) == 1 && items.size == items.size) = true) := by
    intro q
    rw [Bool.and_eq_true, Bool.and_eq_true] at q
    exact absurd q.1.2 (by decide)
  show wpAny _ _ (if (((items.size : Int) - 1) == 0 && (-1 : Int) == 1 && items.size == items.size) = true then _ else _) _ _ s
  rw [if_neg hno, pick_rev]
  first
    | exact wpAny_bind (m := Builtin.Tuple.tupleExact _) (wpAny_newObj_type (wpAny_pure ⟨_, rfl, wpAny_pure h⟩) htake)
    | exact wpAny_bind (m := Builtin.Tuple.tupleExact _) (wpAny_newObj_type (wpAny_bind (wpAny_pure (wpAny_pure ⟨_, rfl, wpAny_pure h⟩))) htake)
    | exact wpAny_bind (wpAny_bind (m := Builtin.Tuple.tupleExact _) (wpAny_newObj_type (wpAny_pure (wpAny_pure ⟨_, rfl, wpAny_pure h⟩)) htake))
    | exact wpAny_bind (wpAny_bind (m := Builtin.Tuple.tupleExact _) (wpAny_newObj_type (wpAny_pure ⟨_, rfl, wpAny_pure h⟩) htake))
end
end HT
namespace Gn
open PySem PySem.Spec PyProof.Rows L2

/-! ### xs[::-1] -/
def tRevT (K : PySem.W.Frag) (te : TE) : TE := fun σ H Q => te σ H fun x H1 => ∃ a xs, x = .ref a ∧ SqT K H1 a xs ∧ ∀ p, H1 p = none → Q (.ref p) (upd H1 p (.tup xs.reverse))
section
variable {X : Cx} {E : XK} {j k : Nat} {pos : Pos} {a b : Expr} {ma mb : Env → M D} {ml : Env → M (List D)} {es : List Expr}
theorem pe_revT {e : Expr} {te : TE} {k : Nat} {p1 p2 p3 pos : Pos} (he : PE X e te) : PE X (.Subscript e (.Slice none none (some (.UnaryOp .USub (.Constant (.int 1) k p1) p2)) p3) pos) (tRevT X.K te) := by
  refine ⟨fun pins s σ H Q I h => ?_⟩
  refine Subscript_ (thn (he.run pins s σ H _ I h) fun v s1 ⟨x, H1, I1, r1, q1⟩ => ?_)
  obtain ⟨a, xs, ex, hx, q⟩ := q1
  subst ex
  cases r1
  have hst : PO X (some (.UnaryOp .USub (.Constant (.int 1) k p1) p2)) (tPart (tUn (rU fun i => .int (-i)) (tC (.int 1)))) := po_some (pe_un un_neg pe_int)
  refine wpAny_Slice (thn (po_none.run pins s1 σ H1 (fun o H2 => o = none ∧ H2 = H1) I1 ⟨rfl, rfl⟩) fun vl s2 ⟨l, H2, I2, pl, el, e2⟩ => ?_)
  subst el e2
  refine thn (po_none.run pins s2 σ H2 (fun o H3 => o = none ∧ H3 = H2) I2 ⟨rfl, rfl⟩) fun vu s3 ⟨u, H3, I3, pu, eu, e3⟩ => ?_
  subst eu e3
  refine thn (hst.run pins s3 σ H3 (fun o H4 => o = some (-1) ∧ H4 = H3) I3 ⟨1, rfl, -1, rfl, rfl, rfl⟩) fun vs s4 ⟨o, H4, I4, ps, eo, e4⟩ => ?_
  subst eo e4
  have I5 : Inv X pins σ H4 { s4 with heap := s4.heap.push { cls := .type "slice", data := .fields #[vl, vu, vs] } } := I4.kept (t' := s4.toks) fun b ob q => Heap.get?_push_of_some _ q
  obtain ⟨its, r, ht, hz⟩ := I5.tuple hx
  have hlen := r.length
  show wpAny (model X.prog X.w) X.A (subscriptTail e (.Slice none none (some (.UnaryOp .USub (.Constant (.int 1) k p1) p2)) p3) (.ref a) (.ref s4.heap.objs.size)) (EP X pins σ Q) X.xe { s4 with heap := s4.heap.push { cls := .type "slice", data := .fields #[vl, vu, vs] } }
  refine tail_any (ops := [.ref a, .ref s4.heap.objs.size]) ht.typeIs (PyProof.Rows.slot_tuple_getitem.lookup) ?_ (by with_unfolding_all rfl)
  refine HT.getItem_tuple_rev ht (Heap.IsSliceOf.new _ vl vu vs) pl pu ps ?_ (by rw [List.size_toArray]; omega)
  refine ⟨.ref _, _, I5.laid (t' := s4.toks) (o := .tup xs.reverse) (fun b ob q => Heap.get?_push_of_some _ q) (Nat.le_refl _) ?_, rfl, q _ (I5.hok.fresh (Nat.le_refl _))⟩
  exact ⟨by rw [List.length_reverse]; omega, _, r.reverse, IsTup.new _ _⟩
def mRev (ma : Env → M D) : Env → M D := fun env S => (ma env S).bind fun x S1 => match x with
  | .tup xs => .ok (.tup xs.reverse) S1
  | _ => .bad
theorem ev_rev {k : Nat} {p1 p2 p3 : Pos} (ha : EV X E a ma) : EV X E (.Subscript a (.Slice none none (some (.UnaryOp .USub (.Constant (.int 1) k p1) p2)) p3) pos) (mRev ma) := by
  obtain ⟨ta, pa, qa⟩ := ha
  refine ⟨_, pe_revT pa, fun w env S σ H Q R RE h => ?_⟩
  refine qa w env S σ H _ R RE (h.bind fun x S1 w1 H1 u l1 R1 r1 h => ?_)
  split at h
  · obtain ⟨p, vs, rfl, q, rs⟩ := r1
    refine ⟨p, vs, rfl, sqT_mono R1.same q, fun l hl => ?_⟩
    obtain ⟨R2, l2⟩ := R1.laid hl (.tup vs.reverse)
    exact h.ok l2 R2 ⟨l, _, rfl, .inl (.inl upd_same), rs.rev.mono l2⟩
  · exact h.elim
/-! ### a < b < c <= d, as a test -/
def tC3 (r r' r'' : R2) (ta tb tc td : TE) : TT := fun σ H Q => ta σ H fun x H1 => tb σ H1 fun y H2 => r x y H2 fun z H3 => ∃ k, z = .bl k ∧
  (if k = true then tc σ H3 fun u H4 => r' y u H4 fun z H5 => ∃ k, z = .bl k ∧ (if k = true then td σ H5 fun v H6 => r'' u v H6 fun z H7 => ∃ k, z = .bl k ∧ Q k H7 else Q false H5) else Q false H3)
theorem pt_chain3 {c d : Expr} {op op' op'' : CmpOp} {r r' r'' : R2} {ta tb tc td : TE} (ho : OpR X (compareOp op) r) (ho' : OpR X (compareOp op') r') (ho'' : OpR X (compareOp op'') r'') (ha : PE X a ta) (hb : PE X b tb) (hc : PE X c tc) (hd : PE X d td)
    (hm : lastMarks [op, op', op''] [b, c, d] = false := by with_unfolding_all rfl) : PT X (.Compare a [op, op', op''] [b, c, d] pos) (tC3 r r' r'' ta tb tc td) := by
  refine ⟨fun pins s σ H Q I h => ?_⟩
  refine isTrue_chain (thn (ha.run pins s σ H _ I h) fun v s1 ⟨x, H1, I1, r1, q1⟩ => test_link (thn (hb.run pins s1 σ H1 _ I1 q1) fun u s2 ⟨y, H2, I2, r2, q2⟩ =>
    thn (ho pins s2 σ H2 x y v u _ I2 r1 r2 q2) fun d s3 ⟨z, H3, I3, r3, k, e, q3⟩ => ?_)) hm
  subst e
  cases r3
  refine wpAny_truthy_bool ?_
  cases k with
  | false => exact ite_ff ⟨H3, I3, q3⟩
  | true =>
    refine ite_tt (test_link (thn (hc.run pins s3 σ H3 _ I3 q3) fun w' s4 ⟨z', H4, I4, r4, q4⟩ => thn (ho' pins s4 σ H4 y z' u w' _ I4 r2 r4 q4) fun d5 s5 ⟨z5, H5, I5, r5, k5, e5, q5⟩ => ?_))
    subst e5
    cases r5
    refine wpAny_truthy_bool ?_
    cases k5 with
    | false => exact ite_ff ⟨H5, I5, q5⟩
    | true =>
      refine ite_tt (test_last (thn (hd.run pins s5 σ H5 _ I5 q5) fun w6 s6 ⟨z6, H6, I6, r6, q6⟩ => thn (ho'' pins s6 σ H6 z' z6 w' w6 _ I6 r4 r6 q6) fun d7 s7 ⟨z7, H7, I7, r7, k7, e7, q7⟩ => ?_))
      subst e7
      cases r7
      exact wpAny_truthy_bool ⟨H7, I7, q7⟩
def mChain3T (g g' g'' : D → D → M D) (ma mb mc md : Env → M D) : Env → M Bool := fun env S => (ma env S).bind fun x S1 => (mb env S1).bind fun y S2 => (noex (g x y S2)).bind fun z S3 => (tstB z S3).bind fun b S4 =>
  if b = true then (mc env S4).bind fun u S5 => (noex (g' y u S5)).bind fun z S6 => (tstB z S6).bind fun b S7 => if b = true then (md env S7).bind fun t S8 => (noex (g'' u t S8)).bind fun z S9 => tstB z S9 else .ok false S7 else .ok false S4
theorem et_chain3 {c d : Expr} {mc md : Env → M D} {op op' op'' : CmpOp} {g g' g'' : D → D → M D} (ho : OpD X (compareOp op) g) (ho' : OpD X (compareOp op') g') (ho'' : OpD X (compareOp op'') g'') (ha : EV X E a ma) (hb : EV X E b mb) (hc : EV X E c mc) (hd : EV X E d md)
    (hm : lastMarks [op, op', op''] [b, c, d] = false := by with_unfolding_all rfl) : ET X E (.Compare a [op, op', op''] [b, c, d] pos) (mChain3T g g' g'' ma mb mc md) := by
  obtain ⟨r, h1, h2⟩ := ho
  obtain ⟨r', h1', h2'⟩ := ho'
  obtain ⟨r'', h1'', h2''⟩ := ho''
  obtain ⟨ta, pa, qa⟩ := ha
  obtain ⟨tb, pb, qb⟩ := hb
  obtain ⟨tc, pc, qc⟩ := hc
  obtain ⟨td, pd, qd⟩ := hd
  refine ⟨_, pt_chain3 h1 h1' h1'' pa pb pc pd hm, fun w env S σ H Q R RE h => ?_⟩
  refine qa w env S σ H _ R RE (h.bind fun x S1 w1 H1 u l1 R1 r1 h => ?_)
  refine qb w1 env S1 σ H1 _ R1 (RE.mono l1) (h.bind fun y S2 w2 H2 v l2 R2 r2 h => ?_)
  refine h2 w2 S2 H2 _ x y u v R2 (r1.mono l2) r2 (good_noex (E := E) (h.bind fun z S3 w3 H3 v3 l3 R3 r3 h => ?_))
  refine good_tstB (Q := fun k H => if k = true then tc σ H fun u H4 => r' v u H4 fun z H5 => ∃ k, z = .bl k ∧ (if k = true then td σ H5 fun v H6 => r'' u v H6 fun z H7 => ∃ k, z = .bl k ∧ Q k H7 else Q false H5) else Q false H) R3 r3 (h.bind fun k S4 w4 H4 v4 l4 R4 r4 h => ?_)
  cases r4
  cases k with
  | false => exact h.ok (.refl _) R4 rfl
  | true =>
    refine qc w4 env S4 σ H4 _ R4 (RE.mono (l1.trans (l2.trans (l3.trans l4)))) (h.bind fun t S5 w5 H5 v5 l5 R5 r5 h => ?_)
    refine h2' w5 S5 H5 _ y t v v5 R5 (r2.mono (l3.trans (l4.trans l5))) r5 (good_noex (E := E) (h.bind fun z6 S6 w6 H6 v6 l6 R6 r6 h => ?_))
    refine good_tstB (Q := fun k H => if k = true then td σ H fun v H6 => r'' v5 v H6 fun z H7 => ∃ k, z = .bl k ∧ Q k H7 else Q false H) R6 r6 (h.bind fun k7 S7 w7 H7 v7 l7 R7 r7 h => ?_)
    cases r7
    cases k7 with
    | false => exact h.ok (.refl _) R7 rfl
    | true =>
      refine qd w7 env S7 σ H7 _ R7 (RE.mono (l1.trans (l2.trans (l3.trans (l4.trans (l5.trans (l6.trans l7))))))) (h.bind fun t8 S8 w8 H8 v8 l8 R8 r8 h => ?_)
      refine h2'' w8 S8 H8 _ t t8 v5 v8 R8 (r5.mono (l6.trans (l7.trans l8))) r8 (good_noex (E := E) (h.bind fun z9 S9 w9 H9 v9 l9 R9 r9 h => ?_))
      exact good_tstB R9 r9 h
/-! ### append, insert -/
def cellL (d : D) (S : Sto) : Option (Nat × List D) := match d with
  | .cell k => match S[k]? with
    | some (.lst xs) => some (k, xs)
    | _ => none
  | _ => none
def mAppend (ma : Env → M D) (ml : Env → M (List D)) : Env → M D := fun env S => (ma env S).bind fun x S1 => match cellL x S1 with
  | some _ => (ml env S1).bind fun ds S2 => match cellL x S2, ds with
    | some (k, xs), [y] => if xs.length < szL ∧ y.pure = true then .ok .non (S2.set k (.lst (xs ++ [y]))) else .bad
    | _, _ => .bad
  | none => .bad
theorem cellL_of {w : Wd} {S : Sto} {H : Hp} {d : D} {v : V} {k : Nat} {xs : List D} (R : Rep X.K X.mg w S H) (r : RelD X.K X.mg w d v) (h : cellL d S = some (k, xs)) : ∃ p vs, v = .ref p ∧ w.rho[k]? = some p ∧ w.F p = none ∧ H p = some (.lst vs) ∧ pures xs = true ∧ RelDs X.K X.mg w xs vs := by
  unfold cellL at h
  split at h
  · split at h
    · rename_i xs' e
      cases h
      obtain ⟨a, rfl, ha⟩ := r
      obtain ⟨hF, hp, vs, hv, rs⟩ := R.cell _ a _ ha e
      exact ⟨a, vs, rfl, ha, hF, hv, hp, rs⟩
    · cases h
  · cases h
theorem ev_append {apos : Pos} (ha : EV X E a ma) (hl : EA X E (b :: es) ml) (hbase : attributeBase a "append" X.env (eval a X.env) = eval a X.env := by rfl)
    (hfew : ((backTo pos (starEach (b :: es) X.env)).all (fun x => !x.1) && (backToKw pos (keywordEach [] X.env)).all (fun x => x.1.isSome)
      && decide ((b :: es).length + ([] : List Keyword).length + (if ([] : List Keyword).isEmpty then 0 else 1) < 30)) = true := by rfl)
    (hline : (apos.endLine == pos.line) = true := by rfl) (hs : starEach (b :: es) X.env = (false, eval b X.env) :: starEach es X.env := by rfl) (hplain : (backTo pos (starEach es X.env)).any (·.1) = false := by rfl) :
    EV X E (.Call (.Attribute a "append" apos) (b :: es) [] pos) (mAppend ma ml) := by
  obtain ⟨ta, pa, qa⟩ := ha
  obtain ⟨tl, pl, ql⟩ := hl
  refine ⟨_, pe_bm PySem.F.plainAttrs_list PySem.F.slot_list_append PySem.F.type_list_append mt_append pa pl hbase hfew hline hs hplain, fun w env S σ H Q R RE h => ?_⟩
  refine qa w env S σ H _ R RE (h.bind fun x S1 w1 H1 u l1 R1 r1 h => ?_)
  split at h
  · rename_i kx e
    obtain ⟨p0, vs0, rfl, _, _, hv0, _, _⟩ := cellL_of R1 r1 e
    refine ⟨.inl ⟨rfl, vs0, .inl (.inl hv0)⟩, ql w1 env S1 σ H1 _ R1 (RE.mono l1) (h.bind fun ds S2 w2 H2 us l2 R2 r2 h => ?_)⟩
    split at h
    · rename_i kk k xs y e2
      obtain ⟨p, vs, ep, hk, hF, hv, hp, rs⟩ := cellL_of R2 (r1.mono l2) e2
      obtain ⟨v, r, rfl, rv, rfl⟩ := r2
      cases ep
      split at h
      · rename_i hz
        refine ⟨_, vs, v, rfl, rfl, hv, by rw [rs.length, ← szL_eq]; exact hz.1, ?_⟩
        have R3 := R2.write (c := .lst (xs ++ [y])) (o := .lst (vs ++ [v])) hk hF ⟨hF, pures_append hp (by simp [pures, hz.2]), _, upd_same, rs.append (RelDs.one rv)⟩
        exact h.ok (.refl _) R3 rfl
      · exact h.elim
    · exact h.elim
  · exact h.elim
/-! ### a[i], x = pair -/
def mSetIxN (mo mi : Env → M D) (n : Nat) (ma : Env → M D) : MS := fun env S => (ma env S).toS fun v S1 => match v with
  | .tup [v1, v2] => (mo env S1).toS fun o S2 => (mi env S2).toS fun i S3 => match setIx o i v1 S3 with
    | some S4 => .nx (env.set n (some v2)) S4
    | none => .bad
  | _ => .bad
theorem setIx_of {w : Wd} {S S4 : Sto} {H : Hp} {o i v : D} {ov iv vv : V} (R : Rep X.K X.mg w S H) (ro : RelD X.K X.mg w o ov) (ri : RelD X.K X.mg w i iv) (rv : RelD X.K X.mg w v vv) (e : setIx o i v S = some S4) :
    ∃ p xs k jj, ov = .ref p ∧ iv = .int k ∧ H p = some (.lst xs) ∧ ixN xs.length k = some jj ∧ Rep X.K X.mg w S4 (upd H p (.lst (xs.set jj vv))) := by
  unfold setIx at e
  split at e
  · rename_i k n
    split at e
    · rename_i xs ek
      split at e
      · rename_i p ep
        split at e
        · rename_i hp
          cases e
          cases ri
          obtain ⟨ad, rfl, ha⟩ := ro
          obtain ⟨hF, hpu, vs, hv, rs⟩ := R.cell k ad _ ha ek
          refine ⟨ad, vs, n, p, rfl, rfl, hv, by rw [rs.length]; exact ep, ?_⟩
          exact R.write (c := .lst (xs.set p v)) (o := .lst (vs.set p vv)) ha hF ⟨hF, pures_set hp p hpu, _, upd_same, RelDs.set rv p rs⟩
        · cases e
      · cases e
    · cases e
  · cases e
theorem es_setIxN {mo mi : Env → M D} {c : Expr} {pos' pt pn : Pos} {kt : Nat} {x : Str} (ho : EV X E b mo) (hi : EV X E c mi) (n : Nat) (o : XO X E j) (ha : EV X E a ma) (hn : X.N[n]? = some x := by rfl) (hx : Loc X.env.scope x := by first | exact Or.inl rfl | exact Or.inr rfl)
    (hf : X.fn x = true ∨ X.env.scope.names.lookup x = some .local := by first | exact .inl rfl | exact .inr rfl | assumption)
    (hs : swapsWithSole [.Tuple [.Subscript b c pos', .Name x pn] kt pt] a pos.line X.env = pure false := by rfl) (hw : swappedStores [.Tuple [.Subscript b c pos', .Name x pn] kt pt] a X.env = pure none := by rfl)
    (h1 : (assignEach [.Tuple [.Subscript b c pos', .Name x pn] kt pt] X.env).map (·.2) = [assign (.Tuple [.Subscript b c pos', .Name x pn] kt pt) X.env] := by rfl)
    (hl : (assignEach [.Subscript b c pos', .Name x pn] X.env).length = 2 := by rfl) (hst : (assignEach [.Subscript b c pos', .Name x pn] X.env).findIdx? (·.1) = none := by rfl)
    (hs1 : (assignEach [.Subscript b c pos', .Name x pn] X.env).map (·.2) = assign (.Subscript b c pos') X.env :: (assignEach [.Name x pn] X.env).map (·.2) := by rfl)
    (hs2 : (assignEach [.Name x pn] X.env).map (·.2) = assign (.Name x pn) X.env :: (assignEach [] X.env).map (·.2) := by rfl)
    (hsub : ∀ v, assign (.Subscript b c pos') X.env v = (do
      let ov ← holding [v] (eval b X.env)
      let iv ← holding [v, ov] (eval c X.env)
      standAt pos'
      holding [v, ov, iv] (setItem ov iv v)
      release [v, ov, iv] []) := by intro _; rfl) : ES X E (.Assign [.Tuple [.Subscript b c pos', .Name x pn] kt pt] a pos) (mSetIxN mo mi n ma) := by
  obtain ⟨ta, pa, qa⟩ := ha
  obtain ⟨to, po, qo⟩ := ho
  obtain ⟨ti, pi, qi⟩ := hi
  refine ⟨_, ps_asg pa (pg_tup (n := 2) o.calm (pgs_cons (pg_sub po pi set_list hsub) (pgs_cons (pg_name o.nd hn hx hf) pgs_nil hs2) hs1) hl hst) hs hw h1, fun w env S σ H Dn R RE h => ?_⟩
  refine qa w env S σ H _ R RE (h.bind fun v S1 w1 H1 u l1 R1 r1 h => ?_)
  split at h
  · rename_i v1 v2
    obtain ⟨p, vs, rfl, q, u1, r, rfl, ru1, u2, r', rfl, ru2, rfl⟩ := r1
    refine ⟨p, _, rfl, sqT_mono R1.same q, rfl, u1, [u2], rfl, ?_⟩
    refine qo w1 env S1 σ H1 _ R1 (RE.mono l1) (h.bind fun o S2 w2 H2 u2' l2 R2 r2 h => ?_)
    refine qi w2 env S2 σ H2 _ R2 (RE.mono (l1.trans l2)) (h.bind fun i S3 w3 H3 u3 l3 R3 r3 h => ?_)
    split at h
    · rename_i S4 e
      obtain ⟨p, xs, kk, jj, e1, e2, e3, e4, R4⟩ := setIx_of R3 (r2.mono l3) r3 ((ru1.mono l2).mono l3) e
      exact ⟨p, xs, kk, jj, e1, e2, e3, e4, u2, [], rfl, rfl, h w3 _ _ (.refl _) R4 ((RE.mono (l1.trans (l2.trans l3))).set ((ru2.mono l2).mono l3))⟩
    · exact h.elim
  · exact h.elim
/-! ### calls with keywords -/
def EK (X : Cx) (E : XK) (kws : List Keyword) (m : Env → M (List D)) : Prop :=
  ∃ t, PK X kws t ∧ ∀ w env S σ H Q, Rep X.K X.mg w S H → RelEnv X.K X.mg w env σ → Good X.K X.mg E w (RelDs X.K X.mg) (m env S) Q → t σ H Q
theorem ek_nil : EK X E [] mNil := ⟨_, pk_nil, fun w env S σ H Q R RE h => h.ok (.refl w) R rfl⟩
theorem ek_cons {nm : Option Str} {kpos : Pos} {kws : List Keyword} (ha : EV X E a ma) (hr : EK X E kws ml) : EK X E (⟨nm, a, kpos⟩ :: kws) (mCons ma ml) := by
  obtain ⟨ta, pa, qa⟩ := ha
  obtain ⟨tb, pb, qb⟩ := hr
  refine ⟨_, pk_cons pa pb, fun w env S σ H Q R RE h => ?_⟩
  refine qa w env S σ H _ R RE (h.bind fun x S1 w1 H1 u l1 R1 r1 h => ?_)
  refine qb w1 env S1 σ H1 _ R1 (RE.mono l1) (h.bind fun xs S2 w2 H2 us l2 R2 r2 h => ?_)
  exact h.ok (.refl _) R2 ⟨u, us, rfl, r1.mono l2, r2⟩
/-- f(k = v, ..), no positional one -/
theorem pe_callK0 {CX : CXT} {f : Addr} {fd : FuncData} {ps ks : List Str} {sp : Sp} {x : Str} {p : Pos} {kws : List Keyword} {tk : TA} {g : List Value → List Value → List Value} {gV : List V → List V → List V}
    (F : FnOk X.prog X.w X.K X.mg X.base CX k f fd ps sp) (hr : Room k X.A) (hg : Gl X x) (hm : X.mg x = some (.ref f)) (hk : PySem.W.keepIn X.K (.ref f) = true) (hb : KBinds X.K fd ps ks g gV) (hx : Passes CX X E)
    (hkw : PK X kws tk) (hall : (backToKw pos (keywordEach kws X.env)).all (·.1.isSome) = true := by rfl) (hks : (backToKw pos (keywordEach kws X.env)).filterMap (·.1) = ks := by rfl)
    (hdb : (x == ("__debug__" : Str)) = false := by decide)
    (hpl : ((backTo pos (starEach [] X.env)).any (·.1) || (backToKw pos (keywordEach kws X.env)).any (·.1.isNone)) = false := by rfl) :
    PE X (.Call (.Name x p) [] kws pos) (tCallK sp gV E tNil tk) := by
  refine ⟨fun pins s σ H Q I h => ?_⟩
  refine wpAny_Call_Name_kw (ld_glob I hg hm ?_ hdb)
  refine PySem.W.callWith_KW0 (h₀ := X.base) I.ok.mod.kin hk hall ?_ hpl
  refine thn (hkw.run pos pins s σ H _ I h) fun ws s2 ⟨zs, H2, I2, rz, q2⟩ => ⟨I2.kIn, ?_⟩
  rw [hks]
  exact run_fnk (us := []) (vs := []) F hr hb hx I2 .nil rz q2
def kg {α : Type} (np nk : Nat) (o : List Nat) (z : α) (us ws : List α) : List α := if us.length = np ∧ ws.length = nk then o.map fun i => (us ++ ws).getD i z else []
/-- the module's def x, called with keywords: o tells which of all values each parameter gets -/
structure CalK (P : Program) (wd : World) (K : PySem.W.Frag) (mg : Str → Option Value) (base : Heap) (k : Nat) (x : Str) (ps ks : List Str) (o : List Nat) (fm : List D → M D) : Prop where
  ex : ∃ f fd, mg x = some (.ref f) ∧ PySem.W.keepIn K (.ref f) = true ∧ KBinds K fd ps ks (kg (ps.length - ks.length) ks.length o .none) (kg (ps.length - ks.length) ks.length o .non) ∧ FnOk P wd K mg base (L2.CX P wd) k f fd ps (spM K mg ps.length fm)
def mCallK (n nk : Nat) (fm : List D → M D) (o : List Nat) (ml mk : Env → M (List D)) : Env → M D := fun env S => (ml env S).bind fun ds S1 => (mk env S1).bind fun es S2 =>
  if ds.length = n - nk ∧ es.length = nk ∧ o.length = n ∧ o.all (fun i => decide (i < (ds ++ es).length)) = true then fm (o.map fun i => (ds ++ es).getD i .non) S2 else .bad
theorem vals_pick : ∀ (o : List Nat) {vs : List V} {us : List Value}, Vals vs us → Vals (o.map fun i => vs.getD i .non) (o.map fun i => us.getD i .none)
  | [], _, _, _ => .nil
  | i :: o, vs, us, r => .cons (by
      show RelV (vs.getD i .non) (us.getD i .none)
      by_cases hi : i < vs.length
      · obtain ⟨u, e1, e2⟩ := r.get (i := i) (List.getElem?_eq_getElem hi)
        rw [List.getD_eq_getElem?_getD, List.getD_eq_getElem?_getD, e1, List.getElem?_eq_getElem hi]
        exact e2
      · have h2 : us.length ≤ i := by rw [← r.length]; omega
        rw [List.getD_eq_getElem?_getD, List.getD_eq_getElem?_getD, List.getElem?_eq_none (by omega), List.getElem?_eq_none h2]
        exact rfl) (vals_pick o r)
theorem kbinds_mk {K : PySem.W.Frag} {x qual : Str} {params : Arguments} {body : List Stmt} {scope : Scope} {f : Addr} {fd : FuncData} {ps ks : List Str} {o : List Nat} (F : FunD K x qual params body scope [] [] f fd) (hp : ps ≠ [])
    (h : ∀ (kV doc pm : Value) (an : Option Addr) (cdv ct : Value) (us ws : List Value), us.length = ps.length - ks.length → ws.length = ks.length → bindArgs (PySem.W.fnOf x qual params body scope .none kV doc pm an cdv ct) ⟨us, ks.zip ws⟩ = pure (ps.zip (o.map fun i => (us ++ ws).getD i .none))) :
    KBinds K fd ps ks (kg (ps.length - ks.length) ks.length o .none) (kg (ps.length - ks.length) ks.length o .non) := by
  obtain ⟨oc, od, dV, kV, doc, pm, an, cdv, ct, osl, rfl, lk, hcd, hD, hK⟩ := F.ex
  have e : dV = .none := by
    rcases hD with ⟨_, e⟩ | ⟨e, _⟩
    · exact e
    · exact absurd rfl e
  subst e
  refine ⟨fun s us ws _ hl => ?_, fun {vs us zs ws} r q => ?_⟩
  · unfold kg at hl ⊢
    split at hl
    · rename_i hc
      rw [if_pos hc]
      exact .of_eq (h kV doc pm an cdv ct us ws hc.1 hc.2)
    · exact absurd (List.length_eq_zero_iff.mp hl.symm) hp
  · unfold kg
    rw [r.length, q.length]
    split
    · exact vals_pick o (r.append q)
    · exact .nil
theorem relds_pick {K : PySem.W.Frag} {mg : Str → Option Value} {w : Wd} {ds : List D} {vs : List V} (r : RelDs K mg w ds vs) : ∀ o : List Nat, o.all (fun i => decide (i < ds.length)) = true → RelDs K mg w (o.map fun i => ds.getD i .non) (o.map fun i => vs.getD i .non)
  | [], _ => rfl
  | i :: o, h => by
    have h' : i < ds.length ∧ o.all (fun i => decide (i < ds.length)) = true := by simpa using h
    have hd : ds[i]? = some ds[i] := by simp [h'.1]
    obtain ⟨v, h1, h2⟩ := r.get hd
    refine ⟨v, _, ?_, ?_, relds_pick r o h'.2⟩
    · rw [List.map_cons, List.getD_eq_getElem?_getD, h1]; rfl
    · show RelD K mg w (ds.getD i .non) v
      rw [List.getD_eq_getElem?_getD, hd]; exact h2
theorem ev_callK0 {x : Str} {p : Pos} {ps ks : List Str} {o : List Nat} {fm : List D → M D} {mk : Env → M (List D)} {kws : List Keyword} (c : CalK X.prog X.w X.K X.mg X.base k x ps ks o fm) (hr : Room j X.A) (hx : Passes (L2.CX X.prog X.w) X E) (hg : Gl X x) (ha : EA X E [] ml) (hkw : EK X E kws mk) (hk : k ≤ j := by decide)
    (hall : (backToKw pos (keywordEach kws X.env)).all (·.1.isSome) = true := by rfl) (hks : (backToKw pos (keywordEach kws X.env)).filterMap (·.1) = ks := by rfl)
    (hdb : (x == ("__debug__" : Str)) = false := by decide)
    (hpl : ((backTo pos (starEach [] X.env)).any (·.1) || (backToKw pos (keywordEach kws X.env)).any (·.1.isNone)) = false := by rfl) : EV X E (.Call (.Name x p) [] kws pos) (mCallK ps.length ks.length fm o mNil mk) := by
  obtain ⟨f, fd, h1, h2, h3, h4⟩ := c.ex
  obtain ⟨tk, pk, qk⟩ := hkw
  refine ⟨_, pe_callK0 h4 (hr.mono hk) hg h1 h2 h3 hx pk hall hks hdb hpl, fun w env S σ H Q R RE h => ?_⟩
  unfold mCallK mNil at h
  rw [bind_ok] at h
  show tk σ H _
  refine qk w env S σ H _ R RE (h.bind fun ds S1 w1 H1 us l1 R1 r1 h => ?_)
  split at h
  · rename_i hl
    have e2 : kg (ps.length - ks.length) ks.length o V.non [] us = o.map fun i => ([] ++ us).getD i V.non := if_pos ⟨hl.1, by rw [r1.length]; exact hl.2.1⟩
    show spM X.K X.mg ps.length fm (kg (ps.length - ks.length) ks.length o V.non [] us) H1 Q E
    rw [e2]
    exact ⟨by rw [List.length_map]; exact hl.2.2.1, w1, S1, _, relds_pick (ds := [] ++ ds) (vs := [] ++ us) r1 o hl.2.2.2, R1, h⟩
  · exact h.elim
/-! ### class methods -/
structure CMt (P : Program) (wd : World) (K : PySem.W.Frag) (mg : Str → Option Value) (base : Heap) (k : Nat) (c m : Str) (n : Nat) (fm : List D → M D) : Prop where
  ex : ∃ C mc p g, mg c = some (.ref C) ∧ ClX.CRead K C mc ∧ ClX.CMet K C mc m p g ∧ FnR P wd K mg base (L2.CX P wd) k g (spM K mg n fm)
def mCMeth (c : Str) (n : Nat) (fm : List D → M D) (ml : Env → M (List D)) : Env → M D := fun env S => (ml env S).bind fun ds S1 => if ds.length + 1 = n then fm (.nm c :: ds) S1 else .bad
theorem ev_cmeth {c m : Str} {n : Nat} {fm : List D → M D} {p apos : Pos} {pl : Sem Bool} (ct : CMt X.prog X.w X.K X.mg X.base k c m n fm) (hr : Room j X.A) (hx : Passes (L2.CX X.prog X.w) X E) (hg : Gl X c) (ha : EA X E (a :: es) ml) (hk : k ≤ j := by decide) (hd : (c == ("__debug__" : Str)) = false := by decide)
    (hst : starEach (a :: es) X.env = (false, eval a X.env) :: starEach es X.env := by rfl) (hpl : (backTo pos (starEach es X.env)).any (·.1) = false := by rfl)
    (ht : eval (.Call (.Attribute (.Name c p) m apos) (a :: es) [] pos) X.env = (do
      let ov ← eval (.Name c p) X.env
      standAt apos.atName
      let (f, first) ← holding [ov] (getMethod ov m pl)
      callWith pos f first (backTo pos (starEach (a :: es) X.env)) (backToKw pos (keywordEach [] X.env))) := by rfl) : EV X E (.Call (.Attribute (.Name c p) m apos) (a :: es) [] pos) (mCMeth c n fm ml) := by
  obtain ⟨C, mc, pp, g, h1, h2, h3, h4⟩ := ct.ex
  obtain ⟨t, p1, q1⟩ := ha
  refine ⟨_, ClX.pe_cmeth (pe_glob (v := .ref C) hg h1 rfl hd) h2 h3 h4 (hr.mono hk) hx p1 hst hpl ht, fun w env S σ H Q R RE h => ?_⟩
  refine ⟨rfl, q1 w env S σ H _ R RE (h.bind fun ds S1 w1 H1 us l1 R1 r1 h => ?_)⟩
  split at h
  · rename_i hl
    exact ⟨by rw [List.length_cons, r1.length]; exact hl, w1, S1, .nm c :: ds, ⟨_, us, rfl, ⟨C, rfl, h1⟩, r1⟩, R1, h⟩
  · exact h.elim
/-! ### len of an own instance -/
structure LnO (P : Program) (wd : World) (K : PySem.W.Frag) (mg : Str → Option Value) (base : Heap) (k : Nat) (c : Str) (fm : List D → M D) : Prop where
  ex : ∃ C f, ClsAt K mg c C ∧ PySem.W.findIn K (.ref C) "__len__" = some (some (.ref f)) ∧ PySem.W.isFn K (.ref f) = true ∧ FnR P wd K mg base (L2.CX P wd) k f (spM K mg 1 fm)
def rLenOwn (C : Addr) (sp : Sp) (E : XK) : List V → Hp → VK → Prop := fun xs H Q => ∃ a dx fs, xs = [V.ref a] ∧ H a = some (.ins C dx fs) ∧ sp [.ref a] H (fun z H' => ∃ i, z = .int i ∧ 0 ≤ i ∧ i < 2 ^ 63 ∧ Q z H') E
theorem call_lenOwn {C f : Addr} {CX : CXT} {sp : Sp} (hs : PySem.W.findIn X.K (.ref C) "__len__" = some (some (.ref f))) (hf : PySem.W.isFn X.K (.ref f) = true) (F : FnR X.prog X.w X.K X.mg X.base CX k f sp) (hr : Room (k + 1) X.A) (hx : Passes CX X E) : CallR X (.builtin "len") (rLenOwn C sp E) := by
  intro pins s σ H xs us Q I r h
  obtain ⟨a, dx, fs, rfl, ha, q⟩ := h
  obtain ⟨u, rfl, ru⟩ := vals1 r
  cases (show u = Value.ref a from ru)
  obtain ⟨mA, O, _, _, _, _⟩ := ins_get I.hok ha
  obtain ⟨od, J, _⟩ := O.look
  obtain ⟨m, hF⟩ := I.fr
  refine PySem.W.len_K hF I.ok.mod.kin J hs hf (wpAny_mono (wpAny_call (SlX.run_at (us := [.ref a]) (ws := [.ref a]) F hr.in1 I.env0.in1 hx I (.cons rfl .nil) q)) (fun w s' z => ?_) fun _ _ x => x)
  obtain ⟨z', H', I', rz, i, ei, h0, h1, qz⟩ := z
  subst ei
  obtain ⟨t, e⟩ := (show ∃ t, w = Value.int i t from rz)
  cases e
  exact ⟨⟨h0, h1⟩, .int i, H', I'.tok _, ⟨_, rfl⟩, qz⟩
def mLenOwn (c : Str) (fm : List D → M D) (ml : Env → M (List D)) : Env → M D := fun env S => (ml env S).bind fun ds S1 => match ds with
  | [d] => match fieldsD c d S1 with
    | some _ => (fm [d] S1).bind fun z S2 => match z with
      | .int i => if 0 ≤ i ∧ i < 2 ^ 63 then .ok (.int i) S2 else .bad
      | _ => .bad
    | none => .bad
  | _ => .bad
theorem ev_lenOwn {c : Str} {fm : List D → M D} {p : Pos} (ct : LnO X.prog X.w X.K X.mg X.base k c fm) (hr : Room j X.A) (hx : Passes (L2.CX X.prog X.w) X E) (hg : Gl X "len") (hm : X.mg "len" = none) (ha : EA X E (a :: es) ml) (hk : k + 1 ≤ j := by decide)
    (he : starEach (a :: es) X.env = (false, eval a X.env) :: starEach es X.env := by rfl) (hpl : (backTo pos (starEach es X.env)).any (·.1) = false := by rfl) : EV X E (.Call (.Name "len" p) (a :: es) [] pos) (mLenOwn c fm ml) := by
  obtain ⟨C, f, h1, h2, h3, h4⟩ := ct.ex
  obtain ⟨t, p1, q1⟩ := ha
  refine ⟨_, pe_callB (call_lenOwn h2 h3 h4 (hr.mono hk) hx) hg hm PySem.boot_len p1 (by decide) (by decide) he hpl, fun w env S σ H Q R RE h => ?_⟩
  refine q1 w env S σ H _ R RE (h.bind fun ds S1 w1 H1 us l1 R1 r1 h => ?_)
  split at h
  · rename_i d
    obtain ⟨v, r, rfl, rv, rfl⟩ := r1
    split at h
    · rename_i fs e
      obtain ⟨pp, dx, vs, rfl, hv, rs⟩ := fields_of R1 rv h1.at_ e
      refine ⟨pp, dx, vs, rfl, hv, rfl, w1, S1, [d], ⟨_, [], rfl, rv, rfl⟩, R1, h.bind fun z S2 w2 H2 zv l2 R2 rz h => ?_⟩
      split at h
      · cases rz
        split at h
        · rename_i hb
          exact ⟨_, rfl, hb.1, hb.2, h.ok (.refl _) R2 rfl⟩
        · exact h.elim
      · exact h.elim
    · exact h.elim
  · exact h.elim
/-! ### isinstance of an own class -/
structure IsiC (K : PySem.W.Frag) (mg : Str → Option Value) (c : Str) : Prop where
  ex : ∃ C, ClsAt K mg c C ∧ PySem.W.kitOne K (.ref C) (.ref C) = some true ∧ (∀ t ∈ ["NoneType", "bool", "int", "str", "tuple", "list"], PySem.W.kitOne K (.type t) (.ref C) = some false) ∧
    PySem.W.findIn K (.ref C) "__class__" = some (some (.builtin "object.__class__")) ∧ PySem.W.specialIn K (.builtin "object.__class__") "__get__" = some (some (.builtin "getset_descriptor.__get__")) ∧ PySem.W.takesIn K (.builtin "object.__class__") = some true ∧
    PySem.W.mroIn K C (.type "object") = some true
theorem tyN_mem {d : D} {t : String} (e : tyN d = some t) : t ∈ ["NoneType", "bool", "int", "str", "tuple", "list"] := by
  cases d <;> first | (cases e; simp) | (simp [tyN] at e)
def isiC (c : Str) (ds : List D) : M D := fun S => match ds with
  | [d, .nm c'] => if c' = c then match fieldsD c d S with
      | some _ => .ok (.bl true) S
      | none => match tyN d with
        | some _ => .ok (.bl false) S
        | none => .bad
    else .bad
  | _ => .bad
theorem cd_isiC {c : Str} (hc : IsiC X.K X.mg c) : CallD X (.builtin "isinstance") (isiC c) := by
  obtain ⟨C, h1, h2, h3, h4, h5, h6, h7⟩ := hc.ex
  refine ⟨_, call_isi, fun w S H Q xs us R r h => ?_⟩
  unfold isiC at h
  split at h
  · obtain ⟨v, r, rfl, rv, v2, r2, rfl, rv2, rfl⟩ := r
    split at h
    · rename_i ec
      subst ec
      obtain ⟨a2, rfl, ha2⟩ := rv2
      rw [h1.at_] at ha2
      cases ha2
      split at h
      · rename_i fs e
        obtain ⟨pp, dx, vs, rfl, hv, rs⟩ := fields_of R rv h1.at_ e
        exact ⟨_, _, _, _, true, rfl, .own C, .base (.ins hv h1.cls h4 h5 h6 h7), h2, h.ok (.refl w) R rfl⟩
      · split at h
        · rename_i t e
          exact ⟨v, _, _, _, false, rfl, .own C, tyX_of R rv e, h3 t (tyN_mem e), h.ok (.refl w) R rfl⟩
        · exact h.elim
    · exact h.elim
  · exact h.elim
end
/-! ### enumerate of a tuple -/
end Gn
namespace PySem
theorem meets_enumerate_newB1 {v : Value} {o : Obj} {H : Heap → Prop} (B : Begins v o H) :
    Meets (Builtin.«enumerate.__new__» ⟨[.type "enumerate", v], []⟩) (fun _ R s => H s.heap ∧
      R (.ok (.ret (.ref (s.heap.push o).objs.size))) { s with heap := (s.heap.push o).push { cls := .type "enumerate", data := .fields #[.none, .bool false, .ref s.heap.objs.size, rawInt 0, .none, .none] } }) :=
  .of_wp fun prog w A R s h => by
    obtain ⟨hp, g, d, tk, os⟩ := s; obtain ⟨h1, h⟩ := h
    have hsub := sub_enumerate
    have q1 : ∀ {A' : Around} {E : Value → Shared → Prop} {Q : Value → Shared → Prop}, Q (.ref hp.objs.size) ⟨hp.push o, g, d, tk, os⟩ → wpAny (model prog w) A' (pyIter v) Q E ⟨hp, g, d, tk, os⟩ :=
      fun q => B.iter prog w _ _ ⟨hp, g, d, tk, os⟩ _ h1 q
    wp_walk using q1
    refine wpAny_stack_any fun st => wpAny_pure ?_
    split
    · rename_i c _ _ _ _ _
      cases (c == Value.type "enumerate")
      · wp_walk using q1
        exact ⟨_, rfl, h⟩
      · wp_walk using q1
        exact ⟨_, rfl, h⟩
    · wp_walk using q1
      exact ⟨_, rfl, h⟩
section
variable {prog : Program} {w : World} {A : Around} {E : Value → Shared → Prop} {s : Shared}
theorem enum_begins1 {v : Value} {o : Obj} {H : Heap → Prop} {Q : Value → Shared → Prop} (B : Begins v o H) (h1 : H s.heap)
    (h : ∀ h', IsEnum h' (s.heap.objs.size + 1) s.heap.objs.size 0 .none → h'.get? s.heap.objs.size = some o → h'.objs.size = s.heap.objs.size + 2 →
      (∀ b o, s.heap.get? b = some o → h'.get? b = some o) → Q (.ref (s.heap.objs.size + 1)) { s with heap := h' }) :
    wpAny (model prog w) A (call (.type "enumerate") [v]) Q E s := by
  refine callType_new F.called_enumerate (by decide) (F.typeCall_enumerate_1 _) (F.newCall_enumerate_1 _) (fun obj => F.args_object_init_2 obj _) F.entry_enumerate_new
    (meets_enumerate_newB1 B) ⟨h1, ?_⟩
  have hz : (s.heap.push o).objs.size = s.heap.objs.size + 1 := Heap.size_push ..
  show _ ∧ _
  rw [hz]
  have he : IsEnum ((s.heap.push o).push { cls := .type "enumerate", data := .fields #[.none, .bool false, .ref s.heap.objs.size, rawInt 0, .none, .none] }) (s.heap.objs.size + 1) s.heap.objs.size 0 .none := by
    have := Heap.get?_push_size (s.heap.push o) (o := { cls := .type "enumerate", data := .fields #[.none, .bool false, .ref s.heap.objs.size, rawInt 0, .none, .none] }) rfl
    rw [hz] at this; exact this
  refine ⟨⟨_, he, rfl⟩, h _ he (Heap.get?_push_of_some _ (Heap.get?_push_size _ B.free)) (by rw [Heap.size_push, hz]) fun b o x => Heap.get?_push_of_some _ (Heap.get?_push_of_some _ x)⟩
end
end PySem

/-! GH: enumerate of a tuple, defs with *rows, built-ins' names. -/
namespace L2
open PySem PySem.Spec PyProof.Rows
/-- the tuple at a, each item in a new pair -/
def IteT (K : PySem.W.Frag) (a : Addr) : It :=
  ⟨fun i H => ∃ (xs : List V) (x : V), SqT K H a xs ∧ xs[i]? = some x, fun i H v H' => ∃ T x, v = .ref T ∧ H T = none ∧ H' = upd H T (.tup [.int (i : Nat), x]) ∧ ∀ xs, SqT K H a xs → xs[i]? = some x, fun i H => ∃ xs : List V, SqT K H a xs ∧ xs.length = i⟩
theorem turn_enumT {P : Program} {w : World} {K : PySem.W.Frag} {elts : List Expr} {kk : Nat} {tpos : Pos} (a e it : Addr) :
    Turn P w K (.Tuple elts kk tpos) (IteT K a) [e, it] e (fun i h => (∃ old, IsEnum h e it ((i : Nat) : Int) old) ∧ h.IsTupleIter it a i ∧ e ≠ it ∧ a ≠ it ∧ a ≠ e) where
  mem := by simp
  obj := fun i h st b hb => by
    obtain ⟨⟨old, he⟩, ⟨o, ho, hc, hd⟩, _⟩ := st
    have e' : b = e ∨ b = it := by simpa using hb
    rcases e' with z | z
    · rw [z]; exact ⟨_, he, fun v q => nomatch q⟩
    · rw [z]; exact ⟨o, ho, fun v q => by rw [hd] at q; cases q⟩
  keep := fun i h h' st k => let ⟨⟨old, he⟩, hi, hne⟩ := st; ⟨⟨old, k e (by simp) _ he⟩, hi.at fun o q => k it (by simp) o q, hne⟩
  item := by
    intro X hP hw hK hc i pins s σ H E I hf st hg
    subst hP hw hK
    obtain ⟨⟨old, he⟩, hit, hne, hai, hae⟩ := st
    obtain ⟨xs, x, hq, hx⟩ := hg
    obtain ⟨its, rv, p, hz⟩ := I.tuple hq
    obtain ⟨u, hu, ru⟩ := rv.get hx
    have hel : e < s.heap.objs.size := Heap.lt_size he
    have hil : it < s.heap.objs.size := by obtain ⟨_, q, _⟩ := hit; exact Heap.lt_size q
    have Dr := Draws.tuple (prog := X.prog) (w := X.w) (A := X.A.in1) (I.ok.hd hc) it a hai its.toArray
    have hli : i < its.toArray.size := by
      have := (List.getElem?_eq_some_iff.mp hu).1
      simpa using this
    refine wpAny_pyNext_enum_itemD Dr he ⟨hit, p⟩ hli hne (by simp [hne, Ne.symm hae]) fun u' h' tk hP ho hst hT hsz hk => ?_
    have eu : u' = u := by
      have h1 : its.toArray[i]? = some u := by simpa using hu
      rw [hP] at h1
      exact Option.some.inj h1
    subst eu
    refine ⟨_, rfl, wpAny_letOwnedTupleGo_enum (s := { s with heap := h', toks := tk + 1 }) ho fun h'' he' sb => ?_⟩
    have hT2 : h''.get? s.heap.objs.size = some { cls := .type "tuple", data := .seq #[.int i tk, u'] } := (sb.2 _ (Nat.ne_of_gt hel)).trans hT
    have new : ObjOk X.prog X.w (upd H s.heap.objs.size (.tup [.int (i : Nat), x])) h'' s.heap.objs.size (.tup [.int (i : Nat), x]) :=
      ⟨by show 2 ≤ sizeLine; decide, [.int i tk, u'], .cons ⟨_, rfl⟩ (.cons ru .nil), ⟨_, hT2, rfl, _, rfl⟩⟩
    have I1 : Inv X pins σ (upd H s.heap.objs.size (.tup [.int (i : Nat), x])) { s with heap := h'', toks := tk + 1 } :=
      I.turnedNew (ch := [e, it]) (fun b ob hb q => (sb.2 b (fun z => hb (by simp [z]))).trans (hk b ob (fun z => hb (by simp [z])) (fun z => hb (by simp [z])) q)) hf (Nat.le_refl _) new
    refine ⟨.ref s.heap.objs.size, _, I1, rfl, ⟨_, x, rfl, I.hok.fresh (Nat.le_refl _), rfl, fun ys hy => by rw [I.tuple_inj hy hq]; exact hx⟩, ⟨⟨u', ?_⟩, hst.1.at fun o q => (sb.2 it (Ne.symm hne)).trans q, hne, hai, hae⟩, fun b hb => ?_⟩
    · have e1 : ((i + 1 : Nat) : Int) = (i : Int) + 1 := by omega
      rw [e1]; exact he'
    · have hb' : b < s.heap.objs.size := by
        have e' : b = e ∨ b = it := by simpa using hb
        rcases e' with z | z
        · rw [z]; exact hel
        · rw [z]; exact hil
      rw [upd_ne (Nat.ne_of_lt hb')]
      exact (hf b hb).1
  done := by
    intro X hP hw hK hc i pins s σ H E I hf st hg
    subst hP hw hK
    obtain ⟨⟨old, he⟩, hit, hne, hai, hae⟩ := st
    obtain ⟨xs, hq, hx⟩ := hg
    obtain ⟨its, rv, p, hz⟩ := I.tuple hq
    obtain ⟨f0, f1, f2, f3, f4, f5⟩ := hf it (by simp)
    have hl := rv.length
    have hi : i = its.toArray.size := by rw [List.size_toArray, ← hl]; exact hx.symm
    subst hi
    have Dr := Draws.tuple (prog := X.prog) (w := X.w) (A := X.A.in1) (I.ok.hd hc) it a hai its.toArray
    exact wpAny_pyNext_enum_endD Dr he ⟨hit, p⟩ fun h' eb => ⟨rfl, I.turned (t' := s.toks) (fun b o hb q => eb b o hb q) f0 f1 f3 f4 f5⟩
  self := fun A i s Q E st h => let ⟨⟨_, he⟩, _⟩ := st; wpAny_pyIter_enum he h
def iEnumT (K : PySem.W.Frag) (ta : TA) : TI := fun σ H R => ta σ H fun vs H1 => ∃ a xs, vs = [.ref a] ∧ SqT K H1 a xs ∧ R (IteT K a) H1
theorem pi_enumT {X : Cx} {e : Expr} {ta : TA} {p pos tpos : Pos} {elts : List Expr} {kk : Nat} (hg : Gl X "enumerate") (hm : X.mg "enumerate" = none) (ha : PA X [e] ta) (hs : starEach [e] X.env = [(false, eval e X.env)] := by rfl) :
    PI X (.Tuple elts kk tpos) (.Call (.Name "enumerate" p) [e] [] pos) (iEnumT X.K ta) := by
  refine ⟨fun pins s σ H R I h => ?_⟩
  refine Call_ (ld_blt I hg hm boot_enumerate (PyProof.Rows.callWith_type1 (thn (ha.run pos pins s σ H _ I h) fun us s1 ⟨vs, H1, I1, r1, q1⟩ => ?_) hs rfl))
  obtain ⟨a, xs, ex, hq, q⟩ := q1
  subst ex
  cases r1 with
  | cons r rr =>
    cases rr
    cases r
    obtain ⟨its, rv, p', hz⟩ := I1.tuple hq
    have hal : a < s1.heap.objs.size := by
      obtain ⟨o, ho, _⟩ := p'
      exact Heap.lt_size ho
    refine enum_begins1 (begins_tuple a its.toArray) p' fun h' he ho hsz hk => wpAny_pyIter_enum he ?_
    have I2 : Inv X pins σ H1 { s1 with heap := h' } := I1.kept (t' := s1.toks) hk
    refine ⟨s1.heap.objs.size + 1, [s1.heap.objs.size + 1, s1.heap.objs.size], _, _, H1, rfl, I2, turn_enumT a (s1.heap.objs.size + 1) s1.heap.objs.size, ⟨⟨.none, he⟩, ⟨_, ho, rfl, rfl⟩, Nat.succ_ne_self _, Nat.ne_of_lt hal, Nat.ne_of_lt (Nat.lt_succ_of_lt hal)⟩, fun b hb => ?_, q⟩
    have e' : b = s1.heap.objs.size + 1 ∨ b = s1.heap.objs.size := by simpa using hb
    have hle : s1.heap.objs.size ≤ b := by
      rcases e' with z | z
      · rw [z]; exact Nat.le_add_right _ _
      · rw [z]; exact Nat.le_refl _
    exact I1.fpOk hle (I1.hok.fresh hle)
end L2
namespace Gn
open PySem PySem.Spec PyProof.Rows L2
def mEnumT (ml : Env → M (List D)) : Env → M (List D) := fun env S => (ml env S).bind fun ds S1 => match ds with
  | [.tup xs] => .ok (enumD xs) S1
  | _ => .bad
section
variable {X : Cx} {E : XK} {j k : Nat} {pos p tpos : Pos} {a b : Expr} {ma mb : Env → M D} {ml : Env → M (List D)} {es elts : List Expr} {kk : Nat}
theorem enumD_get {ds : List D} {i : Nat} {d : D} (h : (enumD ds)[i]? = some d) : ∃ e, ds[i]? = some e ∧ d = .tup [.int (i : Nat), e] := by
  unfold enumD at h
  rw [List.getElem?_mapIdx] at h
  obtain ⟨e, h1, h2⟩ := Option.map_eq_some_iff.mp h
  exact ⟨e, h1, h2.symm⟩
theorem ei_enumL (hg : Gl X "enumerate") (hm : X.mg "enumerate" = none) (ha : EA X E [a] ml) (hs : starEach [a] X.env = [(false, eval a X.env)] := by rfl) : EI X E (.Tuple elts kk tpos) (.Call (.Name "enumerate" p) [a] [] pos) (mEnumL ml) := by
  obtain ⟨ta, pa, qa⟩ := ha
  refine ⟨_, pi_enum hg hm pa hs, fun w env S σ H Q R RE h => ?_⟩
  refine qa w env S σ H _ R RE (h.bind fun x S1 w1 H1 u l1 R1 r1 h => ?_)
  split at h
  · rename_i xs
    obtain ⟨v, r, rfl, ⟨p, vs, rfl, q, rs⟩, rfl⟩ := r1
    refine ⟨p, vs, rfl, .inl (rd_mono R1.same q), h.ok (.refl _) R1 ?_⟩
    intro w2 S2 H2 l2 l3 R2
    have q2 : SqL X.K H2 p vs := .inl (rd_mono R2.same (rd_mono l3 q))
    refine ⟨fun i d hd => ?_, ⟨vs, q2, by rw [rs.length]; simp [enumD]⟩⟩
    obtain ⟨e, he, rfl⟩ := enumD_get hd
    obtain ⟨v, hv, rv⟩ := rs.get he
    refine ⟨⟨vs, v, q2, hv⟩, fun x H' hy => ?_⟩
    obtain ⟨T, y, rfl, hT, rfl, e2⟩ := hy
    have e3 := e2 vs q2
    rw [hv] at e3
    cases e3
    obtain ⟨R3, l4⟩ := R2.laid hT (.tup [.int (i : Nat), v])
    exact ⟨_, l4, R3, T, _, rfl, .inl (.inl upd_same), _, _, rfl, rfl, _, _, rfl, (rv.lf ⟨l2, l3⟩).mono l4, rfl⟩
  · exact h.elim
theorem ei_enumT (hg : Gl X "enumerate") (hm : X.mg "enumerate" = none) (ha : EA X E [a] ml) (hs : starEach [a] X.env = [(false, eval a X.env)] := by rfl) : EI X E (.Tuple elts kk tpos) (.Call (.Name "enumerate" p) [a] [] pos) (mEnumT ml) := by
  obtain ⟨ta, pa, qa⟩ := ha
  refine ⟨_, pi_enumT hg hm pa hs, fun w env S σ H Q R RE h => ?_⟩
  refine qa w env S σ H _ R RE (h.bind fun x S1 w1 H1 u l1 R1 r1 h => ?_)
  split at h
  · rename_i xs
    obtain ⟨v, r, rfl, ⟨p, vs, rfl, q, rs⟩, rfl⟩ := r1
    refine ⟨p, vs, rfl, sqT_mono R1.same q, h.ok (.refl _) R1 ?_⟩
    intro w2 S2 H2 l2 l3 R2
    have q2 : SqT X.K H2 p vs := sqT_mono R2.same (sqT_mono l3 q)
    refine ⟨fun i d hd => ?_, ⟨vs, q2, by rw [rs.length]; simp [enumD]⟩⟩
    obtain ⟨e, he, rfl⟩ := enumD_get hd
    obtain ⟨v, hv, rv⟩ := rs.get he
    refine ⟨⟨vs, v, q2, hv⟩, fun x H' hy => ?_⟩
    obtain ⟨T, y, rfl, hT, rfl, e2⟩ := hy
    have e3 := e2 vs q2
    rw [hv] at e3
    cases e3
    obtain ⟨R3, l4⟩ := R2.laid hT (.tup [.int (i : Nat), v])
    exact ⟨_, l4, R3, T, _, rfl, .inl (.inl upd_same), _, _, rfl, rfl, _, _, rfl, (rv.lf ⟨l2, l3⟩).mono l4, rfl⟩
  · exact h.elim
end
/-! ### defs with *rows -/
section
variable {P : Program} {wd : World} {K : PySem.W.Frag} {mg : Str → Option Value} {base : Heap}
/-- what a def with *v gets -/
def starArgs (n : Nat) (fm : List D → M D) (ds : List D) : M D := fun S => if n ≤ ds.length ∧ ds.length ≤ n + szL then fm (ds.take n ++ [.tup (ds.drop n)]) S else .bad
theorem fn_bodyV {x qual : Str} {params : Arguments} {body : List Stmt} {scope : Scope} {f : Addr} {fd : FuncData} {N ps : List Str} {pv : Str} {k nx : Nat} {m : MS} (F : FunD K x qual params body scope [] [] f fd) (S : FnScope N (ps ++ [pv]) scope)
    (hbd : ∀ (kV doc pm : Value) (an : Option Addr) (cdv ct : Value) (us rest : List Value), us.length = ps.length → bindArgs (PySem.W.fnOf x qual params body scope .none kV doc pm an cdv ct) ⟨us ++ rest, []⟩ = (newTuple rest >>= fun t => pure (ps.zip us ++ [(pv, t)])))
    (hb : ∀ (cdv : Value) (A : Around) (outer : List PySem.Env) (s : Shared) (H : Hp) (E : XK), XS (cxOf (L2.CX P wd) P wd K mg base N qual scope f cdv A outer s H E) E k → XO (cxOf (L2.CX P wd) P wd K mg base N qual scope f cdv A outer s H E) E k → ESs (cxOf (L2.CX P wd) P wd K mg base N qual scope f cdv A outer s H E) E body m) :
    FnR P wd K mg base (L2.CX P wd) (k + 1) f (spR K mg (starArgs ps.length (fnD N.length nx m))) := by
  obtain ⟨oc, od, dV, kV, doc, pm, an, cdv, ct, osl, rfl, lk, hcd, hD, _⟩ := F.ex
  have e : dV = .none := by
    rcases hD with ⟨_, e⟩ | ⟨e, _⟩
    · exact e
    · exact absurd rfl e
  subst e
  have key := StX.fn_star (P := P) (w := wd) (mg := mg) (base := base) (CX := L2.CX P wd) (k := k) (sp := spR K mg (fnD N.length nx m)) lk hcd S StX.cxUp (hbd kV doc pm an cdv ct) (fun A outer s H vs Q E hr h => by
    have tk : Takes (cxOf (L2.CX P wd) P wd K mg base N qual scope f cdv A outer s H E) (fun cls d _ H => E cls d H) := takes_of rfl rfl rfl rfl
    obtain ⟨t, p, q⟩ := hb cdv A outer s H E ⟨⟨rfl, passes_call tk fun _ _ _ _ h => h, hr, S.nd⟩, passes_of rfl, tk⟩ ⟨rfl, passes_call tk fun _ _ _ _ h => h, hr, S.nd⟩
    refine ⟨t, p, ?_⟩
    obtain ⟨w, S0, ds, r, R, h⟩ := h
    exact q w _ S0 _ H _ R (relEnv_start r) (fin_good (S := S0) R.len.symm h))
  refine key.imp fun vs H Q E h => ?_
  obtain ⟨w, S0, ds, r, R, h⟩ := h
  unfold starArgs at h
  split at h
  · rename_i hn
    have hl := r.length
    refine ⟨vs.take ps.length, vs.drop ps.length, (List.take_append_drop _ _).symm, by rw [List.length_take]; omega, by rw [List.length_drop, hl, ← szL_eq]; omega, fun p hp => ?_⟩
    obtain ⟨R2, l2⟩ := R.laid hp (.tup (vs.drop ps.length))
    refine ⟨_, S0, _, ?_, R2, Good.up h l2⟩
    exact ((r.take ps.length).mono l2).append (RelDs.one ⟨p, _, rfl, .inl (.inl upd_same), (r.drop ps.length).mono l2⟩)
  · exact h.elim
end
/-! ### names of built-ins -/
theorem bt_len : bootBuiltins "len" = some (.builtin "len") := by decide +kernel
theorem bt_abs : bootBuiltins "abs" = some (.builtin "abs") := by decide +kernel
theorem bt_max : bootBuiltins "max" = some (.builtin "max") := by decide +kernel
theorem bt_min : bootBuiltins "min" = some (.builtin "min") := by decide +kernel
theorem bt_sum : bootBuiltins "sum" = some (.builtin "sum") := by decide +kernel
theorem bt_all : bootBuiltins "all" = some (.builtin "all") := by decide +kernel
theorem bt_any : bootBuiltins "any" = some (.builtin "any") := by decide +kernel
theorem bt_int : bootBuiltins "int" = some (.type "int") := by decide +kernel
theorem bt_bool : bootBuiltins "bool" = some (.type "bool") := by decide +kernel
theorem bt_str : bootBuiltins "str" = some (.type "str") := by decide +kernel
theorem bt_tuple : bootBuiltins "tuple" = some (.type "tuple") := by decide +kernel
theorem bt_list : bootBuiltins "list" = some (.type "list") := by decide +kernel
theorem bt_divmod : bootBuiltins "divmod" = some (.builtin "divmod") := by decide +kernel
theorem bt_isinstance : bootBuiltins "isinstance" = some (.builtin "isinstance") := by decide +kernel
theorem bt_sorted : bootBuiltins "sorted" = some (.builtin "sorted") := by decide +kernel
end Gn

/-! GK: what the top has written, by one Bool over a part of the heap. -/
namespace Gn
open PySem PySem.Spec PyProof.Rows L2 He

/-! ### places -/
def pget (K : PySem.W.Frag) (c f : Str) : Addr := match PySem.W.findIn K (.ref (ga K c)) f with
  | some (some (.ref p)) => (match PySem.W.recIn K p "property" with
    | some (.ref g :: _) => g
    | _ => 0)
  | _ => 0
def cget (K : PySem.W.Frag) (c m : Str) : Addr := match PySem.W.findCls K (.ref (ga K c)) (.type "type") m with
  | some (.get _ (.ref p) _ _) => (match PySem.W.recIn K p "classmethod" with
    | some (.ref g :: _) => g
    | _ => 0)
  | _ => 0
/-! ### checks -/
def propB (K : PySem.W.Frag) (c f : Str) : Bool := match PySem.W.findIn K (.ref (ga K c)) f with
  | some (some (.ref p)) => decide (PySem.W.specialIn K (.ref p) "__get__" = some (some (.builtin "property.__get__"))) && (decide (PySem.W.takesIn K (.ref p) = some true) && (match PySem.W.recIn K p "property" with
    | some (.ref _ :: _) => true
    | _ => false))
  | _ => false
theorem propB_ok {K : PySem.W.Frag} {c f : Str} (h : propB K c f = true) : ∃ p, PropOf K (ga K c) f p (pget K c f) := by
  unfold propB at h
  split at h
  · rename_i p e
    obtain ⟨h1, h2⟩ := ba h
    obtain ⟨h2, h3⟩ := ba h2
    split at h3
    · rename_i g rest e2
      refine ⟨p, e, of_decide_eq_true h1, of_decide_eq_true h2, rest, ?_⟩
      have e3 : pget K c f = g := by
        unfold pget
        rw [e]
        dsimp only
        rw [e2]
      rw [e3]
      exact e2
    · cases h3
  · cases h
def cmetB (K : PySem.W.Frag) (c m : Str) : Bool := PySem.W.readsIn K (ga K c) (.type "type") && (decide (PySem.W.specialIn K (.ref (ga K c)) "__getattribute__" = some (some (.builtin "type.__getattribute__"))) && (match PySem.W.findCls K (.ref (ga K c)) (.type "type") m with
  | some (.get g (.ref p) o t) => decide (g = .builtin "classmethod.__get__") && (decide (o = .none) && (decide (t = .ref (ga K c)) && (match PySem.W.recIn K p "classmethod" with
    | some (.ref g :: _) => PySem.W.fnIn K g
    | _ => false)))
  | _ => false))
theorem cmetB_ok {K : PySem.W.Frag} {c m : Str} (h : cmetB K c m = true) : ClX.CRead K (ga K c) (.type "type") ∧ ∃ p, ClX.CMet K (ga K c) (.type "type") m p (cget K c m) := by
  unfold cmetB at h
  obtain ⟨h1, h⟩ := ba h
  obtain ⟨h2, h⟩ := ba h
  refine ⟨⟨h1, of_decide_eq_true h2⟩, ?_⟩
  split at h
  · rename_i g p o t e
    obtain ⟨h3, k1⟩ := ba h
    obtain ⟨h4, k2⟩ := ba k1
    obtain ⟨h5, k3⟩ := ba k2
    clear h k1 k2
    rw [of_decide_eq_true h3, of_decide_eq_true h4, of_decide_eq_true h5] at e
    split at k3
    · rename_i g rest e2
      have e3 : cget K c m = g := by
        unfold cget
        rw [e]
        dsimp only
        rw [e2]
      exact ⟨p, e, ⟨rest, by rw [e3]; exact e2⟩, by rw [e3]; exact k3⟩
    · cases k3
  · cases h
def isiB (K : PySem.W.Frag) (c : Str) : Bool := decide (PySem.W.kitOne K (.ref (ga K c)) (.ref (ga K c)) = some true) && ((["NoneType", "bool", "int", "str", "tuple", "list"] : List String).all (fun t => decide (PySem.W.kitOne K (.type t) (.ref (ga K c)) = some false)) &&
  (decide (PySem.W.findIn K (.ref (ga K c)) "__class__" = some (some (.builtin "object.__class__"))) && (decide (PySem.W.specialIn K (.builtin "object.__class__") "__get__" = some (some (.builtin "getset_descriptor.__get__"))) &&
  (decide (PySem.W.takesIn K (.builtin "object.__class__") = some true) && decide (PySem.W.mroIn K (ga K c) (.type "object") = some true)))))
theorem isiB_ok {K : PySem.W.Frag} {mg : Str → Option Value} {c : Str} (h : isiB K c = true) (hc : ClsAt K mg c (ga K c)) : IsiC K mg c := by
  obtain ⟨h1, h⟩ := ba h
  obtain ⟨h2, h⟩ := ba h
  obtain ⟨h3, h⟩ := ba h
  obtain ⟨h4, h⟩ := ba h
  obtain ⟨h5, h6⟩ := ba h
  exact ⟨_, hc, of_decide_eq_true h1, fun t ht => of_decide_eq_true (List.all_eq_true.mp h2 t ht), of_decide_eq_true h3, of_decide_eq_true h4, of_decide_eq_true h5, of_decide_eq_true h6⟩
def lenB (K : PySem.W.Frag) (c : Str) : Bool := eqO (PySem.W.findIn K (.ref (ga K c)) "__len__") (some (some (.ref (ma K (ga K c) "__len__")))) && PySem.W.isFn K (.ref (ma K (ga K c) "__len__"))
/-! ### defs, wherever they stand -/
structure DefX where
  loc : PySem.W.Frag → Addr
  name : Str
  qual : Str
  params : Arguments
  body : List Stmt
  scope : Scope
def fnX (K : PySem.W.Frag) (a : Addr) : FnW := match K.lookup a with
  | some ⟨_, _, .func fd, _⟩ => some (fd.name, fd.qualname, fd.params, fd.body, fd.scope, fd.globals, fd.closure, fd.builtins)
  | _ => none
def DefX.val (d : DefX) : FnW := some (d.name, d.qual, d.params, .stmts d.body, d.scope, mainGlobals, [], builtinsNs)
def DefX.ok (K : PySem.W.Frag) (d : DefX) : Bool := PySem.W.keepIn K (.ref (d.loc K)) && (match K.lookup (d.loc K) with
  | some ⟨_, _, .func fd, _⟩ => PySem.W.codeIn K fd.code d.qual && (dflB K fd.defaults [] && kwdB K fd.kwdefaults [])
  | _ => false)
theorem DefX.funD {K : PySem.W.Frag} {d : DefX} (e : fnX K (d.loc K) = d.val) (c : d.ok K = true) : ∃ fd, FunD K d.name d.qual d.params d.body d.scope [] [] (d.loc K) fd := by
  obtain ⟨kp, c2⟩ := ba c
  unfold fnX at e
  cases q : K.lookup (d.loc K) with
  | none =>
    rw [q] at c2
    cases c2
  | some o =>
    obtain ⟨oc, od, dt, osl⟩ := o
    rw [q] at c2 e
    cases dt with
    | func fd =>
      obtain ⟨n1, n2, n3, n4, n5, n6, n7, n8, n9, n10, n11, n12, n13, n14, n15⟩ := fd
      have e2 : (some (n1, n2, n3, n4, n5, n6, n7, n15) : FnW) = some (d.name, d.qual, d.params, .stmts d.body, d.scope, mainGlobals, [], builtinsNs) := e
      simp only [Option.some.injEq, Prod.mk.injEq] at e2
      obtain ⟨h1, h2, h3, h4, h5, h6, h7, h8⟩ := e2
      subst h1 h2 h3 h4 h5 h6 h7 h8
      have c3 : (PySem.W.codeIn K n13 d.qual && (dflB K n8 [] && kwdB K n9 [])) = true := c2
      obtain ⟨k1, k2⟩ := ba c3
      obtain ⟨k3, k4⟩ := ba k2
      exact ⟨_, ⟨oc, od, n8, n9, n10, n11, n12, n13, n14, osl, rfl, q, k1, dflB_ok k3, kwdB_ok k4⟩, kp⟩
    | _ => cases c2
/-! ### the Hook -/
def refsE (o : Obj) : List Addr := match o.data with
  | .cls cd => [cd.ns]
  | _ => refsD o
def levX (g : Addr → Option Obj) : Nat → List Addr → List Addr
  | 0, F => F
  | n + 1, F => F ++ levX g n (F.flatMap fun a => match g a with
    | some o => refsE o
    | none => [])
def asX (g : Addr → Option Obj) (n : Nat) : List Addr := levX g n [mainGlobals] ++ [PySem.cStatics]
def obsX (fa : List Fa) (ex : PySem.W.Frag → Bool) (fn : List DefX) (K : PySem.W.Frag) : AlD := ((fa.all fun f => f.ok K) && (ex K && fn.all fun d => d.ok K), fn.map fun d => fnX K (d.loc K))
def valX (fn : List DefX) : AlD := (true, fn.map DefX.val)
def SaysX (fa : List Fa) (ex : PySem.W.Frag → Bool) (fn : List DefX) (K : PySem.W.Frag) : Prop := obsX fa ex fn K = valX fn
def obsXG (n : Nat) (fa : List Fa) (ex : PySem.W.Frag → Bool) (fn : List DefX) (g : Addr → Option Obj) : AlD := obsX fa ex fn (frG g (asX g n))
def hookX (n : Nat) (fa : List Fa) (ex : PySem.W.Frag → Bool) (fn : List DefX) : PySem.W.Hook where
  α := AlD
  obs := fun s => obsXG n fa ex fn s.heap.get?
  val := fun _ => valX fn
  says := fun _ h => ∃ K : PySem.W.Frag, K.In h ∧ SaysX fa ex fn K
  of := fun _ _ e => ⟨_, frG_in, e⟩
  keeps := fun _ _ _ ⟨K, hK, c⟩ k => ⟨K, PySem.W.Frag.In.keeps hK k, c⟩
theorem obsXG_eq {n : Nat} {fa : List Fa} {ex : PySem.W.Frag → Bool} {fn : List DefX} {g : Addr → Option Obj} {s : Shared} (h : ∀ a, g a = s.heap.get? a) : obsXG n fa ex fn g = (hookX n fa ex fn).obs s := by
  have e : g = s.heap.get? := funext h
  rw [e] <;> rfl
section
variable {fa : List Fa} {ex : PySem.W.Frag → Bool} {fn : List DefX} {K : PySem.W.Frag}
theorem SaysX.fact (c : SaysX fa ex fn K) (i : Nat) {f : Fa} (h : fa[i]? = some f := by rfl) : f.ok K = true := by
  have c1 := (ba (show ((fa.all fun f => f.ok K) && (ex K && fn.all fun d => d.ok K)) = true from congrArg (fun z : AlD => z.1) c)).1
  exact List.all_eq_true.mp c1 f (List.mem_of_getElem? h)
theorem SaysX.extra (c : SaysX fa ex fn K) : ex K = true := (ba (ba (show ((fa.all fun f => f.ok K) && (ex K && fn.all fun d => d.ok K)) = true from congrArg (fun z : AlD => z.1) c)).2).1
theorem SaysX.def_ (c : SaysX fa ex fn K) (i : Nat) {d : DefX} (h : fn[i]? = some d := by rfl) : ∃ fd, FunD K d.name d.qual d.params d.body d.scope [] [] (d.loc K) fd := by
  have c2 := (ba (ba (show ((fa.all fun f => f.ok K) && (ex K && fn.all fun d => d.ok K)) = true from congrArg (fun z : AlD => z.1) c)).2).2
  have e : fn.map (fun d => fnX K (d.loc K)) = fn.map DefX.val := congrArg (fun z : AlD => z.2) c
  have e2 : (fn.map fun d => fnX K (d.loc K))[i]? = (fn.map DefX.val)[i]? := by rw [e]
  rw [List.getElem?_map, List.getElem?_map, h] at e2
  exact DefX.funD (Option.some.inj e2) (List.all_eq_true.mp c2 d (List.mem_of_getElem? h))
end
/-! ### what the rules take -/
section
variable {P : Program} {wd : World} {K : PySem.W.Frag} {mg : Str → Option Value} {base : Heap} {h : Heap}
def glVal (K : PySem.W.Frag) (mg : Str → Option Value) (x : Str) (d : D) : Prop := ∃ u v, mg x = some u ∧ RelV v u ∧ ∀ w, RelD K mg w d v
theorem gl_int (X : K.In h) (G : h.Ns mainGlobals mg) {x : Str} {i : Int} (c : (Fa.int x i).ok K = true) : glVal K mg x (.int i) := by
  obtain ⟨t, e⟩ := int_ok X G c
  exact ⟨_, .int i, e, ⟨t, rfl⟩, fun _ => rfl⟩
theorem gl_str (X : K.In h) (G : h.Ns mainGlobals mg) {x z : Str} (c : (Fa.str x z).ok K = true) : glVal K mg x (.str z) := by
  obtain ⟨t, e⟩ := str_ok X G c
  exact ⟨_, .str z, e, ⟨t, rfl⟩, fun _ => rfl⟩
theorem gl_nm (X : K.In h) (G : h.Ns mainGlobals mg) {x : Str} (c : (Fa.glo x).ok K = true) : glVal K mg x (.nm x) := by
  have e := glo_ok X G c
  exact ⟨_, .ref (ga K x), e, rfl, fun _ => ⟨_, rfl, e⟩⟩
theorem gl_tup (X : K.In h) (G : h.Ns mainGlobals mg) {x : Str} {vs : List Dv} {ds : List D} (c : (Fa.glo x).ok K = true) (t : tupB K x vs = true) (r : ∀ w, RelDs K mg w ds (vs.map (Dv.v K))) : glVal K mg x (.tup ds) := by
  have e := glo_ok X G c
  exact ⟨_, .ref (ga K x), e, rfl, fun w => ⟨_, _, rfl, tupB_ok t w.F, r w⟩⟩
theorem cls_at (X : K.In h) (G : h.Ns mainGlobals mg) {x : Str} (c : (Fa.glo x).ok K = true) (c2 : (Fa.cls x).ok K = true) : ClsAt K mg x (ga K x) := ⟨glo_ok X G c, cls_ok c2⟩
theorem cal_mk {x : Str} {ps : List Str} {k : Nat} {fm : List D → M D} {fd : FuncData} {qual : Str} {params : Arguments} {body : List Stmt} {scope : Scope} (X : K.In h) (G : h.Ns mainGlobals mg) (c : (Fa.glo x).ok K = true) (F : FunD K x qual params body scope [] [] (ga K x) fd)
    (hbd : ∀ (kV doc pm : Value) (an : Option Addr) (cdv ct : Value) (us : List Value), us.length = ps.length → bindArgs (PySem.W.fnOf x qual params body scope .none kV doc pm an cdv ct) ⟨us, []⟩ = pure (ps.zip us))
    (h : FnOk P wd K mg base (L2.CX P wd) k (ga K x) fd ps (spM K mg ps.length fm)) : Cal P wd K mg base k x ps fm := ⟨_, fd, glo_ok X G c, F.kp, F.bindsN hbd, h⟩
theorem fnR_of {n : Nat} {ps : List Str} {k : Nat} {f : Addr} {fm : List D → M D} {fd : FuncData} (hb : Binds K fd ps []) (h : FnOk P wd K mg base (L2.CX P wd) k f fd ps (spM K mg n fm)) : FnR P wd K mg base (L2.CX P wd) k f (spM K mg n fm) :=
  (h.raw hb .nil).imp fun vs H Q E z => by rw [List.append_nil]; exact z
/-- any function of n arguments -/
def arity (n : Nat) (fm : List D → M D) (ds : List D) : M D := fun S => if ds.length = n then fm ds S else .bad
theorem spR_of {n : Nat} {k : Nat} {f : Addr} {fm : List D → M D} (h : FnR P wd K mg base (L2.CX P wd) k f (spM K mg n fm)) : FnR P wd K mg base (L2.CX P wd) k f (spR K mg (arity n fm)) :=
  h.imp fun vs H Q E z => by
    obtain ⟨w, S, ds, r, R, g⟩ := z
    unfold arity at g
    split at g
    · rename_i hl
      exact ⟨by rw [r.length]; exact hl, w, S, ds, r, R, g⟩
    · exact g.elim
end
end Gn

/-! GL: the law's def at the script. -/
namespace Gn
open PySem PySem.Spec PyProof.Rows L2 He
theorem exAt {l : List Bool} (h : l.all id = true) (i : Nat) {b : Bool} (e : l[i]? = some b) : b = true := List.all_eq_true.mp h b (List.mem_of_getElem? e)
section
variable {K : PySem.W.Frag} {mg : Str → Option Value}
theorem relds_ints (w : Wd) : ∀ ns : List Int, RelDs K mg w (ns.map D.int) (ns.map V.int)
  | [] => rfl
  | n :: ns => ⟨_, _, rfl, rfl, relds_ints w ns⟩
theorem rep_start (H : Hp) : Rep K mg ⟨[], H, fun _ => none⟩ [] H :=
  ⟨Same.refl _, fun a o h => (Option.some_ne_none _ h.symm).elim, rfl, List.nodup_nil, fun a h => (List.not_mem_nil h).elim, fun a h => (h rfl).elim, fun k a c h => by cases h⟩
theorem law_spM {fm : List D → M D} {H : Hp} {a : Addr} {ns : List Int} {E : XK} (hS : SqL K H a (ns.map V.int)) {S' : Sto} (e : fm [.lsc (ns.map .int)] [] = .ok (.bl true) S') : spM K mg 1 fm [.ref a] H (fun v _ => v = .bl true) E := by
  refine ⟨rfl, ⟨[], H, fun _ => none⟩, [], [.lsc (ns.map .int)], ⟨_, _, rfl, ⟨a, _, rfl, hS, relds_ints _ ns⟩, rfl⟩, rep_start H, ?_⟩
  unfold Good
  rw [e]
  exact fun w' H' v _ _ r => r
end
/-- the law: what it needs is told with the world -/
theorem walk_ofW {l : PySem.W.OpenLaw} {n k : Nat} {q : Program} {loose : List Str} {XP : (Str → Option Value) → Heap → Prop} {YP : World → Heap → Prop} {d : DefRec} {CX : World → CXT} {x : Str}
    (hn : l.most = some n) (hn2 : n ≤ sizeLine) (hdf : d.params.defaults = []) (hr : Room k callerA)
    (F : ∀ (w : World) (mg : Str → Option Value) (fa : Addr) (h : Heap), YP w h → h.Ns mainGlobals mg → mg d.name = some (.ref fa) →
      ∃ (K : PySem.W.Frag) (fd : FuncData) (sp : Sp), K.In h ∧ (∀ (s : Shared) (u : Value), BindsTo s fd ⟨[u], []⟩ [(x, u)]) ∧
        (∀ (H : Hp) (a : Addr) (ns : List Int), ns.length ≤ n → (∀ z ∈ ns, Builtin.Int.intBits z ≤ 1048576) → Only H → SqL K H a (ns.map V.int) → sp [.ref a] H (fun v _ => v = .bl true) fun _ _ _ => False) ∧
        ∀ base : Heap, K.In base → base.Ns mainGlobals mg → FnOk l.prog w K mg base (CX w) k fa fd [x] sp)
    (hCX : ∀ (w : World) (H : Hp) (s : Shared) (e : Value) (s' : Shared), CX w [] H s (fun _ _ _ => False) e s' → False) :
    PySem.W.WalkO q loose XP YP l.row.toRowW d [] (fun f vs => PySem.call f vs) := by
  refine Att.attach_callB hn hdf fun w s₀ s₁ mg mb fa o pm cd doc a vs ns G Y ho hd hcd hmg hobj hints hlen hbits hg => ?_
  obtain ⟨K, fd, sp, KX, hb, hsp, hF⟩ := F w mg fa _ Y G.T.g hmg
  exact law_call KX G.T.g G.T.b G.T.builtins G.T.nolimit hg hobj hints (Nat.le_trans hlen hn2) hr hF hb (fun H hO hS => hsp H a ns hlen hbits hO hS) fun H e s' => hCX w H s₁ e s'
end Gn

namespace K51
open PySem PySem.Spec PyProof.Rows L2 He Gn
def top (i : Nat) : Stmt := PySem.Challenge.pw_drawnrings_k51_whole_rails_mirrored_and.main.body.getD i (.Pass ⟨0, 0, 0, 0⟩)
abbrev scope_law_can : Scope := defScope (top 48)
abbrev scope_law_all_words : Scope := defScope (top 64)
abbrev scope_law_pour : Scope := defScope (top 49)
abbrev scope_law_one : Scope := defScope (top 50)
abbrev scope_law_further : Scope := defScope (top 69)
abbrev scope_law_in_mirror : Scope := defScope (top 67)
abbrev scope_law_head : Scope := defScope (top 56)
abbrev scope_law_line : Scope := defScope (top 55)
abbrev scope_law_rows : Scope := defScope (top 57)
abbrev scope_is_integer : Scope := defScope (top 21)
abbrev scope_is_cloth : Scope := defScope (top 25)
abbrev scope_number_in : Scope := defScope (top 23)
abbrev scope_cloth_in : Scope := defScope (top 26)
abbrev scope_asked_by : Scope := defScope (top 30)
abbrev scope_more_by : Scope := defScope (top 29)
abbrev scope_least_for : Scope := defScope (top 31)
abbrev scope_bounded : Scope := defScope (top 24)
abbrev scope_move_in : Scope := defScope (top 27)
abbrev scope_wrong_rows : Scope := defScope (top 28)
abbrev scope_Script___init__ : Scope := defScope (inClass (top 32) 0)
abbrev scope_Script_read : Scope := defScope (inClass (top 32) 1)
abbrev scope_law_made : Scope := defScope (top 58)
abbrev scope_law_mirrored : Scope := defScope (top 66)
abbrev scope_check_cloth : Scope := defScope (top 36)
abbrev scope_wrong_place : Scope := defScope (top 37)
abbrev scope_check_standing : Scope := defScope (top 38)
abbrev scope_Rail___init__ : Scope := defScope (inClass (top 45) 0)
abbrev scope_Rail___len__ : Scope := defScope (inClass (top 45) 9)
abbrev scope_law_spot : Scope := defScope (top 51)
abbrev scope_law_target : Scope := defScope (top 62)
abbrev scope_Rail_change_to : Scope := defScope (inClass (top 45) 1)
abbrev scope_clamped : Scope := defScope (top 39)
abbrev scope_goal_of : Scope := defScope (top 40)
abbrev scope_drawn : Scope := defScope (top 41)
abbrev scope_is_between : Scope := defScope (top 22)
abbrev scope_Rail_draw : Scope := defScope (inClass (top 45) 3)
abbrev scope_carried : Scope := defScope (top 42)
abbrev scope_moved : Scope := defScope (top 43)
abbrev scope_Rail_move : Scope := defScope (inClass (top 45) 2)
abbrev scope_Rail_places : Scope := defScope (inClass (top 45) 7)
abbrev scope_law_shifted_right : Scope := defScope (top 68)
abbrev scope_law_asked : Scope := defScope (top 60)
abbrev scope_law_more : Scope := defScope (top 59)
abbrev scope_law_fewest : Scope := defScope (top 61)
abbrev scope_law_goods : Scope := defScope (top 52)
abbrev scope_law_step : Scope := defScope (top 53)
abbrev scope_law_steps : Scope := defScope (top 54)
abbrev scope_law_sketch : Scope := defScope (top 65)
abbrev scope_law_standing : Scope := defScope (top 63)
abbrev scope_check_known : Scope := defScope (top 34)
abbrev scope_check_script : Scope := defScope (top 33)
abbrev scope_Script_cloth : Scope := defScope (inClass (top 32) 4)
abbrev scope_first_too_few : Scope := defScope (top 44)
abbrev scope_led : Scope := defScope (top 46)
abbrev scope_law_right : Scope := defScope (top 70)
abbrev scope_law : Scope := defScope (top 71)
def x_law_can : DefX := ⟨(ga · "_law_can"), "_law_can", "_law_can", defArgs (top 48), defBody (top 48), scope_law_can⟩
def x_law_all_words : DefX := ⟨(ga · "_law_all_words"), "_law_all_words", "_law_all_words", defArgs (top 64), defBody (top 64), scope_law_all_words⟩
def x_law_pour : DefX := ⟨(ga · "_law_pour"), "_law_pour", "_law_pour", defArgs (top 49), defBody (top 49), scope_law_pour⟩
def x_law_one : DefX := ⟨(ga · "_law_one"), "_law_one", "_law_one", defArgs (top 50), defBody (top 50), scope_law_one⟩
def x_law_further : DefX := ⟨(ga · "_law_further"), "_law_further", "_law_further", defArgs (top 69), defBody (top 69), scope_law_further⟩
def x_law_in_mirror : DefX := ⟨(ga · "_law_in_mirror"), "_law_in_mirror", "_law_in_mirror", defArgs (top 67), defBody (top 67), scope_law_in_mirror⟩
def x_law_head : DefX := ⟨(ga · "_law_head"), "_law_head", "_law_head", defArgs (top 56), defBody (top 56), scope_law_head⟩
def x_law_line : DefX := ⟨(ga · "_law_line"), "_law_line", "_law_line", defArgs (top 55), defBody (top 55), scope_law_line⟩
def x_law_rows : DefX := ⟨(ga · "_law_rows"), "_law_rows", "_law_rows", defArgs (top 57), defBody (top 57), scope_law_rows⟩
def x_is_integer : DefX := ⟨(ga · "is_integer"), "is_integer", "is_integer", defArgs (top 21), defBody (top 21), scope_is_integer⟩
def x_is_cloth : DefX := ⟨(ga · "is_cloth"), "is_cloth", "is_cloth", defArgs (top 25), defBody (top 25), scope_is_cloth⟩
def x_number_in : DefX := ⟨(ga · "number_in"), "number_in", "number_in", defArgs (top 23), defBody (top 23), scope_number_in⟩
def x_cloth_in : DefX := ⟨(ga · "cloth_in"), "cloth_in", "cloth_in", defArgs (top 26), defBody (top 26), scope_cloth_in⟩
def x_asked_by : DefX := ⟨(ga · "asked_by"), "asked_by", "asked_by", defArgs (top 30), defBody (top 30), scope_asked_by⟩
def x_more_by : DefX := ⟨(ga · "more_by"), "more_by", "more_by", defArgs (top 29), defBody (top 29), scope_more_by⟩
def x_least_for : DefX := ⟨(ga · "least_for"), "least_for", "least_for", defArgs (top 31), defBody (top 31), scope_least_for⟩
def x_bounded : DefX := ⟨(ga · "bounded"), "bounded", "bounded", defArgs (top 24), defBody (top 24), scope_bounded⟩
def x_move_in : DefX := ⟨(ga · "move_in"), "move_in", "move_in", defArgs (top 27), defBody (top 27), scope_move_in⟩
def x_wrong_rows : DefX := ⟨(ga · "wrong_rows"), "wrong_rows", "wrong_rows", defArgs (top 28), defBody (top 28), scope_wrong_rows⟩
def x_Script___init__ : DefX := ⟨(fun K => ma K (ga K "Script") "__init__"), "__init__", "Script.__init__", defArgs (inClass (top 32) 0), defBody (inClass (top 32) 0), scope_Script___init__⟩
def x_Script_read : DefX := ⟨(cget · "Script" "read"), "read", "Script.read", defArgs (inClass (top 32) 1), defBody (inClass (top 32) 1), scope_Script_read⟩
def x_law_made : DefX := ⟨(ga · "_law_made"), "_law_made", "_law_made", defArgs (top 58), defBody (top 58), scope_law_made⟩
def x_law_mirrored : DefX := ⟨(ga · "_law_mirrored"), "_law_mirrored", "_law_mirrored", defArgs (top 66), defBody (top 66), scope_law_mirrored⟩
def x_check_cloth : DefX := ⟨(ga · "check_cloth"), "check_cloth", "check_cloth", defArgs (top 36), defBody (top 36), scope_check_cloth⟩
def x_wrong_place : DefX := ⟨(ga · "wrong_place"), "wrong_place", "wrong_place", defArgs (top 37), defBody (top 37), scope_wrong_place⟩
def x_check_standing : DefX := ⟨(ga · "check_standing"), "check_standing", "check_standing", defArgs (top 38), defBody (top 38), scope_check_standing⟩
def x_Rail___init__ : DefX := ⟨(fun K => ma K (ga K "Rail") "__init__"), "__init__", "Rail.__init__", defArgs (inClass (top 45) 0), defBody (inClass (top 45) 0), scope_Rail___init__⟩
def x_Rail___len__ : DefX := ⟨(fun K => ma K (ga K "Rail") "__len__"), "__len__", "Rail.__len__", defArgs (inClass (top 45) 9), defBody (inClass (top 45) 9), scope_Rail___len__⟩
def x_law_spot : DefX := ⟨(ga · "_law_spot"), "_law_spot", "_law_spot", defArgs (top 51), defBody (top 51), scope_law_spot⟩
def x_law_target : DefX := ⟨(ga · "_law_target"), "_law_target", "_law_target", defArgs (top 62), defBody (top 62), scope_law_target⟩
def x_Rail_change_to : DefX := ⟨(fun K => ma K (ga K "Rail") "change_to"), "change_to", "Rail.change_to", defArgs (inClass (top 45) 1), defBody (inClass (top 45) 1), scope_Rail_change_to⟩
def x_clamped : DefX := ⟨(ga · "clamped"), "clamped", "clamped", defArgs (top 39), defBody (top 39), scope_clamped⟩
def x_goal_of : DefX := ⟨(ga · "goal_of"), "goal_of", "goal_of", defArgs (top 40), defBody (top 40), scope_goal_of⟩
def x_drawn : DefX := ⟨(ga · "drawn"), "drawn", "drawn", defArgs (top 41), defBody (top 41), scope_drawn⟩
def x_is_between : DefX := ⟨(ga · "is_between"), "is_between", "is_between", defArgs (top 22), defBody (top 22), scope_is_between⟩
def x_Rail_draw : DefX := ⟨(fun K => ma K (ga K "Rail") "draw"), "draw", "Rail.draw", defArgs (inClass (top 45) 3), defBody (inClass (top 45) 3), scope_Rail_draw⟩
def x_carried : DefX := ⟨(ga · "carried"), "carried", "carried", defArgs (top 42), defBody (top 42), scope_carried⟩
def x_moved : DefX := ⟨(ga · "moved"), "moved", "moved", defArgs (top 43), defBody (top 43), scope_moved⟩
def x_Rail_move : DefX := ⟨(fun K => ma K (ga K "Rail") "move"), "move", "Rail.move", defArgs (inClass (top 45) 2), defBody (inClass (top 45) 2), scope_Rail_move⟩
def x_Rail_places : DefX := ⟨(pget · "Rail" "places"), "places", "Rail.places", defArgs (inClass (top 45) 7), defBody (inClass (top 45) 7), scope_Rail_places⟩
def x_law_shifted_right : DefX := ⟨(ga · "_law_shifted_right"), "_law_shifted_right", "_law_shifted_right", defArgs (top 68), defBody (top 68), scope_law_shifted_right⟩
def x_law_asked : DefX := ⟨(ga · "_law_asked"), "_law_asked", "_law_asked", defArgs (top 60), defBody (top 60), scope_law_asked⟩
def x_law_more : DefX := ⟨(ga · "_law_more"), "_law_more", "_law_more", defArgs (top 59), defBody (top 59), scope_law_more⟩
def x_law_fewest : DefX := ⟨(ga · "_law_fewest"), "_law_fewest", "_law_fewest", defArgs (top 61), defBody (top 61), scope_law_fewest⟩
def x_law_goods : DefX := ⟨(ga · "_law_goods"), "_law_goods", "_law_goods", defArgs (top 52), defBody (top 52), scope_law_goods⟩
def x_law_step : DefX := ⟨(ga · "_law_step"), "_law_step", "_law_step", defArgs (top 53), defBody (top 53), scope_law_step⟩
def x_law_steps : DefX := ⟨(ga · "_law_steps"), "_law_steps", "_law_steps", defArgs (top 54), defBody (top 54), scope_law_steps⟩
def x_law_sketch : DefX := ⟨(ga · "_law_sketch"), "_law_sketch", "_law_sketch", defArgs (top 65), defBody (top 65), scope_law_sketch⟩
def x_law_standing : DefX := ⟨(ga · "_law_standing"), "_law_standing", "_law_standing", defArgs (top 63), defBody (top 63), scope_law_standing⟩
def x_check_known : DefX := ⟨(ga · "check_known"), "check_known", "check_known", defArgs (top 34), defBody (top 34), scope_check_known⟩
def x_check_script : DefX := ⟨(ga · "check_script"), "check_script", "check_script", defArgs (top 33), defBody (top 33), scope_check_script⟩
def x_Script_cloth : DefX := ⟨(pget · "Script" "cloth"), "cloth", "Script.cloth", defArgs (inClass (top 32) 4), defBody (inClass (top 32) 4), scope_Script_cloth⟩
def x_first_too_few : DefX := ⟨(ga · "first_too_few"), "first_too_few", "first_too_few", defArgs (top 44), defBody (top 44), scope_first_too_few⟩
def x_led : DefX := ⟨(ga · "led"), "led", "led", defArgs (top 46), defBody (top 46), scope_led⟩
def x_law_right : DefX := ⟨(ga · "_law_right"), "_law_right", "_law_right", defArgs (top 70), defBody (top 70), scope_law_right⟩
def x_law : DefX := ⟨(ga · "law"), "law", "law", defArgs (top 71), defBody (top 71), scope_law⟩
def fn : List DefX := [x_law_can, x_law_all_words, x_law_pour, x_law_one, x_law_further, x_law_in_mirror, x_law_head, x_law_line, x_law_rows, x_is_integer, x_is_cloth, x_number_in, x_cloth_in, x_asked_by, x_more_by, x_least_for, x_bounded, x_move_in, x_wrong_rows, x_Script___init__, x_Script_read, x_law_made, x_law_mirrored, x_check_cloth, x_wrong_place, x_check_standing, x_Rail___init__, x_Rail___len__, x_law_spot, x_law_target, x_Rail_change_to, x_clamped, x_goal_of, x_drawn, x_is_between, x_Rail_draw, x_carried, x_moved, x_Rail_move, x_Rail_places, x_law_shifted_right, x_law_asked, x_law_more, x_law_fewest, x_law_goods, x_law_step, x_law_steps, x_law_sketch, x_law_standing, x_check_known, x_check_script, x_Script_cloth, x_first_too_few, x_led, x_law_right, x_law]
def fa : List Fa := [.noat "Rail" "held", .noat "Script" "floor", .noat "Script" "goods", .noat "Script" "steps", .noat "Script" "told", .free "abs", .free "all", .free "bool", .free "divmod", .free "enumerate", .free "int", .free "isinstance", .free "len", .free "max", .free "min", .free "range", .free "str", .free "tuple", .str "FIGURES" "0123456789", .int "MOST_CLOTH" 9, .int "MOST_MOVES" 10, .int "MOST_NAMED" 5, .int "MOST_PLACE" 99, .glo "SIDES", .glo "Script", .cls "Script", .glo "Rail", .cls "Rail", .glo "_law_can", .glo "_law_all_words", .glo "_law_pour", .glo "_law_one", .glo "_law_further", .glo "_law_in_mirror", .glo "_law_head", .glo "_law_line", .glo "_law_rows", .glo "is_integer", .glo "is_cloth", .glo "number_in", .glo "cloth_in", .glo "asked_by", .glo "more_by", .glo "least_for", .glo "bounded", .glo "move_in", .glo "wrong_rows", .glo "_law_made", .glo "_law_mirrored", .glo "check_cloth", .glo "wrong_place", .glo "check_standing", .glo "_law_spot", .glo "_law_target", .glo "clamped", .glo "goal_of", .glo "drawn", .glo "is_between", .glo "carried", .glo "moved", .glo "_law_shifted_right", .glo "_law_asked", .glo "_law_more", .glo "_law_fewest", .glo "_law_goods", .glo "_law_step", .glo "_law_steps", .glo "_law_sketch", .glo "_law_standing", .glo "check_known", .glo "check_script", .glo "first_too_few", .glo "led", .glo "_law_right", .glo "law", .mkr "Script", .mkr "Rail", .meth "Rail" "change_to", .meth "Rail" "draw", .meth "Rail" "move"]
def exs (K : PySem.W.Frag) : List Bool := [tupB K "SIDES" [.str "left", .str "right"], isiB K "Script", cmetB K "Script" "read", lenB K "Rail", propB K "Rail" "places", propB K "Script" "cloth"]
def exB (K : PySem.W.Frag) : Bool := (exs K).all id
def nm0 : List PySem.Str := ["_wall", "WrongValue", "InvalidCloth", "InvalidMove", "InvalidText", "InvalidNumber", "InvalidPlace", "NotAScript", "InvalidRows", "InvalidStanding", "NoAnswer", "Unknown", "TooFew", "MOST_CLOTH", "MOST_MOVES", "MOST_NAMED", "MOST_PLACE", "FIGURES", "SIDES", "is_integer", "is_between", "number_in", "bounded", "is_cloth", "cloth_in", "move_in", "wrong_rows", "more_by", "asked_by", "least_for"]
def nm1 : List PySem.Str := ["Script", "check_script", "check_known", "check_cloth", "wrong_place", "check_standing", "clamped", "goal_of", "drawn", "carried", "moved", "first_too_few", "Rail", "led", "_law_can", "_law_pour", "_law_one", "_law_spot", "_law_goods", "_law_step", "_law_steps", "_law_line", "_law_head", "_law_rows", "_law_made", "_law_more", "_law_asked", "_law_fewest", "_law_target", "_law_standing"]
def nm2 : List PySem.Str := ["_law_all_words", "_law_sketch", "_law_mirrored", "_law_in_mirror", "_law_shifted_right", "_law_further", "_law_right"]
abbrev R : PySem.W.OpenRow := PySem.W.OpenLaw.row PySem.Challenge.rw_drawnrings_k51_whole_rails_mirrored_and
abbrev hk : PySem.W.Hook := hookX 5 fa exB fn
def ob (s : PySem.W.SharedT) : AlD := obsXG 5 fa exB fn (HandSHeadRun.getT s)
theorem ob_eq (s : PySem.W.SharedT) : ob s = hk.obs s.abs := obsXG_eq (HandSHeadRun.getT_eq s)
theorem run (w : World) : HandSHeadRun.RunEq R (PySem.W.view R.prog [71]) hk ob 20000 (nm0 ++ nm1 ++ nm2) w := by
  intro os
  kernel_rfl
end K51

namespace K51
open PySem Gn

abbrev N_law_can : List Str := ["cells", "turn", "cell", "stirred", "part"]
def b_law_can : MS := mSeq (mSet 2 (mIf (mTst (mBin ltD (mVar 1) (mArgs (fun ds S => noex (lenD ds S)) (mCons (mVar 0) (mNil))))) (mBin ixD (mVar 0) (mVar 1)) (mBin mulD (mC (.int 86243)) (mBin addD (mVar 1) (mC (.int 2)))))) (mSeq (mSet 3 (mBin addD (mC (.int 41231)) (mBin mulD (mC (.int 6151)) (mVar 1)))) (mSeq (mFor (.one 4) (mItL (mBin addD (mSl (mVar 0) (mNo) (mSo (mC (.int 4)))) (mArgs mkLst (mCons (mVar 2) (mNil))))) (mSet 3 (mBin modD (mArgs (fun ds S => noex (intD ds S)) (mCons (mBin addD (mBin addD (mBin mulD (mVar 3) (mC (.int 36343))) (mBin modD (mArgs (fun ds S => noex (intD ds S)) (mCons (mVar 4) (mNil))) (mC (.int 2147483423)))) (mC (.int 59))) (mNil))) (mC (.int 2147483423))))) (mRet (mArgs mkCell (mCons (mIf (mOrT (mTst (mBin ltD (mVar 2) (mC (.int 0)))) (mTst (mBin geD (mVar 2) (mBin powD (mC (.int 10)) (mC (.int 17)))))) (mArgs (fun ds S => noex (absD ds S)) (mCons (mVar 2) (mNil))) (mC (.int 0))) (mCons (mVar 3) (mNil)))))))
def f_law_can : List D → M D := fnD 5 1 b_law_can
abbrev N_law_all_words : List Str := []
def b_law_all_words : MS := mRet (mArgs mkLst (mCons (mC (.str "left")) (mCons (mC (.str "left")) (mCons (mC (.str "left")) (mCons (mC (.str "right")) (mCons (mC (.str "right")) (mCons (mC (.str "right")) (mCons (mC (.str "carry")) (mCons (mC (.str "off")) (mCons (mC (.str "on")) (mNil)))))))))))
def f_law_all_words : List D → M D := fnD 0 0 b_law_all_words
abbrev N_law_pour : List Str := ["can", "top", "digit"]
def b_law_pour : MS := mSeq (mIfS (mTst (mBin gtD (mBin ixD (mVar 0) (mC (.int 0))) (mC (.int 0)))) (mSeq (mSetIxN (mVar 0) (mC (.int 0)) 2 (mArgs (fun ds S => noex (divmodD ds S)) (mCons (mBin ixD (mVar 0) (mC (.int 0))) (mCons (mVar 1) (mNil))))) (mRet (mVar 2))) (mNx)) (mSeq (mSetIx (mVar 0) (mC (.int 1)) (mBin modD (mArgs (fun ds S => noex (intD ds S)) (mCons (mBin addD (mBin mulD (mBin ixD (mVar 0) (mC (.int 1))) (mC (.int 48271))) (mC (.int 30103))) (mNil))) (mC (.int 2147483423)))) (mRet (mBin modD (mArgs (fun ds S => noex (intD ds S)) (mCons (mBin fdivD (mBin ixD (mVar 0) (mC (.int 1))) (mC (.int 983))) (mNil))) (mVar 1))))
def f_law_pour : List D → M D := fnD 3 0 b_law_pour
abbrev N_law_one : List Str := ["can", "things"]
def b_law_one : MS := mRet (mBin ixD (mVar 1) (mCall 2 f_law_pour (mCons (mVar 0) (mCons (mArgs (fun ds S => noex (lenD ds S)) (mCons (mVar 1) (mNil))) (mNil)))))
def f_law_one : List D → M D := fnD 2 0 b_law_one
abbrev N_law_further : List Str := ["can", "goods", "spots", "found", "k", "least_here"]
def b_law_further : MS := mSeq (mSet 3 (mArgs mkCell (mCons (mBin addD (mBin ixD (mVar 2) (mC (.int 0))) (mCall 2 f_law_one (mCons (mVar 0) (mCons (mArgs mkLst (mCons (mC (.int 0)) (mCons (mC (.int 1)) (mCons (mC (.int 4)) (mCons (mC (.int 40)) (mNil)))))) (mNil))))) (mNil)))) (mSeq (mFor (.one 4) (mRng2 (mCons (mC (.int 1)) (mCons (mArgs (fun ds S => noex (lenD ds S)) (mCons (mVar 2) (mNil))) (mNil)))) (mSeq (mSet 5 (mArgs (fun ds S => noex (maxD ds S)) (mCons (mBin ixD (mVar 2) (mVar 4)) (mCons (mBin addD (mBin ixD (mVar 3) (mUn negD (mC (.int 1)))) (mBin ixD (mVar 1) (mC (.int 0)))) (mNil))))) (mDrop (mAppend (mVar 3) (mCons (mArgs (fun ds S => noex (minD ds S)) (mCons (mBin addD (mVar 5) (mCall 2 f_law_pour (mCons (mVar 0) (mCons (mC (.int 3)) (mNil))))) (mCons (mBin addD (mBin ixD (mVar 3) (mUn negD (mC (.int 1)))) (mBin ixD (mVar 1) (mC (.int 1)))) (mNil)))) (mNil)))))) (mRet (mFreeze (mVar 3))))
def f_law_further : List D → M D := fnD 6 0 b_law_further
abbrev N_law_in_mirror : List Str := ["spots", "spot"]
def b_law_in_mirror : MS := mRet (mArgs (fun ds S => noex (tupleD ds S)) (mCons (mLc [1] (.one 1) (mItT (mRev (mVar 0))) (mYes) (mUn negD (mVar 1))) (mNil)))
def f_law_in_mirror : List D → M D := fnD 2 0 b_law_in_mirror
abbrev N_law_head : List Str := ["goods", "end"]
def b_law_head : MS := mSeq (mSet 1 (mIf (mTst (mBin eqD (mArgs (fun ds S => noex (lenD ds S)) (mCons (mVar 0) (mNil))) (mC (.int 3)))) (mBin addD (mC (.str " from ")) (mArgs (fun ds S => noex (strD ds S)) (mCons (mBin ixD (mVar 0) (mC (.int 2))) (mNil)))) (mC (.str "")))) (mRet (mBin addD (mBin addD (mBin addD (mBin addD (mC (.str "cloth ")) (mArgs (fun ds S => noex (strD ds S)) (mCons (mBin ixD (mVar 0) (mC (.int 0))) (mNil)))) (mC (.str " "))) (mArgs (fun ds S => noex (strD ds S)) (mCons (mBin ixD (mVar 0) (mC (.int 1))) (mNil)))) (mVar 1)))
def f_law_head : List D → M D := fnD 2 0 b_law_head
abbrev N_law_line : List Str := ["step", "word", "side", "spot"]
def b_law_line : MS := mSeq (mTgS (.tup [1, 2, 3]) (mVar 0)) (mSeq (mIfS (mTst (mBin (inDD false) (mVar 1) (mArgs mkLst (mCons (mC (.str "left")) (mCons (mC (.str "right")) (mNil)))))) (mRet (mBin addD (mBin addD (mBin addD (mBin addD (mVar 1) (mC (.str " "))) (mArgs (fun ds S => noex (strD ds S)) (mCons (mVar 2) (mNil)))) (mC (.str " to "))) (mArgs (fun ds S => noex (strD ds S)) (mCons (mVar 3) (mNil))))) (mNx)) (mSeq (mIfS (mTst (mBin eqD (mVar 1) (mC (.str "off")))) (mRet (mBin addD (mC (.str "off ")) (mVar 2))) (mNx)) (mRet (mIf (mTst (mBin eqD (mVar 1) (mC (.str "carry")))) (mBin addD (mC (.str "carry ")) (mArgs (fun ds S => noex (strD ds S)) (mCons (mVar 3) (mNil)))) (mBin addD (mBin addD (mBin addD (mBin addD (mVar 1) (mC (.str " "))) (mVar 2)) (mC (.str " "))) (mArgs (fun ds S => noex (strD ds S)) (mCons (mVar 3) (mNil))))))))
def f_law_line : List D → M D := fnD 4 0 b_law_line
abbrev N_law_rows : List Str := ["goods", "steps", "step"]
def b_law_rows : MS := mRet (mBin addD (mArgs mkLst (mCons (mCall 1 f_law_head (mCons (mVar 0) (mNil))) (mNil))) (mLc [2] (.one 2) (mItL (mVar 1)) (mYes) (mCall 1 f_law_line (mCons (mVar 2) (mNil)))))
def f_law_rows : List D → M D := fnD 3 0 b_law_rows
abbrev N_is_integer : List Str := ["value"]
def b_is_integer : MS := mRet (mAndV (mArgs (fun ds S => noex (isiD ds S)) (mCons (mVar 0) (mCons (mC (.ty "int")) (mNil)))) (mNotV (mArgs (fun ds S => noex (isiD ds S)) (mCons (mVar 0) (mCons (mC (.ty "bool")) (mNil))))))
def f_is_integer : List D → M D := fnD 1 0 b_is_integer
abbrev N_is_cloth : List Str := ["value", "part"]
def b_is_cloth : MS := mSeq (mIfS (mOrT (mNotT (mTru (mArgs (fun ds S => noex (isiD ds S)) (mCons (mVar 0) (mCons (mC (.ty "tuple")) (mNil)))))) (mOrT (mTst (mBin (inDD true) (mArgs (fun ds S => noex (lenD ds S)) (mCons (mVar 0) (mNil))) (mArgs mkTup (mCons (mC (.int 2)) (mCons (mC (.int 3)) (mNil)))))) (mNotT (mTru (mArgs (fun ds S => noex (allD ds S)) (mCons (mLc [1] (.one 1) (mItT (mVar 0)) (mYes) (mCall 1 f_is_integer (mCons (mVar 1) (mNil)))) (mNil))))))) (mRet (mC (.bl false))) (mNx)) (mSeq (mIfS (mNotT (mChain3T leD ltD leD (mC (.int 1)) (mBin ixD (mVar 0) (mC (.int 0))) (mBin ixD (mVar 0) (mC (.int 1))) (mC (.int 9)))) (mRet (mC (.bl false))) (mNx)) (mRet (mOrV (mBin eqD (mArgs (fun ds S => noex (lenD ds S)) (mCons (mVar 0) (mNil))) (mC (.int 2))) (mChain leD leD (mUn negD (mC (.int 99))) (mBin ixD (mVar 0) (mC (.int 2))) (mC (.int 99))))))
def f_is_cloth : List D → M D := fnD 2 0 b_is_cloth
abbrev N_number_in : List Str := ["word", "digits", "sign"]
def b_number_in : MS := mSeq (mSet 1 (mIf (mTst (mBin eqD (mSl (mVar 0) (mNo) (mSo (mC (.int 1)))) (mC (.str "-")))) (mSl (mVar 0) (mSo (mC (.int 1))) (mNo)) (mVar 0))) (mSeq (mIfS (mOrT (mTst (mBin eqD (mVar 1) (mC (.str "")))) (mNotT (mTru (mArgs (fun ds S => noex (allD ds S)) (mCons (mLc [2] (.one 2) (mItS (mVar 1)) (mYes) (mBin (inDD false) (mVar 2) (mC (.str "0123456789")))) (mNil)))))) (mRet (mC .non)) (mNx)) (mSeq (mIfS (mAndT (mTst (mBin eqD (mBin ixD (mVar 1) (mC (.int 0))) (mC (.str "0")))) (mTst (mBin neD (mVar 0) (mC (.str "0"))))) (mRet (mC .non)) (mNx)) (mRet (mArgs (fun ds S => noex (intD ds S)) (mCons (mVar 0) (mNil))))))
def f_number_in : List D → M D := fnD 3 0 b_number_in
abbrev N_cloth_in : List Str := ["row", "words", "parts", "word"]
def b_cloth_in : MS := mSeq (mSet 1 (mIf (mTru (mArgs (fun ds S => noex (isiD ds S)) (mCons (mVar 0) (mCons (mC (.ty "str")) (mNil))))) (mStrM splitD (mVar 0) (mC (.str " "))) (mArgs mkLst (mNil)))) (mSeq (mIfS (mOrT (mTst (mBin (inDD true) (mArgs (fun ds S => noex (lenD ds S)) (mCons (mVar 1) (mNil))) (mArgs mkTup (mCons (mC (.int 3)) (mCons (mC (.int 5)) (mNil)))))) (mOrT (mTst (mBin neD (mBin ixD (mVar 1) (mC (.int 0))) (mC (.str "cloth")))) (mAndT (mTst (mBin eqD (mArgs (fun ds S => noex (lenD ds S)) (mCons (mVar 1) (mNil))) (mC (.int 5)))) (mTst (mBin neD (mBin ixD (mVar 1) (mC (.int 3))) (mC (.str "from"))))))) (mRet (mC .non)) (mNx)) (mSeq (mSet 2 (mArgs (fun ds S => noex (tupleD ds S)) (mCons (mLc [3] (.one 3) (mItL (mArgs mkLst (mStar (mSl (mVar 1) (mSo (mC (.int 1))) (mSo (mC (.int 3)))) (mStar (mSl (mVar 1) (mSo (mC (.int 4))) (mNo)) (mNil))))) (mYes) (mCall 1 f_number_in (mCons (mVar 3) (mNil)))) (mNil)))) (mRet (mIf (mAndT (mTst (mBin (inDD true) (mC .non) (mVar 2))) (mTru (mCall 1 f_is_cloth (mCons (mVar 2) (mNil))))) (mVar 2) (mC .non)))))
def f_cloth_in : List D → M D := fnD 4 0 b_cloth_in
abbrev N_asked_by : List Str := ["step"]
def b_asked_by : MS := mSeq (mIfS (mTst (mBin (inDD false) (mBin ixD (mVar 0) (mC (.int 0))) (mC (.tup [(.str "left"), (.str "right")])))) (mRet (mBin ixD (mVar 0) (mC (.int 1)))) (mNx)) (mRet (mIf (mTst (mBin eqD (mBin ixD (mVar 0) (mC (.int 0))) (mC (.str "off")))) (mC (.int 2)) (mC (.int 1))))
def f_asked_by : List D → M D := fnD 1 0 b_asked_by
abbrev N_more_by : List Str := ["step"]
def b_more_by : MS := mRet (mIf (mTst (mBin eqD (mBin ixD (mVar 0) (mC (.int 0))) (mC (.str "on")))) (mC (.int 1)) (mIf (mTst (mBin eqD (mBin ixD (mVar 0) (mC (.int 0))) (mC (.str "off")))) (mUn negD (mC (.int 1))) (mC (.int 0))))
def f_more_by : List D → M D := fnD 1 0 b_more_by
abbrev N_least_for : List Str := ["steps", "step", "found", "more"]
def b_least_for : MS := mSeq (mTgS (.tup [2, 3]) (mArgs mkTup (mCons (mC (.int 1)) (mCons (mC (.int 0)) (mNil))))) (mSeq (mFor (.one 1) (mItT (mVar 0)) (mSeq (mSet 2 (mArgs (fun ds S => noex (maxD ds S)) (mCons (mVar 2) (mCons (mBin subD (mCall 1 f_asked_by (mCons (mVar 1) (mNil))) (mVar 3)) (mNil))))) (mAugA 3 (mCall 1 f_more_by (mCons (mVar 1) (mNil)))))) (mRet (mVar 2)))
def f_least_for : List D → M D := fnD 4 0 b_least_for
abbrev N_bounded : List Str := ["word", "least", "most", "value"]
def b_bounded : MS := mSeq (mSet 3 (mCall 1 f_number_in (mCons (mVar 0) (mNil)))) (mRet (mIf (mAndT (mTst (mBin isnotD (mVar 3) (mC .non))) (mTst (mChain leD leD (mVar 1) (mVar 3) (mVar 2)))) (mVar 3) (mC .non)))
def f_bounded : List D → M D := fnD 4 0 b_bounded
abbrev N_move_in : List Str := ["row", "words", "place", "ring"]
def b_move_in : MS := mSeq (mSet 1 (mIf (mTru (mArgs (fun ds S => noex (isiD ds S)) (mCons (mVar 0) (mCons (mC (.ty "str")) (mNil))))) (mStrM splitD (mVar 0) (mC (.str " "))) (mArgs mkLst (mCons (mC (.str "")) (mNil))))) (mSeq (mIfS (mAndT (mTst (mBin eqD (mArgs (fun ds S => noex (lenD ds S)) (mCons (mVar 1) (mNil))) (mC (.int 4)))) (mAndT (mTst (mBin (inDD false) (mBin ixD (mVar 1) (mC (.int 0))) (mC (.tup [(.str "left"), (.str "right")])))) (mTst (mBin eqD (mBin ixD (mVar 1) (mC (.int 2))) (mC (.str "to")))))) (mSeq (mPar [3, 2] (mCons (mCall 3 f_bounded (mCons (mBin ixD (mVar 1) (mC (.int 1))) (mCons (mC (.int 1)) (mCons (mC (.int 5)) (mNil))))) (mCons (mCall 3 f_bounded (mCons (mBin ixD (mVar 1) (mC (.int 3))) (mCons (mUn negD (mC (.int 99))) (mCons (mC (.int 99)) (mNil))))) (mNil)))) (mRet (mIf (mOrT (mTst (mBin isD (mVar 3) (mC .non))) (mTst (mBin isD (mVar 2) (mC .non)))) (mC .non) (mArgs mkTup (mCons (mBin ixD (mVar 1) (mC (.int 0))) (mCons (mVar 3) (mCons (mVar 2) (mNil)))))))) (mNx)) (mSeq (mIfS (mAndT (mTst (mBin eqD (mArgs (fun ds S => noex (lenD ds S)) (mCons (mVar 1) (mNil))) (mC (.int 3)))) (mOrT (mTst (mBin eqD (mSl (mVar 1) (mNo) (mSo (mC (.int 2)))) (mArgs mkLst (mCons (mC (.str "some")) (mCons (mC (.str "to")) (mNil)))))) (mAndT (mTst (mBin eqD (mBin ixD (mVar 1) (mC (.int 0))) (mC (.str "on")))) (mTst (mBin (inDD false) (mBin ixD (mVar 1) (mC (.int 1))) (mC (.tup [(.str "left"), (.str "right")]))))))) (mSeq (mSet 2 (mCall 3 f_bounded (mCons (mBin ixD (mVar 1) (mC (.int 2))) (mCons (mUn negD (mC (.int 99))) (mCons (mC (.int 99)) (mNil)))))) (mRet (mIf (mTst (mBin isD (mVar 2) (mC .non))) (mC .non) (mArgs mkTup (mCons (mBin ixD (mVar 1) (mC (.int 0))) (mCons (mBin ixD (mVar 1) (mC (.int 1))) (mCons (mVar 2) (mNil)))))))) (mNx)) (mSeq (mIfS (mAndT (mTst (mBin eqD (mArgs (fun ds S => noex (lenD ds S)) (mCons (mVar 1) (mNil))) (mC (.int 2)))) (mTst (mBin eqD (mBin ixD (mVar 1) (mC (.int 0))) (mC (.str "carry"))))) (mSeq (mSet 2 (mCall 3 f_bounded (mCons (mBin ixD (mVar 1) (mC (.int 1))) (mCons (mUn negD (mC (.int 99))) (mCons (mC (.int 99)) (mNil)))))) (mRet (mIf (mTst (mBin isD (mVar 2) (mC .non))) (mC .non) (mArgs mkTup (mCons (mC (.str "carry")) (mCons (mC (.str "")) (mCons (mVar 2) (mNil)))))))) (mNx)) (mSeq (mIfS (mAndT (mTst (mBin eqD (mArgs (fun ds S => noex (lenD ds S)) (mCons (mVar 1) (mNil))) (mC (.int 2)))) (mAndT (mTst (mBin eqD (mBin ixD (mVar 1) (mC (.int 0))) (mC (.str "off")))) (mTst (mBin (inDD false) (mBin ixD (mVar 1) (mC (.int 1))) (mC (.tup [(.str "left"), (.str "right")])))))) (mRet (mArgs mkTup (mCons (mC (.str "off")) (mCons (mBin ixD (mVar 1) (mC (.int 1))) (mCons (mC (.int 0)) (mNil)))))) (mNx)) (mRet (mC .non))))))
def f_move_in : List D → M D := fnD 4 0 b_move_in
abbrev N_wrong_rows : List Str := ["rows", "index", "row"]
def b_wrong_rows : MS := mSeq (mIfS (mNotT (mTst (mChain leD leD (mC (.int 1)) (mArgs (fun ds S => noex (lenD ds S)) (mCons (mVar 0) (mNil))) (mBin addD (mC (.int 10)) (mC (.int 1)))))) (mRet (mArgs mkTup (mCons (mC .non) (mNil)))) (mNx)) (mSeq (mIfS (mTst (mBin isD (mCall 1 f_cloth_in (mCons (mBin ixD (mVar 0) (mC (.int 0))) (mNil))) (mC .non))) (mRet (mArgs mkTup (mCons (mC (.int 0)) (mNil)))) (mNx)) (mSeq (mFor (.tup [1, 2]) (mOrI (mEnumL (mCons (mVar 0) (mNil))) (mEnumT (mCons (mVar 0) (mNil)))) (mIfS (mAndT (mTst (mBin gtD (mVar 1) (mC (.int 0)))) (mTst (mBin isD (mCall 1 f_move_in (mCons (mVar 2) (mNil))) (mC .non)))) (mRet (mArgs mkTup (mCons (mVar 1) (mNil)))) (mNx))) (mRet (mArgs mkTup (mNil)))))
def f_wrong_rows : List D → M D := fnD 3 0 b_wrong_rows
abbrev N_Script___init__ : List Str := ["self", "rows", "wrong", "row"]
def b_Script___init__ : MS := mSeq (mSet 2 (mCall 1 f_wrong_rows (mCons (mVar 1) (mNil)))) (mSeq (mIfS (mTru (mVar 2)) (fun _ _ => .bad) (mNx)) (mSeq (mSetFld "Script" "told" (mVar 0) (mVar 1)) (mSeq (mSetFld "Script" "goods" (mVar 0) (mCall 1 f_cloth_in (mCons (mBin ixD (mVar 1) (mC (.int 0))) (mNil)))) (mSeq (mSetFld "Script" "steps" (mVar 0) (mArgs (fun ds S => noex (tupleD ds S)) (mCons (mLc [3] (.one 3) (mItT (mSl (mVar 1) (mSo (mC (.int 1))) (mNo))) (mYes) (mCall 1 f_move_in (mCons (mVar 3) (mNil)))) (mNil)))) (mSetFld "Script" "floor" (mVar 0) (mCall 1 f_least_for (mCons (mFld "Script" "steps" (mVar 0)) (mNil))))))))
def f_Script___init__ : List D → M D := starArgs 1 (fnD 4 0 b_Script___init__)
abbrev N_Script_read : List Str := ["cls", "text", "rows"]
def b_Script_read : MS := mSeq (mSet 2 (mIf (mTru (mArgs (fun ds S => noex (isiD ds S)) (mCons (mVar 1) (mCons (mC (.ty "str")) (mNil))))) (mStrM splitD (mVar 1) (mC (.str "\n"))) (mArgs mkLst (mNil)))) (mSeq (mIfS (mTru (mCall 1 f_wrong_rows (mCons (mVar 2) (mNil)))) (fun _ _ => .bad) (mNx)) (mRet (mFrzLast (mMake "Script" f_Script___init__ (mStar1 (mVar 2))))))
def f_Script_read : List D → M D := fnD 3 0 b_Script_read
abbrev N_law_made : List Str := ["goods", "steps"]
def b_law_made : MS := mRet (mCMeth "Script" 2 f_Script_read (mCons (mStrM joinD (mC (.str "\n")) (mCall 2 f_law_rows (mCons (mVar 0) (mCons (mVar 1) (mNil))))) (mNil)))
def f_law_made : List D → M D := fnD 2 0 b_law_made
abbrev N_law_mirrored : List Str := ["step", "word", "side", "spot"]
def b_law_mirrored : MS := mSeq (mTgS (.tup [1, 2, 3]) (mVar 0)) (mSeq (mIfS (mTst (mBin (inDD false) (mVar 1) (mArgs mkLst (mCons (mC (.str "left")) (mCons (mC (.str "right")) (mNil)))))) (mRet (mArgs mkTup (mCons (mIf (mTst (mBin eqD (mVar 1) (mC (.str "left")))) (mC (.str "right")) (mC (.str "left"))) (mCons (mVar 2) (mCons (mUn negD (mVar 3)) (mNil)))))) (mNx)) (mSeq (mIfS (mTst (mBin (inDD false) (mVar 1) (mArgs mkLst (mCons (mC (.str "on")) (mCons (mC (.str "off")) (mNil)))))) (mRet (mArgs mkTup (mCons (mVar 1) (mCons (mIf (mTst (mBin eqD (mVar 2) (mC (.str "left")))) (mC (.str "right")) (mC (.str "left"))) (mCons (mUn negD (mVar 3)) (mNil)))))) (mNx)) (mRet (mArgs mkTup (mCons (mVar 1) (mCons (mVar 2) (mCons (mUn negD (mVar 3)) (mNil))))))))
def f_law_mirrored : List D → M D := fnD 4 0 b_law_mirrored
abbrev N_check_cloth : List Str := ["value"]
def b_check_cloth : MS := mIfS (mNotT (mTru (mCall 1 f_is_cloth (mCons (mVar 0) (mNil))))) (fun _ _ => .bad) (mNx)
def f_check_cloth : List D → M D := fnD 1 0 b_check_cloth
abbrev N_wrong_place : List Str := ["cloth", "places", "index", "place"]
def b_wrong_place : MS := mSeq (mFor (.tup [2, 3]) (mEnumT (mCons (mVar 1) (mNil))) (mSeq (mIfS (mOrT (mNotT (mTru (mCall 1 f_is_integer (mCons (mVar 3) (mNil))))) (mAndT (mTst (mBin eqD (mVar 2) (mC (.int 0)))) (mAndT (mTst (mBin eqD (mArgs (fun ds S => noex (lenD ds S)) (mCons (mVar 0) (mNil))) (mC (.int 3)))) (mTst (mBin ltD (mVar 3) (mBin ixD (mVar 0) (mC (.int 2)))))))) (mRet (mVar 2)) (mNx)) (mIfS (mAndT (mTst (mBin gtD (mVar 2) (mC (.int 0)))) (mNotT (mTst (mChain leD leD (mBin ixD (mVar 0) (mC (.int 0))) (mBin subD (mVar 3) (mBin ixD (mVar 1) (mBin subD (mVar 2) (mC (.int 1))))) (mBin ixD (mVar 0) (mC (.int 1))))))) (mRet (mVar 2)) (mNx)))) (mRet (mC .non))
def f_wrong_place : List D → M D := fnD 4 0 b_wrong_place
abbrev N_check_standing : List Str := ["cloth", "places", "index"]
def b_check_standing : MS := mSeq (mIfS (mOrT (mNotT (mTru (mArgs (fun ds S => noex (isiD ds S)) (mCons (mVar 1) (mCons (mC (.ty "tuple")) (mNil)))))) (mTst (mBin eqD (mVar 1) (mArgs mkTup (mNil))))) (fun _ _ => .bad) (mNx)) (mSeq (mSet 2 (mCall 2 f_wrong_place (mCons (mVar 0) (mCons (mVar 1) (mNil))))) (mIfS (mTst (mBin isnotD (mVar 2) (mC .non))) (fun _ _ => .bad) (mNx)))
def f_check_standing : List D → M D := fnD 3 0 b_check_standing
abbrev N_Rail___init__ : List Str := ["self", "cloth", "places"]
def b_Rail___init__ : MS := mSeq (mDrop (mCall 1 f_check_cloth (mCons (mVar 1) (mNil)))) (mSeq (mDrop (mCall 2 f_check_standing (mCons (mVar 1) (mCons (mVar 2) (mNil))))) (mSetFld "Rail" "held" (mVar 0) (mArgs mkTup (mCons (mVar 1) (mCons (mVar 2) (mCons (mC .non) (mCons (mC (.int 0)) (mNil))))))))
def f_Rail___init__ : List D → M D := arity 3 (fnD 3 0 b_Rail___init__)
abbrev N_Rail___len__ : List Str := ["self"]
def b_Rail___len__ : MS := mRet (mArgs (fun ds S => noex (lenD ds S)) (mCons (mBin ixD (mFld "Rail" "held" (mVar 0)) (mC (.int 1))) (mNil)))
def f_Rail___len__ : List D → M D := fnD 1 0 b_Rail___len__
abbrev N_law_spot : List Str := ["can"]
def b_law_spot : MS := mRet (mCall 2 f_law_one (mCons (mVar 0) (mCons (mArgs mkLst (mCons (mC (.int 0)) (mCons (mC (.int 0)) (mCons (mC (.int 7)) (mCons (mUn negD (mC (.int 7))) (mCons (mC (.int 20)) (mCons (mUn negD (mC (.int 20))) (mCons (mC (.int 99)) (mCons (mUn negD (mC (.int 99))) (mCons (mBin subD (mCall 2 f_law_pour (mCons (mVar 0) (mCons (mC (.int 199)) (mNil)))) (mC (.int 99))) (mCons (mBin subD (mCall 2 f_law_pour (mCons (mVar 0) (mCons (mC (.int 41)) (mNil)))) (mC (.int 20))) (mNil)))))))))))) (mNil))))
def f_law_spot : List D → M D := fnD 1 0 b_law_spot
abbrev N_law_target : List Str := ["step", "many"]
def b_law_target : MS := mSeq (mIfS (mTst (mBin eqD (mBin ixD (mVar 0) (mC (.int 0))) (mC (.str "left")))) (mRet (mBin subD (mBin ixD (mVar 0) (mC (.int 1))) (mC (.int 1)))) (mNx)) (mSeq (mIfS (mTst (mBin eqD (mBin ixD (mVar 0) (mC (.int 0))) (mC (.str "right")))) (mRet (mBin subD (mVar 1) (mBin ixD (mVar 0) (mC (.int 1))))) (mNx)) (mRet (mIf (mTst (mBin neD (mBin ixD (mVar 0) (mC (.int 0))) (mC (.str "on")))) (mUn negD (mC (.int 1))) (mIf (mTst (mBin eqD (mBin ixD (mVar 0) (mC (.int 1))) (mC (.str "left")))) (mC (.int 0)) (mBin subD (mVar 1) (mC (.int 1)))))))
def f_law_target : List D → M D := fnD 2 0 b_law_target
abbrev N_Rail_change_to : List Str := ["self", "cloth", "places"]
def b_Rail_change_to : MS := mSeq (mSetFld "Rail" "held" (mVar 0) (mArgs mkTup (mCons (mVar 1) (mCons (mVar 2) (mCons (mFld "Rail" "held" (mVar 0)) (mCons (mBin addD (mBin ixD (mFld "Rail" "held" (mVar 0)) (mC (.int 3))) (mC (.int 1))) (mNil))))))) (mRet (mVar 2))
def f_Rail_change_to : List D → M D := fnD 3 0 b_Rail_change_to
abbrev N_clamped : List Str := ["value", "one", "two"]
def b_clamped : MS := mRet (mArgs (fun ds S => noex (minD ds S)) (mCons (mArgs (fun ds S => noex (maxD ds S)) (mCons (mVar 0) (mCons (mArgs (fun ds S => noex (minD ds S)) (mCons (mVar 1) (mCons (mVar 2) (mNil)))) (mNil)))) (mCons (mArgs (fun ds S => noex (maxD ds S)) (mCons (mVar 1) (mCons (mVar 2) (mNil)))) (mNil))))
def f_clamped : List D → M D := fnD 3 0 b_clamped
abbrev N_goal_of : List Str := ["cloth", "index", "place"]
def b_goal_of : MS := mRet (mIf (mTst (mBin eqD (mArgs (fun ds S => noex (lenD ds S)) (mCons (mVar 0) (mNil))) (mC (.int 2)))) (mVar 2) (mArgs (fun ds S => noex (maxD ds S)) (mCons (mVar 2) (mCons (mBin addD (mBin ixD (mVar 0) (mC (.int 2))) (mBin mulD (mVar 1) (mBin ixD (mVar 0) (mC (.int 0))))) (mNil)))))
def f_goal_of : List D → M D := fnD 3 0 b_goal_of
abbrev N_drawn : List Str := ["cloth", "places", "index", "place", "goal", "found", "at", "old", "far"]
def b_drawn : MS := mSeq (mPar [4, 5] (mCons (mCall 3 f_goal_of (mCons (mVar 0) (mCons (mVar 2) (mCons (mVar 3) (mNil))))) (mCons (mArgs mkCell (mNil)) (mNil)))) (mSeq (mFor (.tup [6, 7]) (mEnumT (mCons (mVar 1) (mNil))) (mSeq (mSet 8 (mBin subD (mVar 6) (mVar 2))) (mDrop (mAppend (mVar 5) (mCons (mCall 3 f_clamped (mCons (mVar 7) (mCons (mBin addD (mVar 4) (mBin mulD (mVar 8) (mBin ixD (mVar 0) (mC (.int 0))))) (mCons (mBin addD (mVar 4) (mBin mulD (mVar 8) (mBin ixD (mVar 0) (mC (.int 1))))) (mNil))))) (mNil)))))) (mRet (mArgs (fun ds S => noex (tupleD ds S)) (mCons (mVar 5) mNil))))
def f_drawn : List D → M D := fnD 9 0 b_drawn
abbrev N_is_between : List Str := ["value", "least", "most"]
def b_is_between : MS := mRet (mAndV (mCall 1 f_is_integer (mCons (mVar 0) (mNil))) (mChain leD leD (mVar 1) (mVar 0) (mVar 2)))
def f_is_between : List D → M D := fnD 3 0 b_is_between
abbrev N_Rail_draw : List Str := ["self", "index", "place"]
def b_Rail_draw : MS := mSeq (mIfS (mNotT (mTru (mCall 3 f_is_between (mCons (mVar 1) (mCons (mC (.int 0)) (mCons (mBin subD (mArgs (fun ds S => noex (lenD ds S)) (mCons (mBin ixD (mFld "Rail" "held" (mVar 0)) (mC (.int 1))) (mNil))) (mC (.int 1))) (mNil))))))) (fun _ _ => .bad) (mNx)) (mSeq (mIfS (mNotT (mTru (mCall 1 f_is_integer (mCons (mVar 2) (mNil))))) (fun _ _ => .bad) (mNx)) (mRet (mMeth "Rail" "change_to" 3 f_Rail_change_to (mVar 0) (mCons (mBin ixD (mFld "Rail" "held" (mVar 0)) (mC (.int 0))) (mCons (mCall 4 f_drawn (mCons (mBin ixD (mFld "Rail" "held" (mVar 0)) (mC (.int 0))) (mCons (mBin ixD (mFld "Rail" "held" (mVar 0)) (mC (.int 1))) (mCons (mVar 1) (mCons (mVar 2) (mNil)))))) (mNil))))))
def f_Rail_draw : List D → M D := fnD 3 0 b_Rail_draw
abbrev N_carried : List Str := ["cloth", "by"]
def b_carried : MS := mRet (mIf (mTst (mBin eqD (mArgs (fun ds S => noex (lenD ds S)) (mCons (mVar 0) (mNil))) (mC (.int 2)))) (mVar 0) (mArgs mkTup (mCons (mBin ixD (mVar 0) (mC (.int 0))) (mCons (mBin ixD (mVar 0) (mC (.int 1))) (mCons (mBin addD (mBin ixD (mVar 0) (mC (.int 2))) (mVar 1)) (mNil))))))
def f_carried : List D → M D := fnD 2 0 b_carried
abbrev N_moved : List Str := ["cloth", "places", "step", "word", "side", "place", "old"]
def b_moved : MS := mSeq (mTgS (.tup [3, 4, 5]) (mVar 2)) (mSeq (mIfS (mTst (mBin eqD (mVar 3) (mC (.str "carry")))) (mRet (mArgs mkTup (mCons (mCall 2 f_carried (mCons (mVar 0) (mCons (mVar 5) (mNil)))) (mCons (mArgs (fun ds S => noex (tupleD ds S)) (mCons (mLc [6] (.one 6) (mItT (mVar 1)) (mYes) (mBin addD (mVar 6) (mVar 5))) (mNil))) (mNil))))) (mNx)) (mSeq (mIfS (mTst (mBin eqD (mVar 3) (mC (.str "off")))) (mRet (mArgs mkTup (mCons (mVar 0) (mCons (mIf (mTst (mBin eqD (mVar 4) (mC (.str "left")))) (mSl (mVar 1) (mSo (mC (.int 1))) (mNo)) (mSl (mVar 1) (mNo) (mSo (mUn negD (mC (.int 1)))))) (mNil))))) (mNx)) (mSeq (mIfS (mTst (mBin eqD (mVar 3) (mC (.str "on")))) (mSeq (mSet 1 (mIf (mTst (mBin eqD (mVar 4) (mC (.str "left")))) (mArgs mkTup (mCons (mVar 5) (mStar (mVar 1) (mNil)))) (mArgs mkTup (mStar (mVar 1) (mCons (mVar 5) (mNil)))))) (mRet (mArgs mkTup (mCons (mVar 0) (mCons (mCall 4 f_drawn (mCons (mVar 0) (mCons (mVar 1) (mCons (mIf (mTst (mBin eqD (mVar 4) (mC (.str "left")))) (mC (.int 0)) (mBin subD (mArgs (fun ds S => noex (lenD ds S)) (mCons (mVar 1) (mNil))) (mC (.int 1)))) (mCons (mVar 5) (mNil)))))) (mNil)))))) (mNx)) (mRet (mArgs mkTup (mCons (mVar 0) (mCons (mCall 4 f_drawn (mCons (mVar 0) (mCons (mVar 1) (mCons (mIf (mTst (mBin eqD (mVar 3) (mC (.str "left")))) (mBin subD (mVar 4) (mC (.int 1))) (mBin subD (mArgs (fun ds S => noex (lenD ds S)) (mCons (mVar 1) (mNil))) (mVar 4))) (mCons (mVar 5) (mNil)))))) (mNil))))))))
def f_moved : List D → M D := fnD 7 0 b_moved
abbrev N_Rail_move : List Str := ["self", "move", "step", "cloth", "places"]
def b_Rail_move : MS := mSeq (mSet 2 (mCall 1 f_move_in (mCons (mVar 1) (mNil)))) (mSeq (mIfS (mOrT (mTst (mBin isD (mVar 2) (mC .non))) (mTst (mBin eqD (mBin ixD (mVar 2) (mC (.int 0))) (mC (.str "some"))))) (fun _ _ => .bad) (mNx)) (mSeq (mIfS (mTst (mBin ltD (mArgs (fun ds S => noex (lenD ds S)) (mCons (mBin ixD (mFld "Rail" "held" (mVar 0)) (mC (.int 1))) (mNil))) (mCall 1 f_asked_by (mCons (mVar 2) (mNil))))) (fun _ _ => .bad) (mNx)) (mSeq (mTgS (.tup [3, 4]) (mCall 3 f_moved (mCons (mBin ixD (mFld "Rail" "held" (mVar 0)) (mC (.int 0))) (mCons (mBin ixD (mFld "Rail" "held" (mVar 0)) (mC (.int 1))) (mCons (mVar 2) (mNil)))))) (mRet (mMeth "Rail" "change_to" 3 f_Rail_change_to (mVar 0) (mCons (mVar 3) (mCons (mVar 4) (mNil))))))))
def f_Rail_move : List D → M D := fnD 5 0 b_Rail_move
abbrev N_Rail_places : List Str := ["self"]
def b_Rail_places : MS := mRet (mBin ixD (mFld "Rail" "held" (mVar 0)) (mC (.int 1)))
def f_Rail_places : List D → M D := fnD 1 0 b_Rail_places
abbrev N_law_shifted_right : List Str := ["can", "goods", "steps", "spots", "behind", "by", "rail", "step", "spot"]
def b_law_shifted_right : MS := mSeq (mSet 5 (mCall 2 f_law_one (mCons (mVar 0) (mCons (mArgs mkLst (mCons (mC (.int 1)) (mCons (mUn negD (mC (.int 1))) (mCons (mC (.int 500)) (mCons (mUn negD (mBin powD (mC (.int 10)) (mC (.int 20)))) (mCons (mCall 1 f_law_spot (mCons (mVar 0) (mNil))) (mNil))))))) (mNil))))) (mSeq (mSet 6 (mMake "Rail" f_Rail___init__ (mCons (mVar 1) (mCons (mArgs (fun ds S => noex (tupleD ds S)) (mCons (mLc [8] (.one 8) (mItT (mVar 3)) (mYes) (mBin addD (mVar 8) (mVar 5))) (mNil))) (mNil))))) (mSeq (mFor (.one 7) (mItL (mVar 2)) (mIfS (mTst (mBin (inDD false) (mBin ixD (mVar 7) (mC (.int 0))) (mArgs mkLst (mCons (mC (.str "left")) (mCons (mC (.str "right")) (mNil)))))) (mDrop (mMeth "Rail" "draw" 3 f_Rail_draw (mVar 6) (mCons (mCall 2 f_law_target (mCons (mVar 7) (mCons (mLenOwn "Rail" f_Rail___len__ (mCons (mVar 6) (mNil))) (mNil)))) (mCons (mBin addD (mBin ixD (mVar 7) (mC (.int 2))) (mVar 5)) (mNil))))) (mIfS (mTst (mBin eqD (mBin ixD (mVar 7) (mC (.int 0))) (mC (.str "on")))) (mSeq (mDrop (mMeth "Rail" "move" 2 f_Rail_move (mVar 6) (mCons (mCall 1 f_law_line (mCons (mVar 7) (mNil))) (mNil)))) (mDrop (mMeth "Rail" "draw" 3 f_Rail_draw (mVar 6) (mCons (mIf (mTst (mBin eqD (mBin ixD (mVar 7) (mC (.int 1))) (mC (.str "left")))) (mC (.int 0)) (mBin subD (mLenOwn "Rail" f_Rail___len__ (mCons (mVar 6) (mNil))) (mC (.int 1)))) (mCons (mBin addD (mBin ixD (mVar 7) (mC (.int 2))) (mVar 5)) (mNil)))))) (mDrop (mMeth "Rail" "move" 2 f_Rail_move (mVar 6) (mCons (mCall 1 f_law_line (mCons (mVar 7) (mNil))) (mNil))))))) (mSeq (mIfS (mTst (mBin neD (mLc [7] (.one 7) (mItL (mVar 2)) (mTst (mBin eqD (mBin ixD (mVar 7) (mC (.int 0))) (mC (.str "on")))) (mVar 7)) (mArgs mkLst (mNil)))) (mRet (mBin eqD (mArgs (fun ds S => noex (lenD ds S)) (mCons (mProp "Rail" f_Rail_places (mVar 6)) (mNil))) (mArgs (fun ds S => noex (lenD ds S)) (mCons (mVar 4) (mNil))))) (mNx)) (mRet (mBin eqD (mProp "Rail" f_Rail_places (mVar 6)) (mArgs (fun ds S => noex (tupleD ds S)) (mCons (mLc [8] (.one 8) (mItT (mVar 4)) (mYes) (mBin addD (mVar 8) (mVar 5))) (mNil))))))))
def f_law_shifted_right : List D → M D := fnD 9 0 b_law_shifted_right
abbrev N_law_asked : List Str := ["step"]
def b_law_asked : MS := mSeq (mIfS (mTst (mBin (inDD false) (mBin ixD (mVar 0) (mC (.int 0))) (mArgs mkLst (mCons (mC (.str "left")) (mCons (mC (.str "right")) (mNil)))))) (mRet (mBin ixD (mVar 0) (mC (.int 1)))) (mNx)) (mRet (mIf (mTst (mBin eqD (mBin ixD (mVar 0) (mC (.int 0))) (mC (.str "off")))) (mC (.int 2)) (mC (.int 1))))
def f_law_asked : List D → M D := fnD 1 0 b_law_asked
abbrev N_law_more : List Str := ["step"]
def b_law_more : MS := mRet (mIf (mTst (mBin eqD (mBin ixD (mVar 0) (mC (.int 0))) (mC (.str "on")))) (mC (.int 1)) (mIf (mTst (mBin eqD (mBin ixD (mVar 0) (mC (.int 0))) (mC (.str "off")))) (mUn negD (mC (.int 1))) (mC (.int 0))))
def f_law_more : List D → M D := fnD 1 0 b_law_more
abbrev N_law_fewest : List Str := ["steps", "step", "found", "more"]
def b_law_fewest : MS := mSeq (mTgS (.tup [2, 3]) (mArgs mkTup (mCons (mC (.int 1)) (mCons (mC (.int 0)) (mNil))))) (mSeq (mFor (.one 1) (mItL (mVar 0)) (mPar [2, 3] (mCons (mArgs (fun ds S => noex (maxD ds S)) (mCons (mVar 2) (mCons (mBin subD (mCall 1 f_law_asked (mCons (mVar 1) (mNil))) (mVar 3)) (mNil)))) (mCons (mBin addD (mVar 3) (mCall 1 f_law_more (mCons (mVar 1) (mNil)))) (mNil))))) (mRet (mVar 2)))
def f_law_fewest : List D → M D := fnD 4 0 b_law_fewest
abbrev N_law_goods : List Str := ["can", "near", "far"]
def b_law_goods : MS := mSeq (mSet 1 (mCall 2 f_law_one (mCons (mVar 0) (mCons (mArgs mkLst (mCons (mC (.int 1)) (mCons (mC (.int 2)) (mCons (mC (.int 1)) (mCons (mC (.int 3)) (mCons (mBin addD (mC (.int 1)) (mCall 2 f_law_pour (mCons (mVar 0) (mCons (mC (.int 8)) (mNil))))) (mNil))))))) (mNil))))) (mSeq (mSet 2 (mBin addD (mBin addD (mVar 1) (mC (.int 1))) (mCall 2 f_law_pour (mCons (mVar 0) (mCons (mBin subD (mC (.int 9)) (mVar 1)) (mNil)))))) (mRet (mIf (mTst (mBin gtD (mCall 2 f_law_pour (mCons (mVar 0) (mCons (mC (.int 3)) (mNil)))) (mC (.int 0)))) (mArgs mkTup (mCons (mVar 1) (mCons (mVar 2) (mNil)))) (mArgs mkTup (mCons (mVar 1) (mCons (mVar 2) (mCons (mCall 1 f_law_spot (mCons (mVar 0) (mNil))) (mNil))))))))
def f_law_goods : List D → M D := fnD 3 0 b_law_goods
abbrev N_law_step : List Str := ["can", "words", "word"]
def b_law_step : MS := mSeq (mSet 2 (mCall 2 f_law_one (mCons (mVar 0) (mCons (mVar 1) (mNil))))) (mSeq (mIfS (mTst (mBin (inDD false) (mVar 2) (mArgs mkLst (mCons (mC (.str "left")) (mCons (mC (.str "right")) (mNil)))))) (mRet (mArgs mkTup (mCons (mVar 2) (mCons (mCall 2 f_law_one (mCons (mVar 0) (mCons (mArgs mkLst (mCons (mC (.int 1)) (mCons (mC (.int 1)) (mCons (mC (.int 1)) (mCons (mC (.int 2)) (mCons (mC (.int 3)) (mCons (mBin addD (mC (.int 1)) (mCall 2 f_law_pour (mCons (mVar 0) (mCons (mC (.int 5)) (mNil))))) (mNil)))))))) (mNil)))) (mCons (mCall 1 f_law_spot (mCons (mVar 0) (mNil))) (mNil)))))) (mNx)) (mSeq (mIfS (mTst (mBin (inDD false) (mVar 2) (mArgs mkLst (mCons (mC (.str "on")) (mCons (mC (.str "off")) (mNil)))))) (mRet (mArgs mkTup (mCons (mVar 2) (mCons (mCall 2 f_law_one (mCons (mVar 0) (mCons (mArgs mkLst (mCons (mC (.str "left")) (mCons (mC (.str "right")) (mNil)))) (mNil)))) (mCons (mIf (mTst (mBin eqD (mVar 2) (mC (.str "on")))) (mCall 1 f_law_spot (mCons (mVar 0) (mNil))) (mC (.int 0))) (mNil)))))) (mNx)) (mRet (mArgs mkTup (mCons (mVar 2) (mCons (mIf (mTst (mBin eqD (mVar 2) (mC (.str "some")))) (mC (.str "to")) (mC (.str ""))) (mCons (mCall 1 f_law_spot (mCons (mVar 0) (mNil))) (mNil))))))))
def f_law_step : List D → M D := fnD 3 0 b_law_step
abbrev N_law_steps : List Str := ["can", "most", "words", "k"]
def b_law_steps : MS := mRet (mLc [3] (.one 3) (mRng1 (mCons (mCall 2 f_law_pour (mCons (mVar 0) (mCons (mBin addD (mVar 1) (mC (.int 1))) (mNil)))) (mNil))) (mYes) (mCall 2 f_law_step (mCons (mVar 0) (mCons (mVar 2) (mNil)))))
def f_law_steps : List D → M D := fnD 4 0 b_law_steps
abbrev N_law_sketch : List Str := ["can", "most", "words", "goods", "steps"]
def b_law_sketch : MS := mSeq (mPar [3, 4] (mCons (mCall 1 f_law_goods (mCons (mVar 0) (mNil))) (mCons (mCall 3 f_law_steps (mCons (mVar 0) (mCons (mVar 1) (mCons (mVar 2) (mNil))))) (mNil)))) (mRet (mArgs mkTup (mCons (mVar 3) (mCons (mVar 4) (mCons (mBin addD (mCall 1 f_law_fewest (mCons (mVar 4) (mNil))) (mCall 2 f_law_one (mCons (mVar 0) (mCons (mArgs mkLst (mCons (mC (.int 0)) (mCons (mC (.int 0)) (mCons (mC (.int 1)) (mCons (mC (.int 2)) (mCons (mC (.int 3)) (mNil))))))) (mNil))))) (mNil))))))
def f_law_sketch : List D → M D := fnD 5 0 b_law_sketch
abbrev N_law_standing : List Str := ["can", "goods", "many", "first", "spots", "k", "gap"]
def b_law_standing : MS := mSeq (mSet 3 (mCall 2 f_law_one (mCons (mVar 0) (mCons (mArgs mkLst (mCons (mC (.int 0)) (mCons (mC (.int 5)) (mCons (mBin subD (mCall 2 f_law_pour (mCons (mVar 0) (mCons (mC (.int 121)) (mNil)))) (mC (.int 60))) (mCons (mCall 2 f_law_pour (mCons (mVar 0) (mCons (mC (.int 30)) (mNil)))) (mNil)))))) (mNil))))) (mSeq (mSet 4 (mArgs mkCell (mCons (mIf (mTst (mBin eqD (mArgs (fun ds S => noex (lenD ds S)) (mCons (mVar 1) (mNil))) (mC (.int 2)))) (mVar 3) (mBin addD (mBin ixD (mVar 1) (mC (.int 2))) (mArgs (fun ds S => noex (absD ds S)) (mCons (mVar 3) (mNil))))) (mNil)))) (mSeq (mFor (.one 5) (mRng1 (mCons (mBin subD (mVar 2) (mC (.int 1))) (mNil))) (mSeq (mSet 6 (mCall 2 f_law_one (mCons (mVar 0) (mCons (mArgs mkLst (mCons (mBin ixD (mVar 1) (mC (.int 0))) (mCons (mBin ixD (mVar 1) (mC (.int 1))) (mCons (mBin addD (mBin ixD (mVar 1) (mC (.int 0))) (mCall 2 f_law_pour (mCons (mVar 0) (mCons (mBin addD (mBin subD (mBin ixD (mVar 1) (mC (.int 1))) (mBin ixD (mVar 1) (mC (.int 0)))) (mC (.int 1))) (mNil))))) (mNil))))) (mNil))))) (mDrop (mAppend (mVar 4) (mCons (mBin addD (mBin ixD (mVar 4) (mUn negD (mC (.int 1)))) (mVar 6)) (mNil)))))) (mRet (mFreeze (mVar 4)))))
def f_law_standing : List D → M D := fnD 7 0 b_law_standing
abbrev N_check_known : List Str := ["script", "index", "step"]
def b_check_known : MS := mFor (.tup [1, 2]) (mEnumT (mCons (mFld "Script" "steps" (mVar 0)) (mNil))) (mIfS (mTst (mBin eqD (mBin ixD (mVar 2) (mC (.int 0))) (mC (.str "some")))) (fun _ _ => .bad) (mNx))
def f_check_known : List D → M D := fnD 3 0 b_check_known
abbrev N_check_script : List Str := ["value"]
def b_check_script : MS := mIfS (mNotT (mTru (mArgs (fun ds S => noex (isiC "Script" ds S)) (mCons (mVar 0) (mCons (mC (.nm "Script")) (mNil)))))) (fun _ _ => .bad) (mNx)
def f_check_script : List D → M D := fnD 1 0 b_check_script
abbrev N_Script_cloth : List Str := ["self"]
def b_Script_cloth : MS := mRet (mFld "Script" "goods" (mVar 0))
def f_Script_cloth : List D → M D := fnD 1 0 b_Script_cloth
abbrev N_first_too_few : List Str := ["script", "count", "index", "step"]
def b_first_too_few : MS := mSeq (mFor (.tup [2, 3]) (mEnumT (mCons (mFld "Script" "steps" (mVar 0)) (mNil))) (mSeq (mIfS (mTst (mBin ltD (mVar 1) (mCall 1 f_asked_by (mCons (mVar 3) (mNil))))) (mRet (mVar 2)) (mNx)) (mAugA 1 (mCall 1 f_more_by (mCons (mVar 3) (mNil)))))) (mRet (mC .non))
def f_first_too_few : List D → M D := fnD 4 0 b_first_too_few
abbrev N_led : List Str := ["script", "places", "index", "cloth", "step"]
def b_led : MS := mSeq (mDrop (mCall 1 f_check_script (mCons (mVar 0) (mNil)))) (mSeq (mDrop (mCall 1 f_check_known (mCons (mVar 0) (mNil)))) (mSeq (mDrop (mCall 2 f_check_standing (mCons (mProp "Script" f_Script_cloth (mVar 0)) (mCons (mVar 1) (mNil))))) (mSeq (mSet 2 (mCall 2 f_first_too_few (mCons (mVar 0) (mCons (mArgs (fun ds S => noex (lenD ds S)) (mCons (mVar 1) (mNil))) (mNil))))) (mSeq (mIfS (mTst (mBin isnotD (mVar 2) (mC .non))) (fun _ _ => .bad) (mNx)) (mSeq (mSet 3 (mProp "Script" f_Script_cloth (mVar 0))) (mSeq (mFor (.one 4) (mItT (mFld "Script" "steps" (mVar 0))) (mTgS (.tup [3, 1]) (mCall 3 f_moved (mCons (mVar 3) (mCons (mVar 1) (mCons (mVar 4) (mNil))))))) (mRet (mVar 1))))))))
def f_led : List D → M D := fnD 5 0 b_led
abbrev N_law_right : List Str := ["can", "end", "behind", "mirror", "later", "begun", "two", "goods", "steps", "many", "walled", "mine", "spots", "one", "step", "k"]
def b_law_right : MS := mSeq (mTgS (.tup [7, 8, 9]) (mCall 3 f_law_sketch (mCons (mVar 0) (mCons (mC (.int 8)) (mCons (mCall 0 f_law_all_words mNil) (mNil)))))) (mSeq (mSet 1 (mCall 2 f_law_one (mCons (mVar 0) (mCons (mArgs mkLst (mCons (mCall 1 f_law_spot (mCons (mVar 0) (mNil))) (mCons (mUn negD (mC (.int 99))) (mNil)))) (mNil))))) (mSeq (mPar [7, 10] (mCons (mSl (mVar 7) (mNo) (mSo (mC (.int 2)))) (mCons (mBin addD (mSl (mVar 7) (mNo) (mSo (mC (.int 2)))) (mArgs mkTup (mCons (mVar 1) (mNil)))) (mNil)))) (mSeq (mPar [11, 12] (mCons (mCall 2 f_law_made (mCons (mVar 7) (mCons (mVar 8) (mNil)))) (mCons (mArgs (fun ds S => noex (tupleD ds S)) (mCons (mCall 3 f_law_standing (mCons (mVar 0) (mCons (mVar 7) (mCons (mVar 9) (mNil))))) (mNil))) (mNil)))) (mSeq (mSet 2 (mCall 2 f_led (mCons (mVar 11) (mCons (mVar 12) (mNil))))) (mSeq (mSet 3 (mCall 2 f_law_made (mCons (mVar 7) (mCons (mLc [14] (.one 14) (mItL (mVar 8)) (mYes) (mCall 1 f_law_mirrored (mCons (mVar 14) (mNil)))) (mNil))))) (mSeq (mIfS (mTst (mBin neD (mCall 2 f_led (mCons (mVar 3) (mCons (mCall 1 f_law_in_mirror (mCons (mVar 12) (mNil))) (mNil)))) (mCall 1 f_law_in_mirror (mCons (mVar 2) (mNil))))) (mRet (mC (.bl false))) (mNx)) (mSeq (mIfS (mNotT (mTru (mCall 5 f_law_shifted_right (mCons (mVar 0) (mCons (mVar 7) (mCons (mVar 8) (mCons (mVar 12) (mCons (mVar 2) (mNil))))))))) (mRet (mC (.bl false))) (mNx)) (mSeq (mSet 4 (mCall 2 f_led (mCons (mVar 11) (mCons (mArgs (fun ds S => noex (tupleD ds S)) (mCons (mCall 3 f_law_further (mCons (mVar 0) (mCons (mVar 7) (mCons (mVar 12) (mNil))))) (mNil))) (mNil))))) (mSeq (mIfS (mOrT (mTst (mBin neD (mArgs (fun ds S => noex (lenD ds S)) (mCons (mVar 4) (mNil))) (mArgs (fun ds S => noex (lenD ds S)) (mCons (mVar 2) (mNil))))) (mTst (mBin neD (mLc [15] (.one 15) (mRng1 (mCons (mArgs (fun ds S => noex (lenD ds S)) (mCons (mVar 4) (mNil))) (mNil))) (mTst (mBin ltD (mBin ixD (mVar 4) (mVar 15)) (mBin ixD (mVar 2) (mVar 15)))) (mVar 15)) (mArgs mkLst (mNil))))) (mRet (mC (.bl false))) (mNx)) (mSeq (mSet 5 (mCall 3 f_law_standing (mCons (mVar 0) (mCons (mVar 10) (mCons (mVar 9) (mNil)))))) (mSeq (mTgS (.tup [13, 6]) (mArgs mkTup (mCons (mCall 2 f_led (mCons (mCall 2 f_law_made (mCons (mVar 10) (mCons (mVar 8) (mNil)))) (mCons (mArgs (fun ds S => noex (tupleD ds S)) (mCons (mVar 5) (mNil))) (mNil)))) (mCons (mArgs (fun ds S => noex (tupleD ds S)) (mCons (mCall 3 f_law_further (mCons (mVar 0) (mCons (mVar 7) (mCons (mVar 5) (mNil))))) (mNil))) (mNil))))) (mSeq (mSet 6 (mCallK 2 2 f_led [0, 1] (mNil) (mCons (mCall 2 f_law_made (mCons (mVar 10) (mCons (mVar 8) (mNil)))) (mCons (mVar 6) (mNil))))) (mRet (mAndV (mBin eqD (mArgs (fun ds S => noex (lenD ds S)) (mCons (mVar 13) (mNil))) (mArgs (fun ds S => noex (lenD ds S)) (mCons (mVar 6) (mNil)))) (mBin eqD (mLc [15] (.one 15) (mRng1 (mCons (mArgs (fun ds S => noex (lenD ds S)) (mCons (mVar 13) (mNil))) (mNil))) (mTst (mBin ltD (mBin ixD (mVar 6) (mVar 15)) (mBin ixD (mVar 13) (mVar 15)))) (mVar 15)) (mArgs mkLst (mNil)))))))))))))))))
def f_law_right : List D → M D := fnD 16 0 b_law_right
abbrev N_law : List Str := ["cells", "turn"]
def b_law : MS := mRet (mArgs (fun ds S => noex (allD ds S)) (mCons (mLc [1] (.one 1) (mRng1 (mCons (mArgs (fun ds S => noex (maxD ds S)) (mCons (mC (.int 2)) (mCons (mArgs (fun ds S => noex (minD ds S)) (mCons (mArgs (fun ds S => noex (lenD ds S)) (mCons (mVar 0) (mNil))) (mCons (mC (.int 5)) (mNil)))) (mNil)))) (mNil))) (mYes) (mCall 1 f_law_right (mCons (mCall 2 f_law_can (mCons (mVar 0) (mCons (mVar 1) (mNil)))) (mNil)))) (mNil)))
def f_law : List D → M D := fnD 2 0 b_law
end K51

/-! M0 (printed by m0.py): the combinators' equations. -/
namespace Gn
open PySem PySem.Spec PyProof.Rows L2
@[simp] theorem s_mVar (i : Nat) (env : Env) (S : Sto) : mVar i env S = (match env[i]? with
  | some (some d) => .ok d S
  | _ => .bad) := rfl
@[simp] theorem s_mC (d : D) (v0 : Env) (S : Sto) : mC d v0 S = (.ok d S) := rfl
@[simp] theorem s_mBin (g : D → D → M D) (ma mb : Env → M D) (env : Env) (S : Sto) : mBin g ma mb env S = ((ma env S).bind fun x S1 => (mb env S1).bind fun y S2 => noex (g x y S2)) := rfl
@[simp] theorem s_mUn (g : D → M D) (ma : Env → M D) (env : Env) (S : Sto) : mUn g ma env S = ((ma env S).bind fun x S1 => noex (g x S1)) := rfl
@[simp] theorem s_mIf (mc : Env → M Bool) (ma mb : Env → M D) (env : Env) (S : Sto) : mIf mc ma mb env S = ((mc env S).bind fun c S1 => if c = true then ma env S1 else mb env S1) := rfl
@[simp] theorem s_mNil (v0 : Env) (S : Sto) : mNil v0 S = (.ok [] S) := rfl
@[simp] theorem s_mCons (ma : Env → M D) (mr : Env → M (List D)) (env : Env) (S : Sto) : mCons ma mr env S = ((ma env S).bind fun x S1 => (mr env S1).bind fun xs S2 => .ok (x :: xs) S2) := rfl
@[simp] theorem s_mStar (ma : Env → M D) (mr : Env → M (List D)) (env : Env) (S : Sto) : mStar ma mr env S = ((ma env S).bind fun x S1 => match itemsD x S1 with
  | some ys => (mr env S1).bind fun xs S2 => .ok (ys ++ xs) S2
  | none => .bad) := rfl
@[simp] theorem s_mkTup (ds : List D) (S : Sto) : mkTup ds S = (if ds.length ≤ szL then .ok (.tup ds) S else .bad) := rfl
@[simp] theorem s_mkLst (ds : List D) (S : Sto) : mkLst ds S = (if ds.length ≤ szL then .ok (.lst ds) S else .bad) := rfl
@[simp] theorem s_mkCell (ds : List D) (S : Sto) : mkCell ds S = (if ds.length ≤ szL ∧ pures ds = true then .ok (.cell S.length) (S ++ [.lst ds]) else .bad) := rfl
@[simp] theorem s_mArgs (f : List D → M D) (ml : Env → M (List D)) (env : Env) (S : Sto) : mArgs f ml env S = ((ml env S).bind fun ds S1 => f ds S1) := rfl
@[simp] theorem s_tstB (d : D) (S : Sto) : tstB d S = (match d with
  | .bl b => .ok b S
  | _ => .bad) := rfl
@[simp] theorem s_truthD (d : D) (S : Sto) : truthD d S = (match d with
  | .non => .ok false S
  | .bl b => .ok b S
  | .int i => .ok (i != 0) S
  | .str x => if x.length ≤ szL then .ok ((x.length : Int) != 0) S else .bad
  | .tup xs => .ok (!xs.isEmpty) S
  | .lst xs => .ok (!xs.isEmpty) S
  | .cell k => match S[k]? with
    | some (.lst xs) => .ok (!xs.isEmpty) S
    | some (.frz xs) => .ok (!xs.isEmpty) S
    | _ => .bad
  | _ => .bad) := rfl
@[simp] theorem s_mTst (ma : Env → M D) (env : Env) (S : Sto) : mTst ma env S = ((ma env S).bind tstB) := rfl
@[simp] theorem s_mTru (ma : Env → M D) (env : Env) (S : Sto) : mTru ma env S = ((ma env S).bind truthD) := rfl
@[simp] theorem s_mNotT (mt : Env → M Bool) (env : Env) (S : Sto) : mNotT mt env S = ((mt env S).bind fun b S1 => .ok (!b) S1) := rfl
@[simp] theorem s_mAndT (mt mu : Env → M Bool) (env : Env) (S : Sto) : mAndT mt mu env S = ((mt env S).bind fun b S1 => if b = true then mu env S1 else .ok false S1) := rfl
@[simp] theorem s_mOrT (mt mu : Env → M Bool) (env : Env) (S : Sto) : mOrT mt mu env S = ((mt env S).bind fun b S1 => if b = true then .ok true S1 else mu env S1) := rfl
@[simp] theorem s_mNotV (ma : Env → M D) (env : Env) (S : Sto) : mNotV ma env S = ((ma env S).bind fun x S1 => (truthD x S1).bind fun b S2 => .ok (.bl (!b)) S2) := rfl
@[simp] theorem s_mAndV (ma mb : Env → M D) (env : Env) (S : Sto) : mAndV ma mb env S = ((ma env S).bind fun x S1 => (truthD x S1).bind fun b S2 => if b = true then mb env S2 else .ok x S2) := rfl
@[simp] theorem s_mOrV (ma mb : Env → M D) (env : Env) (S : Sto) : mOrV ma mb env S = ((ma env S).bind fun x S1 => (truthD x S1).bind fun b S2 => if b = true then .ok x S2 else mb env S2) := rfl
@[simp] theorem s_mChain (g g' : D → D → M D) (ma mb mc : Env → M D) (env : Env) (S : Sto) : mChain g g' ma mb mc env S = ((ma env S).bind fun x S1 => (mb env S1).bind fun y S2 => (noex (g x y S2)).bind fun z S3 => (tstB z S3).bind fun b S4 =>
  if b = true then (mc env S4).bind fun u S5 => noex (g' y u S5) else .ok (.bl false) S4) := rfl
@[simp] theorem s_mChain3 (g g' g'' : D → D → M D) (ma mb mc md : Env → M D) (env : Env) (S : Sto) : mChain3 g g' g'' ma mb mc md env S = ((ma env S).bind fun x S1 => (mb env S1).bind fun y S2 => (noex (g x y S2)).bind fun z S3 => (tstB z S3).bind fun b S4 =>
  if b = true then (mc env S4).bind fun u S5 => (noex (g' y u S5)).bind fun z S6 => (tstB z S6).bind fun b S7 => if b = true then (md env S7).bind fun t S8 => noex (g'' u t S8) else .ok (.bl false) S7 else .ok (.bl false) S4) := rfl
@[simp] theorem s_mFreeze (ma : Env → M D) (env : Env) (S : Sto) : mFreeze ma env S = ((ma env S).bind fun x S1 => match x with
  | .cell k => match S1[k]? with
    | some (.lst xs) => .ok (.lst xs) (S1.set k (.frz xs))
    | some (.frz xs) => .ok (.lst xs) S1
    | some (.ins c fs) => .ok (.ins c fs) (S1.set k (.frzi c fs))
    | some (.frzi c fs) => .ok (.ins c fs) S1
    | _ => .bad
  | _ => .bad) := rfl
@[simp] theorem s_fdivD (x y : D) (S : Sto) : fdivD x y S = (match x, y with
  | .int i, .int j => if 0 < j ∧ j < 1073741824 then .ok (.int (i / j)) S else .bad
  | _, _ => .bad) := rfl
@[simp] theorem s_modD (x y : D) (S : Sto) : modD x y S = (match x, y with
  | .int i, .int j => if 0 < j then .ok (.int (i % j)) S else .bad
  | _, _ => .bad) := rfl
@[simp] theorem s_negD (x : D) (S : Sto) : negD x S = (match x with
  | .int i => .ok (.int (-i)) S
  | _ => .bad) := rfl
@[simp] theorem s_ltD (x y : D) (S : Sto) : ltD x y S = (match x, y with
  | .int i, .int j => .ok (.bl (decide (i < j))) S
  | _, _ => .bad) := rfl
@[simp] theorem s_leD (x y : D) (S : Sto) : leD x y S = (match x, y with
  | .int i, .int j => .ok (.bl (decide (i ≤ j))) S
  | _, _ => .bad) := rfl
@[simp] theorem s_gtD (x y : D) (S : Sto) : gtD x y S = (match x, y with
  | .int i, .int j => .ok (.bl (decide (j < i))) S
  | _, _ => .bad) := rfl
@[simp] theorem s_geD (x y : D) (S : Sto) : geD x y S = (match x, y with
  | .int i, .int j => .ok (.bl (decide (j ≤ i))) S
  | _, _ => .bad) := rfl
@[simp] theorem s_isD (x y : D) (S : Sto) : isD x y S = (match y with
  | .non => .ok (.bl (isNonD x)) S
  | _ => .bad) := rfl
@[simp] theorem s_isnotD (x y : D) (S : Sto) : isnotD x y S = (match y with
  | .non => .ok (.bl (!isNonD x)) S
  | _ => .bad) := rfl
@[simp] theorem s_eqD (x y : D) (S : Sto) : eqD x y S = (match eqD? x y with
  | some b => .ok (.bl b) S
  | none => .bad) := rfl
@[simp] theorem s_neD (x y : D) (S : Sto) : neD x y S = (match eqD? x y with
  | some b => .ok (.bl (!b)) S
  | none => .bad) := rfl
@[simp] theorem s_allD (ds : List D) (S : Sto) : allD ds S = (match ds with
  | [d] => match (listD d S).bind blsOf with
    | some ns => .ok (.bl (ns.all id)) S
    | none => .bad
  | _ => .bad) := rfl
@[simp] theorem s_anyD (ds : List D) (S : Sto) : anyD ds S = (match ds with
  | [d] => match (listD d S).bind blsOf with
    | some ns => .ok (.bl (ns.any id)) S
    | none => .bad
  | _ => .bad) := rfl
@[simp] theorem s_tupleD (ds : List D) (S : Sto) : tupleD ds S = (match ds with
  | [.tup xs] => .ok (.tup xs) S
  | [d] => match listD d S with
    | some xs => .ok (.tup xs) S
    | none => .bad
  | _ => .bad) := rfl
@[simp] theorem s_listD1 (ds : List D) (S : Sto) : listD1 ds S = (match ds with
  | [d] => match itemsD d S with
    | some xs => .ok (.lst xs) S
    | none => .bad
  | _ => .bad) := rfl
@[simp] theorem s_isiD (ds : List D) (S : Sto) : isiD ds S = (match ds with
  | [d, .ty T] => match (tyN d).bind fun t => kitB t T with
    | some b => .ok (.bl b) S
    | none => .bad
  | _ => .bad) := rfl
@[simp] theorem s_mNo (v0 : Env) (S : Sto) : mNo v0 S = (.ok none S) := rfl
@[simp] theorem s_intP (d : D) (S : Sto) : intP d S = (match d with
  | .int i => .ok (some i) S
  | _ => .bad) := rfl
@[simp] theorem s_mSo (ma : Env → M D) (env : Env) (S : Sto) : mSo ma env S = ((ma env S).bind intP) := rfl
@[simp] theorem s_mSl (ma : Env → M D) (ml mh : Env → M (Option Int)) (env : Env) (S : Sto) : mSl ma ml mh env S = ((ma env S).bind fun x S1 => (ml env S1).bind fun lo S2 => (mh env S2).bind fun hi S3 => slD x lo hi S3) := rfl
@[simp] theorem s_mStrM (g : Str → D → M D) (ma mb : Env → M D) (env : Env) (S : Sto) : mStrM g ma mb env S = ((ma env S).bind fun x S1 => match x with
  | .str a => (mb env S1).bind fun y S2 => noex (g a y S2)
  | _ => .bad) := rfl
@[simp] theorem s_mFld (c f : Str) (ma : Env → M D) (env : Env) (S : Sto) : mFld c f ma env S = ((ma env S).bind fun x S1 => match (fieldsD c x S1).bind fun fs => fs.lookup f with
  | some d => .ok d S1
  | none => .bad) := rfl
@[simp] theorem s_mCall (n : Nat) (fm : List D → M D) (ml : Env → M (List D)) (env : Env) (S : Sto) : mCall n fm ml env S = ((ml env S).bind fun ds S1 => if ds.length = n then fm ds S1 else .bad) := rfl
@[simp] theorem s_mMeth (c m : Str) (n : Nat) (fm : List D → M D) (ma : Env → M D) (ml : Env → M (List D)) (env : Env) (S : Sto) : mMeth c m n fm ma ml env S = ((ma env S).bind fun x S1 => match fieldsD c x S1 with
  | some fs => if fs.lookup m = none then (ml env S1).bind fun ds S2 => if ds.length + 1 = n then fm (x :: ds) S2 else .bad else .bad
  | none => .bad) := rfl
@[simp] theorem s_mProp (c : Str) (fm : List D → M D) (ma : Env → M D) (env : Env) (S : Sto) : mProp c fm ma env S = ((ma env S).bind fun x S1 => match fieldsD c x S1 with
  | some _ => noex (fm [x] S1)
  | none => .bad) := rfl
@[simp] theorem s_mMake (c : Str) (fm : List D → M D) (ml : Env → M (List D)) (env : Env) (S : Sto) : mMake c fm ml env S = ((ml env S).bind fun ds S1 => (fm (.cell S1.length :: ds) (S1 ++ [.ins c []])).bind fun d S2 => match d with
  | .non => .ok (.cell S1.length) S2
  | _ => .bad) := rfl
@[simp] theorem s_mStar1 (ma : Env → M D) (env : Env) (S : Sto) : mStar1 ma env S = ((ma env S).bind fun x S1 => match itemsD x S1 with
  | some ys => .ok ys S1
  | none => .bad) := rfl
@[simp] theorem s_mFrzLast (ma : Env → M D) (env : Env) (S : Sto) : mFrzLast ma env S = ((ma env S).bind fun x S1 => match x with
  | .cell k => match S1[k]? with
    | some (.ins c fs) => if S.length ≤ k then .ok (.ins c fs) (S1.take k) else .bad
    | _ => .bad
  | _ => .bad) := rfl
@[simp] theorem s_mItL (ma : Env → M D) (env : Env) (S : Sto) : mItL ma env S = ((ma env S).bind fun x S1 => match x with
  | .lst xs => .ok xs S1
  | _ => .bad) := rfl
@[simp] theorem s_mItT (ma : Env → M D) (env : Env) (S : Sto) : mItT ma env S = ((ma env S).bind fun x S1 => match x with
  | .tup xs => .ok xs S1
  | _ => .bad) := rfl
@[simp] theorem s_mItS (ma : Env → M D) (env : Env) (S : Sto) : mItS ma env S = ((ma env S).bind fun x S1 => match x with
  | .str z => .ok (signs z) S1
  | _ => .bad) := rfl
@[simp] theorem s_mEnumL (ml : Env → M (List D)) (env : Env) (S : Sto) : mEnumL ml env S = ((ml env S).bind fun ds S1 => match ds with
  | [.lst xs] => .ok (enumD xs) S1
  | _ => .bad) := rfl
@[simp] theorem s_mOrI (m1 m2 : Env → M (List D)) (env : Env) (S : Sto) : mOrI m1 m2 env S = (match m1 env S with
  | .bad => m2 env S
  | r => r) := rfl
@[simp] theorem s_mYes (v0 : Env) (S : Sto) : mYes v0 S = (.ok true S) := rfl
@[simp] theorem s_mLc (vs : List Nat) (T : Tg) (mi : Env → M (List D)) (mt : Env → M Bool) (me : Env → M D) (env : Env) (S : Sto) : mLc vs T mi mt me env S = ((mi env S).bind fun ds S1 => (lcL T mt me (wipeE env vs) ds S1).bind mkLst') := rfl
@[simp] theorem s_mNx (env : Env) (S : Sto) : mNx env S = (.nx env S) := rfl
@[simp] theorem s_mSeq (m1 m2 : MS) (env : Env) (S : Sto) : mSeq m1 m2 env S = ((m1 env S).thn m2) := rfl
@[simp] theorem s_mRet (ma : Env → M D) (env : Env) (S : Sto) : mRet ma env S = ((ma env S).toS fun d S1 => .rt d S1) := rfl
@[simp] theorem s_mRetN (v0 : Env) (S : Sto) : mRetN v0 S = (.rt .non S) := rfl
@[simp] theorem s_mSet (i : Nat) (ma : Env → M D) (env : Env) (S : Sto) : mSet i ma env S = ((ma env S).toS fun d S1 => .nx (env.set i (some d)) S1) := rfl
@[simp] theorem s_mDrop (ma : Env → M D) (env : Env) (S : Sto) : mDrop ma env S = ((ma env S).toS fun _ S1 => .nx env S1) := rfl
@[simp] theorem s_mIfS (mt : Env → M Bool) (m1 m2 : MS) (env : Env) (S : Sto) : mIfS mt m1 m2 env S = ((mt env S).toS fun b S1 => if b = true then m1 env S1 else m2 env S1) := rfl
@[simp] theorem s_mTgS (T : Tg) (ma : Env → M D) (env : Env) (S : Sto) : mTgS T ma env S = ((ma env S).toS fun d S1 => match T.put d env with
  | some env' => .nx env' S1
  | none => .bad) := rfl
@[simp] theorem s_mPar (is : List Nat) (ml : Env → M (List D)) (env : Env) (S : Sto) : mPar is ml env S = ((ml env S).toS fun ds S1 => match putAll is ds env with
  | some env' => .nx env' S1
  | none => .bad) := rfl
@[simp] theorem s_mAugA (i : Nat) (ma : Env → M D) (env : Env) (S : Sto) : mAugA i ma env S = (match env[i]? with
  | some (some x) => (ma env S).toS fun y S1 => match augAdd x y with
    | some z => .nx (env.set i (some z)) S1
    | none => .bad
  | _ => .bad) := rfl
@[simp] theorem s_mFor (T : Tg) (mi : Env → M (List D)) (mb : MS) (env : Env) (S : Sto) : mFor T mi mb env S = ((mi env S).toS fun ds S1 => forL T mb ds env S1) := rfl
@[simp] theorem s_mSetIx (mo mi ma : Env → M D) (env : Env) (S : Sto) : mSetIx mo mi ma env S = ((ma env S).toS fun v S1 => (mo env S1).toS fun o S2 => (mi env S2).toS fun i S3 => match setIx o i v S3 with
  | some S4 => .nx env S4
  | none => .bad) := rfl
@[simp] theorem s_mSetFld (c f : Str) (mo ma : Env → M D) (env : Env) (S : Sto) : mSetFld c f mo ma env S = ((ma env S).toS fun v S1 => (mo env S1).toS fun o S2 => match setFld c f o v S2 with
  | some S3 => .nx env S3
  | none => .bad) := rfl
@[simp] theorem s_fnD (nN x : Nat) (m : MS) (ds : List D) (S : Sto) : fnD nN x m ds S = (fin S.length x (m (ds.map some ++ List.replicate (nN - ds.length) none) S)) := rfl
@[simp] theorem s_mRev (ma : Env → M D) (env : Env) (S : Sto) : mRev ma env S = ((ma env S).bind fun x S1 => match x with
  | .tup xs => .ok (.tup xs.reverse) S1
  | _ => .bad) := rfl
@[simp] theorem s_mChain3T (g g' g'' : D → D → M D) (ma mb mc md : Env → M D) (env : Env) (S : Sto) : mChain3T g g' g'' ma mb mc md env S = ((ma env S).bind fun x S1 => (mb env S1).bind fun y S2 => (noex (g x y S2)).bind fun z S3 => (tstB z S3).bind fun b S4 =>
  if b = true then (mc env S4).bind fun u S5 => (noex (g' y u S5)).bind fun z S6 => (tstB z S6).bind fun b S7 => if b = true then (md env S7).bind fun t S8 => (noex (g'' u t S8)).bind fun z S9 => tstB z S9 else .ok false S7 else .ok false S4) := rfl
@[simp] theorem s_mAppend (ma : Env → M D) (ml : Env → M (List D)) (env : Env) (S : Sto) : mAppend ma ml env S = ((ma env S).bind fun x S1 => match cellL x S1 with
  | some _ => (ml env S1).bind fun ds S2 => match cellL x S2, ds with
    | some (k, xs), [y] => if xs.length < szL ∧ y.pure = true then .ok .non (S2.set k (.lst (xs ++ [y]))) else .bad
    | _, _ => .bad
  | none => .bad) := rfl
@[simp] theorem s_mSetIxN (mo mi : Env → M D) (n : Nat) (ma : Env → M D) (env : Env) (S : Sto) : mSetIxN mo mi n ma env S = ((ma env S).toS fun v S1 => match v with
  | .tup [v1, v2] => (mo env S1).toS fun o S2 => (mi env S2).toS fun i S3 => match setIx o i v1 S3 with
    | some S4 => .nx (env.set n (some v2)) S4
    | none => .bad
  | _ => .bad) := rfl
@[simp] theorem s_mCallK (n nk : Nat) (fm : List D → M D) (o : List Nat) (ml mk : Env → M (List D)) (env : Env) (S : Sto) : mCallK n nk fm o ml mk env S = ((ml env S).bind fun ds S1 => (mk env S1).bind fun es S2 =>
  if ds.length = n - nk ∧ es.length = nk ∧ o.length = n ∧ o.all (fun i => decide (i < (ds ++ es).length)) = true then fm (o.map fun i => (ds ++ es).getD i .non) S2 else .bad) := rfl
@[simp] theorem s_mCMeth (c : Str) (n : Nat) (fm : List D → M D) (ml : Env → M (List D)) (env : Env) (S : Sto) : mCMeth c n fm ml env S = ((ml env S).bind fun ds S1 => if ds.length + 1 = n then fm (.nm c :: ds) S1 else .bad) := rfl
@[simp] theorem s_isiC (c : Str) (ds : List D) (S : Sto) : isiC c ds S = (match ds with
  | [d, .nm c'] => if c' = c then match fieldsD c d S with
      | some _ => .ok (.bl true) S
      | none => match tyN d with
        | some _ => .ok (.bl false) S
        | none => .bad
    else .bad
  | _ => .bad) := rfl
@[simp] theorem s_mEnumT (ml : Env → M (List D)) (env : Env) (S : Sto) : mEnumT ml env S = ((ml env S).bind fun ds S1 => match ds with
  | [.tup xs] => .ok (enumD xs) S1
  | _ => .bad) := rfl
@[simp] theorem s_starArgs (n : Nat) (fm : List D → M D) (ds : List D) (S : Sto) : starArgs n fm ds S = (if n ≤ ds.length ∧ ds.length ≤ n + szL then fm (ds.take n ++ [.tup (ds.drop n)]) S else .bad) := rfl
@[simp] theorem s_arity (n : Nat) (fm : List D → M D) (ds : List D) (S : Sto) : arity n fm ds S = (if ds.length = n then fm ds S else .bad) := rfl
end Gn

/-! M1: more equations for simp. -/
namespace Gn
open PySem PySem.Spec PyProof.Rows L2
@[simp] theorem thn_nx (e : Env) (S : Sto) (f : MS) : (SR.nx e S).thn f = f e S := rfl
@[simp] theorem thn_rt (d : D) (S : Sto) (f : MS) : (SR.rt d S).thn f = .rt d S := rfl
@[simp] theorem thn_ex (x : Exn) (S : Sto) (f : MS) : (SR.ex x S).thn f = .ex x S := rfl
@[simp] theorem thn_ite (c : Prop) [Decidable c] (a b : SR) (f : MS) : (if c then a else b).thn f = if c then a.thn f else b.thn f := by split <;> rfl
@[simp] theorem bind_ite {α β : Type} (c : Prop) [Decidable c] (a b : Res α) (f : α → Sto → Res β) : (if c then a else b).bind f = if c then a.bind f else b.bind f := by split <;> rfl
@[simp] theorem toS_ite {α : Type} (c : Prop) [Decidable c] (a b : Res α) (f : α → Sto → SR) : (if c then a else b).toS f = if c then a.toS f else b.toS f := by split <;> rfl
@[simp] theorem noex_ok {α : Type} (a : α) (S : Sto) : noex (.ok a S) = .ok a S := rfl
@[simp] theorem noex_ite {α : Type} (c : Prop) [Decidable c] (a b : Res α) : noex (if c then a else b) = if c then noex a else noex b := by split <;> rfl
@[simp] theorem fin_nx (n x : Nat) (e : Env) (S : Sto) : fin n x (.nx e S) = .ok .non (S.take n) := rfl
@[simp] theorem fin_rt (n x : Nat) (d : D) (S : Sto) : fin n x (.rt d S) = if okRes (n + x) d = true then .ok d (S.take (n + x)) else .bad := rfl
@[simp] theorem fin_ite (n x : Nat) (c : Prop) [Decidable c] (a b : SR) : fin n x (if c then a else b) = if c then fin n x a else fin n x b := by split <;> rfl
@[simp] theorem okRes_cell (n k : Nat) : okRes n (.cell k) = decide (k < n) := rfl
@[simp] theorem okRes_non (n : Nat) : okRes n .non = true := rfl
@[simp] theorem okRes_bl (n : Nat) (b : Bool) : okRes n (.bl b) = true := rfl
@[simp] theorem okRes_int (n : Nat) (b : Int) : okRes n (.int b) = true := rfl
@[simp] theorem okRes_str (n : Nat) (b : Str) : okRes n (.str b) = true := rfl
@[simp] theorem okRes_tup (n : Nat) (b : List D) : okRes n (.tup b) = pures b := rfl
@[simp] theorem okRes_lst (n : Nat) (b : List D) : okRes n (.lst b) = pures b := rfl
@[simp] theorem okRes_ins (n : Nat) (c : Str) (b : List (Str × D)) : okRes n (.ins c b) = pureFs b := rfl
@[simp] theorem pure_int (b : Int) : (D.int b).pure = true := rfl
@[simp] theorem pure_str (b : Str) : (D.str b).pure = true := rfl
@[simp] theorem pure_bl (b : Bool) : (D.bl b).pure = true := rfl
@[simp] theorem pure_non : (D.non).pure = true := rfl
@[simp] theorem pure_tup (b : List D) : (D.tup b).pure = pures b := rfl
@[simp] theorem pure_lst (b : List D) : (D.lst b).pure = pures b := rfl
@[simp] theorem pure_ins (c : Str) (b : List (Str × D)) : (D.ins c b).pure = pureFs b := rfl
@[simp] theorem pures_nil : pures [] = true := rfl
@[simp] theorem pures_cons (d : D) (ds : List D) : pures (d :: ds) = (d.pure && pures ds) := rfl
@[simp] theorem pureFs_nil : pureFs [] = true := rfl
@[simp] theorem pureFs_cons (x : Str) (d : D) (ds : List (Str × D)) : pureFs ((x, d) :: ds) = (d.pure && pureFs ds) := rfl
theorem pures_iff : ∀ {l : List D}, pures l = true ↔ ∀ d ∈ l, d.pure = true
  | [] => by simp
  | d :: ds => by simp [pures_iff (l := ds)]
@[simp] theorem pures_app (a b : List D) : pures (a ++ b) = (pures a && pures b) := by
  induction a with
  | nil => simp
  | cons x a ih => simp [ih, Bool.and_assoc]
@[simp] theorem pures_ints (l : List Int) : pures (l.map .int) = true := by
  induction l with
  | nil => rfl
  | cons x l ih => simp [ih]
@[simp] theorem pures_strs (l : List Str) : pures (l.map .str) = true := by
  induction l with
  | nil => rfl
  | cons x l ih => simp [ih]
theorem pures_map {α : Type} {f : α → D} (h : ∀ a, (f a).pure = true) (l : List α) : pures (l.map f) = true := by
  induction l with
  | nil => rfl
  | cons x l ih => simp [ih, h]
@[simp] theorem forL_nil (T : Tg) (mb : MS) (env : Env) (S : Sto) : forL T mb [] env S = .nx env S := rfl
theorem forL_cons (T : Tg) (mb : MS) (d : D) (ds : List D) (env : Env) (S : Sto) : forL T mb (d :: ds) env S = match T.put d env with
    | none => .bad
    | some env' => match mb env' S with
      | .nx e s => forL T mb ds e s
      | .ct e s => forL T mb ds e s
      | .bk e s => .nx e s
      | r => r := by
  rw [forL] <;> rfl
@[simp] theorem lcL_nil (T : Tg) (mt : Env → M Bool) (me : Env → M D) (env : Env) (S : Sto) : lcL T mt me env [] S = .ok [] S := rfl
theorem lcL_cons (T : Tg) (mt : Env → M Bool) (me : Env → M D) (env : Env) (d : D) (ds : List D) (S : Sto) : lcL T mt me env (d :: ds) S = match T.put d env with
    | none => .bad
    | some env' => (noex (mt env' S)).bind fun b S1 => if b = true then (noex (me env' S1)).bind fun y S2 => (lcL T mt me env ds S2).bind fun ys S3 => .ok (y :: ys) S3 else lcL T mt me env ds S1 := rfl
@[simp] theorem put_one (i : Nat) (d : D) (env : Env) : (Tg.one i).put d env = some (env.set i (some d)) := rfl
@[simp] theorem put_tup (is : List Nat) (ds : List D) (env : Env) : (Tg.tup is).put (.tup ds) env = putAll is ds env := rfl
@[simp] theorem putAll_nil (env : Env) : putAll [] [] env = some env := rfl
@[simp] theorem putAll_cons (i : Nat) (is : List Nat) (d : D) (ds : List D) (env : Env) : putAll (i :: is) (d :: ds) env = putAll is ds (env.set i (some d)) := rfl
@[simp] theorem wipe_nil (env : Env) : wipeE env [] = env := rfl
@[simp] theorem wipe_cons (env : Env) (v : Nat) (vs : List Nat) : wipeE env (v :: vs) = (wipeE env vs).set v none := rfl
@[simp] theorem mkLst'_s (ds : List D) (S : Sto) : mkLst' ds S = if ds.length ≤ szL then .ok (.lst ds) S else .bad := rfl
@[simp] theorem szL_val : szL = 16777216 := rfl
/-- a comprehension without a test -/
theorem lcL_map {T : Tg} {me : Env → M D} {env : Env} {g : D → D} {S : Sto} : ∀ {ds : List D}, (∀ d ∈ ds, ∃ env', T.put d env = some env' ∧ me env' S = .ok (g d) S) → lcL T mYes me env ds S = .ok (ds.map g) S
  | [], _ => rfl
  | d :: ds, h => by
    obtain ⟨e, h1, h2⟩ := h d List.mem_cons_self
    rw [lcL_cons, h1]
    simp [h2, lcL_map (ds := ds) fun d hd => h d (List.mem_cons_of_mem _ hd)]
theorem lcL_filter {T : Tg} {mt : Env → M Bool} {me : Env → M D} {env : Env} {g : D → D} {p : D → Bool} {S : Sto} : ∀ {ds : List D}, (∀ d ∈ ds, ∃ env', T.put d env = some env' ∧ mt env' S = .ok (p d) S ∧ me env' S = .ok (g d) S) → lcL T mt me env ds S = .ok ((ds.filter p).map g) S
  | [], _ => rfl
  | d :: ds, h => by
    obtain ⟨e, h1, h2, h3⟩ := h d List.mem_cons_self
    have ih := lcL_filter (ds := ds) fun d hd => h d (List.mem_cons_of_mem _ hd)
    rw [lcL_cons, h1]
    cases hp : p d <;> simp [h2, h3, ih, hp]
@[simp] theorem itemsD_tup (xs : List D) (S : Sto) : itemsD (.tup xs) S = some xs := rfl
@[simp] theorem itemsD_lst (xs : List D) (S : Sto) : itemsD (.lst xs) S = some xs := rfl
@[simp] theorem itemsD_lsc (xs : List D) (S : Sto) : itemsD (.lsc xs) S = some xs := rfl
@[simp] theorem listD_lst (xs : List D) (S : Sto) : listD (.lst xs) S = some xs := rfl
@[simp] theorem listD_lsc (xs : List D) (S : Sto) : listD (.lsc xs) S = some xs := rfl
theorem itemsD_cell (k : Nat) (S : Sto) : itemsD (.cell k) S = match S[k]? with
  | some (.lst xs) => some xs
  | some (.frz xs) => some xs
  | _ => none := rfl
theorem listD_cell (k : Nat) (S : Sto) : listD (.cell k) S = match S[k]? with
  | some (.lst xs) => some xs
  | some (.frz xs) => some xs
  | _ => none := rfl
@[simp] theorem intsOf_ints : ∀ l : List Int, intsOf (l.map .int) = some l
  | [] => rfl
  | i :: l => by simp [intsOf, intsOf_ints l]
@[simp] theorem blsOf_bls : ∀ l : List Bool, blsOf (l.map .bl) = some l
  | [] => rfl
  | i :: l => by simp [blsOf, blsOf_bls l]
@[simp] theorem strsOf_strs : ∀ l : List Str, strsOf (l.map .str) = some l
  | [] => rfl
  | i :: l => by simp [strsOf, strsOf_strs l]
end Gn
namespace Gn
open PySem PySem.Spec PyProof.Rows L2
/-! ### ranges, own lengths: not by simp (the powers) -/
theorem rng1_ok {ml : Env → M (List D)} {env : Env} {S S1 : Sto} {j : Int} (h : ml env S = .ok [.int j] S1) (h2 : smallR j = true) : mRng1 ml env S = .ok (rangeD 0 j) S1 := by
  unfold mRng1
  rw [h, bind_ok]
  show (if smallR j = true then _ else _) = _
  rw [h2]
  rfl
theorem rng2_ok {ml : Env → M (List D)} {env : Env} {S S1 : Sto} {i j : Int} (h : ml env S = .ok [.int i, .int j] S1) (h1 : smallR i = true) (h2 : smallR j = true) : mRng2 ml env S = .ok (rangeD i j) S1 := by
  unfold mRng2
  rw [h, bind_ok]
  show (if (smallR i && smallR j) = true then _ else _) = _
  rw [h1, h2]
  rfl
theorem smallR_ok {j : Int} (h : -1000000000 ≤ j) (k : j ≤ 1000000000) : smallR j = true := by simp only [smallR, decide_eq_true_eq]; omega
theorem lenOwn_ok {c : Str} {fm : List D → M D} {ml : Env → M (List D)} {env : Env} {S S1 S2 : Sto} {d : D} {fs : List (Str × D)} {n : Nat} (h : ml env S = .ok [d] S1) (hf : fieldsD c d S1 = some fs) (e : fm [d] S1 = .ok (.int (n : Nat)) S2) (hn : n ≤ 1000000000) : mLenOwn c fm ml env S = .ok (.int (n : Nat)) S2 := by
  unfold mLenOwn
  rw [h, bind_ok]
  dsimp only
  rw [hf]
  dsimp only
  rw [e, bind_ok]
  dsimp only
  rw [if_pos ⟨by omega, by omega⟩]
/-! ### operators on data -/
@[simp] theorem tyN_int (i : Int) : tyN (.int i) = some "int" := rfl
@[simp] theorem tyN_str (i : Str) : tyN (.str i) = some "str" := rfl
@[simp] theorem tyN_bl (i : Bool) : tyN (.bl i) = some "bool" := rfl
@[simp] theorem tyN_tup (i : List D) : tyN (.tup i) = some "tuple" := rfl
@[simp] theorem tyN_lst (i : List D) : tyN (.lst i) = some "list" := rfl
@[simp] theorem tyN_non : tyN .non = some "NoneType" := rfl
@[simp] theorem kit_ii : kitB "int" "int" = some true := by decide +kernel
@[simp] theorem kit_ib : kitB "int" "bool" = some false := by decide +kernel
@[simp] theorem kit_ss : kitB "str" "str" = some true := by decide +kernel
@[simp] theorem kit_tt : kitB "tuple" "tuple" = some true := by decide +kernel
theorem eqv_str (a b : Str) : PyData.eqv (.str a) (.str b) = decide (a = b) := by
  unfold PyData.eqv; rfl
theorem eqv_int (a b : Int) : PyData.eqv (.int a) (.int b) = decide (a = b) := by
  unfold PyData.eqv; rfl
open PyData in
theorem shaped_int (a : Int) : SeqAt.shaped (.int a) = true := by
  simp [SeqAt.shaped, canLay0, depth]
theorem shaped_str {a : Str} (h : PyData.strOk a = true) : SeqAt.shaped (.str a) = true := by
  simp [SeqAt.shaped, PyData.canLay0, PyData.depth, h]
@[simp] theorem eqD?_str {a b : Str} (ha : PyData.strOk a = true) (hb : PyData.strOk b = true) : eqD? (.str a) (.str b) = some (decide (a = b)) := by
  simp [eqD?, toPy, shaped_str ha, shaped_str hb, eqv_str]
@[simp] theorem eqD?_int (a b : Int) : eqD? (.int a) (.int b) = some (decide (a = b)) := by
  simp [eqD?, toPy, shaped_int, eqv_int]
theorem toPys_ints : ∀ l : List Int, toPys (l.map .int) = some (l.map .int)
  | [] => rfl
  | i :: l => by simp [toPys, toPy, toPys_ints l]
theorem lay_ints : ∀ l : List Int, PyData.canLayAll0 (l.map .int) = true
  | [] => by simp [PyData.canLayAll0]
  | i :: l => by simp [PyData.canLayAll0, PyData.canLay0, lay_ints l]
theorem dep_ints : ∀ l : List Int, PyData.depthAll (l.map .int) = 0
  | [] => by simp [PyData.depthAll]
  | i :: l => by simp [PyData.depthAll, PyData.depth, dep_ints l]
theorem eqvAll_ints : ∀ l m : List Int, PyData.eqvAll (l.map .int) (m.map .int) = decide (l = m)
  | [], [] => by simp [PyData.eqvAll]
  | [], _ :: _ => by simp [PyData.eqvAll]
  | _ :: _, [] => by simp [PyData.eqvAll]
  | i :: l, j :: m => by simp [PyData.eqvAll, eqv_int, eqvAll_ints l m]
theorem shaped_tints (l : List Int) : SeqAt.shaped (.tuple (l.map .int)) = true := by
  simp [SeqAt.shaped, PyData.canLay0, PyData.depth, lay_ints, dep_ints]
theorem shaped_lints (l : List Int) : SeqAt.shaped (.list (l.map .int)) = true := by
  simp [SeqAt.shaped, PyData.canLay0, PyData.depth, lay_ints, dep_ints]
@[simp] theorem eqD?_ints (l m : List Int) : eqD? (.tup (l.map .int)) (.tup (m.map .int)) = some (decide (l = m)) := by
  simp [eqD?, toPy, toPys_ints, shaped_tints, PyData.eqv, eqvAll_ints]
@[simp] theorem eqD?_lints (l m : List Int) : eqD? (.lst (l.map .int)) (.lst (m.map .int)) = some (decide (l = m)) := by
  simp [eqD?, toPy, toPys_ints, shaped_lints, PyData.eqv, eqvAll_ints]
/-- an empty tuple, an empty list -/
theorem eqD?_tnil (l : List Int) : eqD? (.tup (l.map .int)) (.tup []) = some (decide (l = [])) := eqD?_ints l []
@[simp] theorem inD2 (neg : Bool) (a b c : Str) (S : Sto) : inDD neg (.str a) (.lst [.str b, .str c]) S = .ok (.bl (if neg then !decide (a = b ∨ a = c) else decide (a = b ∨ a = c))) S := by
  have e : inV (.str a) [.str b, .str c] = decide (a = b ∨ a = c) := by
    have f1 : (b == a) = decide (a = b) := by rw [Bool.beq_comm]; rfl
    have f2 : (c == a) = decide (a = c) := by rw [Bool.beq_comm]; rfl
    simp [inV, eqV, f1, f2]
  simp [inDD, inD?, flatOf, flatsOf, e]
@[simp] theorem inD2t (neg : Bool) (a b c : Str) (S : Sto) : inDD neg (.str a) (.tup [.str b, .str c]) S = .ok (.bl (if neg then !decide (a = b ∨ a = c) else decide (a = b ∨ a = c))) S := inD2 neg a b c S
@[simp] theorem inD2i (neg : Bool) (a b c : Int) (S : Sto) : inDD neg (.int a) (.tup [.int b, .int c]) S = .ok (.bl (if neg then !decide (a = b ∨ a = c) else decide (a = b ∨ a = c))) S := by
  have e : inV (.int a) [.int b, .int c] = decide (a = b ∨ a = c) := by
    have f1 : (b == a) = decide (a = b) := by rw [Bool.beq_comm]; rfl
    have f2 : (c == a) = decide (a = c) := by rw [Bool.beq_comm]; rfl
    simp [inV, eqV, f1, f2]
  simp [inDD, inD?, flatOf, flatsOf, e]
theorem flats_ints : ∀ l : List Int, flatsOf (l.map .int) = some (l.map .int)
  | [] => rfl
  | i :: l => by simp [flatsOf, flatOf, flats_ints l]
@[simp] theorem inNon (neg : Bool) (l : List Int) (S : Sto) : inDD neg .non (.tup (l.map .int)) S = .ok (.bl neg) S := by
  have e : inV .non (l.map .int) = false := by
    induction l with
    | nil => rfl
    | cons x l ih =>
      simp only [inV, List.map_cons, List.any_cons] at ih ⊢
      rw [ih]; rfl
  cases neg <;> simp [inDD, inD?, flatOf, flats_ints, e]
@[simp] theorem add_int (i j : Int) (S : Sto) : addD (.int i) (.int j) S = .ok (.int (i + j)) S := rfl
theorem add_str {a b : Str} (h : a.length + b.length ≤ 16777216) (S : Sto) : addD (.str a) (.str b) S = .ok (.str (a ++ b)) S := if_pos h
@[simp] theorem add_str_if (a b : Str) (S : Sto) : addD (.str a) (.str b) S = if a.length + b.length ≤ 16777216 then .ok (.str (a ++ b)) S else .bad := rfl
@[simp] theorem slen_app (a b : Str) : (a ++ b).length = a.length + b.length := Str.length_append a b
theorem add_lst {a b : List D} (h : a.length + b.length ≤ 16777216) (S : Sto) : addD (.lst a) (.lst b) S = .ok (.lst (a ++ b)) S := if_pos h
theorem add_tup {a b : List D} (h : a.length + b.length ≤ 16777216) (S : Sto) : addD (.tup a) (.tup b) S = .ok (.tup (a ++ b)) S := if_pos h
@[simp] theorem sub_int (i j : Int) (S : Sto) : subD (.int i) (.int j) S = .ok (.int (i - j)) S := rfl
theorem mulI_ok {i j : Int} (h : (smallI i || smallI j) = true) (S : Sto) : mulD (.int i) (.int j) S = .ok (.int (i * j)) S := if_pos h
@[simp] theorem len_tup (a : List D) (S : Sto) : lenD [.tup a] S = .ok (.int (a.length : Int)) S := rfl
@[simp] theorem len_lst (a : List D) (S : Sto) : lenD [.lst a] S = .ok (.int (a.length : Int)) S := rfl
@[simp] theorem len_lsc (a : List D) (S : Sto) : lenD [.lsc a] S = .ok (.int (a.length : Int)) S := rfl
theorem len_str {a : Str} (h : a.length ≤ 16777216) (S : Sto) : lenD [.str a] S = .ok (.int (a.length : Int)) S := if_pos h
theorem atI_nat {α : Type} (xs : List α) (i : Nat) : atI xs (i : Int) = xs[i]? := by
  unfold atI ixN
  by_cases h : i < xs.length
  · simp [h]
  · simp [h]
theorem ix_tup {a : List D} {i : Int} {d : D} (h : atI a i = some d) (S : Sto) : ixD (.tup a) (.int i) S = .ok d S := by
  simp [ixD, h]
theorem ix_lst {a : List D} {i : Int} {d : D} (h : atI a i = some d) (S : Sto) : ixD (.lst a) (.int i) S = .ok d S := by
  simp [ixD, h]
theorem ix_lsc {a : List D} {i : Int} {d : D} (h : atI a i = some d) (S : Sto) : ixD (.lsc a) (.int i) S = .ok d S := by
  simp [ixD, h]
theorem ix_cell {k : Nat} {i : Int} {d : D} {a : List D} {S : Sto} (hk : S[k]? = some (.lst a)) (h : atI a i = some d) : ixD (.cell k) (.int i) S = .ok d S := by
  simp [ixD, itemsD, hk, h]
@[simp] theorem ix_t0 (a : D) (l : List D) (S : Sto) : ixD (.tup (a :: l)) (.int 0) S = .ok a S := ix_tup (by rw [show (0 : Int) = ((0 : Nat) : Int) from rfl, atI_nat]; rfl) S
@[simp] theorem ix_t1 (a b : D) (l : List D) (S : Sto) : ixD (.tup (a :: b :: l)) (.int 1) S = .ok b S := ix_tup (by rw [show (1 : Int) = ((1 : Nat) : Int) from rfl, atI_nat]; rfl) S
@[simp] theorem ix_t2 (a b c : D) (l : List D) (S : Sto) : ixD (.tup (a :: b :: c :: l)) (.int 2) S = .ok c S := ix_tup (by rw [show (2 : Int) = ((2 : Nat) : Int) from rfl, atI_nat]; rfl) S
@[simp] theorem ix_t3 (a b c d : D) (l : List D) (S : Sto) : ixD (.tup (a :: b :: c :: d :: l)) (.int 3) S = .ok d S := ix_tup (by rw [show (3 : Int) = ((3 : Nat) : Int) from rfl, atI_nat]; rfl) S
@[simp] theorem ix_l0 (a : D) (l : List D) (S : Sto) : ixD (.lst (a :: l)) (.int 0) S = .ok a S := ix_lst (by rw [show (0 : Int) = ((0 : Nat) : Int) from rfl, atI_nat]; rfl) S
@[simp] theorem ix_l1 (a b : D) (l : List D) (S : Sto) : ixD (.lst (a :: b :: l)) (.int 1) S = .ok b S := ix_lst (by rw [show (1 : Int) = ((1 : Nat) : Int) from rfl, atI_nat]; rfl) S
@[simp] theorem ix_l2 (a b c : D) (l : List D) (S : Sto) : ixD (.lst (a :: b :: c :: l)) (.int 2) S = .ok c S := ix_lst (by rw [show (2 : Int) = ((2 : Nat) : Int) from rfl, atI_nat]; rfl) S
@[simp] theorem ix_l3 (a b c d : D) (l : List D) (S : Sto) : ixD (.lst (a :: b :: c :: d :: l)) (.int 3) S = .ok d S := ix_lst (by rw [show (3 : Int) = ((3 : Nat) : Int) from rfl, atI_nat]; rfl) S
@[simp] theorem sl_lst (a : List D) (lo hi : Option Int) (S : Sto) : slD (.lst a) lo hi S = .ok (.lst (cutL a lo hi)) S := rfl
@[simp] theorem sl_tup (a : List D) (lo hi : Option Int) (S : Sto) : slD (.tup a) lo hi S = .ok (.tup (cutL a lo hi)) S := rfl
theorem cut_to {α : Type} (xs : List α) (k : Nat) : cutL xs none (some (k : Int)) = xs.take k := by
  unfold cutL
  rw [HT.sIx_none, HT.sIx_nat, Nat.sub_zero, List.drop_zero, List.take_eq_take_iff]
  omega
theorem cut_from {α : Type} (xs : List α) (k : Nat) : cutL xs (some (k : Int)) none = xs.drop k := by
  unfold cutL
  rw [HT.sIx_none, HT.sIx_nat]
  by_cases h : k ≤ xs.length
  · rw [Nat.min_eq_left h, List.take_of_length_le (by simp)]
  · rw [Nat.min_eq_right (by omega), List.drop_of_length_le (Nat.le_refl _), List.drop_of_length_le (by omega)]; simp
theorem cut_mid {α : Type} (xs : List α) (j k : Nat) : cutL xs (some (j : Int)) (some (k : Int)) = (xs.drop j).take (k - j) := by
  unfold cutL
  rw [HT.sIx_nat, HT.sIx_nat]
  by_cases h : j ≤ xs.length
  · rw [Nat.min_eq_left h, List.take_eq_take_iff, List.length_drop]
    omega
  · rw [List.drop_of_length_le (show xs.length ≤ min j xs.length by omega), List.drop_of_length_le (show xs.length ≤ j by omega)]; simp
@[simp] theorem cut_to2 {α : Type} (xs : List α) : cutL xs none (some 2) = xs.take 2 := cut_to xs 2
@[simp] theorem cut_to4 {α : Type} (xs : List α) : cutL xs none (some 4) = xs.take 4 := cut_to xs 4
@[simp] theorem cut_to3 {α : Type} (xs : List α) : cutL xs none (some 3) = xs.take 3 := cut_to xs 3
@[simp] theorem cut_from1 {α : Type} (xs : List α) : cutL xs (some 1) none = xs.drop 1 := cut_from xs 1
@[simp] theorem cut_from4 {α : Type} (xs : List α) : cutL xs (some 4) none = xs.drop 4 := cut_from xs 4
@[simp] theorem cut_13 {α : Type} (xs : List α) : cutL xs (some 1) (some 3) = (xs.drop 1).take 2 := cut_mid xs 1 3
@[simp] theorem cut_last {α : Type} (xs : List α) : cutL xs none (some (-1)) = xs.dropLast := by
  unfold cutL HT.sIx
  simp only [Nat.sub_zero, List.drop_zero]
  rw [if_pos (by omega), List.dropLast_eq_take]
  congr 1
  omega
@[simp] theorem eqD?_ss {a b c d : Str} (ha : PyData.strOk a = true) (hb : PyData.strOk b = true) (hc : PyData.strOk c = true) (hd : PyData.strOk d = true) : eqD? (.lst [.str a, .str b]) (.lst [.str c, .str d]) = some (decide (a = c ∧ b = d)) := by
  simp [eqD?, toPy, toPys, SeqAt.shaped, PyData.canLay0, PyData.canLayAll0, PyData.depth, PyData.depthAll, ha, hb, hc, hd, PyData.eqv, PyData.eqvAll, eqv_str]
  rfl
@[simp] theorem max_if (i j : Int) : (if i < j then j else i) = max i j := by omega
@[simp] theorem min_if (i j : Int) : (if j < i then j else i) = min i j := by omega
@[simp] theorem maxD2 (i j : Int) (S : Sto) : maxD [.int i, .int j] S = .ok (.int (max i j)) S := by simp [maxD]
@[simp] theorem minD2 (i j : Int) (S : Sto) : minD [.int i, .int j] S = .ok (.int (min i j)) S := by simp [minD]
end Gn

/-! M2: what the program's functions compute: first ones. -/
namespace K51
open PySem PySem.Spec PyProof.Rows L2 Gn
@[simp] theorem is_integer_int (i : Int) (S : Sto) : f_is_integer [.int i] S = .ok (.bl true) S := by
  simp [f_is_integer, b_is_integer]
theorem is_between_int (i a b : Int) (S : Sto) : f_is_between [.int i, .int a, .int b] S = .ok (.bl (decide (a ≤ i ∧ i ≤ b))) S := by
  simp [f_is_between, b_is_between]
  by_cases h : a ≤ i <;> simp [h]
def spots : List Int := (List.range 199).map fun n : Nat => (n : Int) - 99
theorem mem_spots {p : Int} (h : -99 ≤ p) (k : p ≤ 99) : p ∈ spots := by
  refine List.mem_map.mpr ⟨(p + 99).toNat, List.mem_range.mpr (by omega), by omega⟩
def numS (p : Int) : Str := toString p
theorem strD_ok {p : Int} (h : -99 ≤ p) (k : p ≤ 99) (S : Sto) : strD [.int p] S = .ok (.str (numS p)) S := by
  have h2 : (spots.all fun p => decide (p.natAbs.log2 < 1920)) = true := by decide +kernel
  have h3 := of_decide_eq_true (List.all_eq_true.mp h2 p (mem_spots h k))
  show (if p.natAbs.log2 < 1920 then _ else _) = _
  rw [if_pos h3]; rfl
theorem num_tab (S : Sto) : spots.map (fun p => f_number_in [.str (numS p)] S) = spots.map (fun p => .ok (.int p) (S.take S.length)) := by kernel_rfl
theorem number_in_ok {p : Int} (h : -99 ≤ p) (k : p ≤ 99) (S : Sto) : f_number_in [.str (numS p)] S = .ok (.int p) S := by
  have e := List.map_inj_left.mp (num_tab S) p (mem_spots h k)
  rw [e, List.take_length]
theorem bounded_ok {p a b : Int} (h : -99 ≤ p) (k : p ≤ 99) (ha : a ≤ p) (hb : p ≤ b) (S : Sto) : f_bounded [.str (numS p), .int a, .int b] S = .ok (.int p) S := by
  simp [f_bounded, b_bounded, number_in_ok h k, isNonD, ha, hb]
/-! ### moves -/
inductive Step where
  | left (r p : Int) | right (r p : Int) | on (l : Bool) (p : Int) | off (l : Bool) | carry (p : Int)
  deriving DecidableEq
def sideS (l : Bool) : Str := if l then "left" else "right"
def stD : Step → D
  | .left r p => .tup [.str "left", .int r, .int p]
  | .right r p => .tup [.str "right", .int r, .int p]
  | .on l p => .tup [.str "on", .str (sideS l), .int p]
  | .off l => .tup [.str "off", .str (sideS l), .int 0]
  | .carry p => .tup [.str "carry", .str "", .int p]
def Step.ok : Step → Prop
  | .left r p => 1 ≤ r ∧ r ≤ 5 ∧ -99 ≤ p ∧ p ≤ 99
  | .right r p => 1 ≤ r ∧ r ≤ 5 ∧ -99 ≤ p ∧ p ≤ 99
  | .on _ p => -99 ≤ p ∧ p ≤ 99
  | .off _ => True
  | .carry p => -99 ≤ p ∧ p ≤ 99
def wordsOf : Step → List Str
  | .left r p => ["left", numS r, "to", numS p]
  | .right r p => ["right", numS r, "to", numS p]
  | .on l p => ["on", sideS l, numS p]
  | .off l => ["off", sideS l]
  | .carry p => ["carry", numS p]
def lineS (s : Step) : Str := Txt.join " " (wordsOf s)
def goodW (w : Str) : Bool := PyData.strOk w && (decide (w.length ≤ 6) && (decide (32 ∉ TL.tl w) && decide (10 ∉ TL.tl w)))
theorem good_tab : (spots.all fun p => goodW (numS p)) = true := by decide +kernel
theorem good_num {p : Int} (h : -99 ≤ p) (k : p ≤ 99) : goodW (numS p) = true := List.all_eq_true.mp good_tab p (mem_spots h k)
theorem good_side (l : Bool) : goodW (sideS l) = true := by cases l <;> decide +kernel
theorem good_words {s : Step} (h : s.ok) : ∀ w ∈ wordsOf s, goodW w = true := by
  cases s with
  | left r p =>
    have h' : 1 ≤ r ∧ r ≤ 5 ∧ -99 ≤ p ∧ p ≤ 99 := h
    simp only [wordsOf, List.mem_cons, List.not_mem_nil, or_false, forall_eq_or_imp, forall_eq]
    exact ⟨by decide +kernel, good_num (by omega) (by omega), by decide +kernel, good_num (by omega) (by omega)⟩
  | right r p =>
    have h' : 1 ≤ r ∧ r ≤ 5 ∧ -99 ≤ p ∧ p ≤ 99 := h
    simp only [wordsOf, List.mem_cons, List.not_mem_nil, or_false, forall_eq_or_imp, forall_eq]
    exact ⟨by decide +kernel, good_num (by omega) (by omega), by decide +kernel, good_num (by omega) (by omega)⟩
  | on l p =>
    have h' : -99 ≤ p ∧ p ≤ 99 := h
    simp only [wordsOf, List.mem_cons, List.not_mem_nil, or_false, forall_eq_or_imp, forall_eq]
    exact ⟨by decide +kernel, good_side l, good_num (by omega) (by omega)⟩
  | off l =>
    simp only [wordsOf, List.mem_cons, List.not_mem_nil, or_false, forall_eq_or_imp, forall_eq]
    exact ⟨by decide +kernel, good_side l⟩
  | carry p =>
    have h' : -99 ≤ p ∧ p ≤ 99 := h
    simp only [wordsOf, List.mem_cons, List.not_mem_nil, or_false, forall_eq_or_imp, forall_eq]
    exact ⟨by decide +kernel, good_num (by omega) (by omega)⟩
theorem goodW_iff {w : Str} (h : goodW w = true) : PyData.strOk w = true ∧ w.length ≤ 6 ∧ 32 ∉ TL.tl w ∧ 10 ∉ TL.tl w := by
  simpa [goodW] using h
theorem words_ne (s : Step) : wordsOf s ≠ [] := by cases s <;> simp [wordsOf]
theorem split_line {s : Step} (h : s.ok) : Txt.split (lineS s) " " = wordsOf s :=
  TL.split_join (s := 32) (S := []) (by decide +kernel) (by decide +kernel) (words_ne s) fun p hp => (goodW_iff (good_words h p hp)).2.2.1
theorem tl_line (s : Step) : TL.tl (lineS s) = TL.joinL [32] ((wordsOf s).map TL.tl) := by
  unfold lineS
  rw [TL.join_eq, TL.tl_join]
  rfl
theorem joinL_len : ∀ {l : List (List Nat)}, (∀ w ∈ l, w.length ≤ 6) → (TL.joinL [32] l).length ≤ 7 * l.length
  | [], _ => by simp [TL.joinL]
  | [p], h => by
    have := h p (by simp)
    simp [TL.joinL]; omega
  | p :: q :: r, h => by
    have h1 := h p (by simp)
    have h2 := joinL_len (l := q :: r) fun w hw => h w (List.mem_cons_of_mem _ hw)
    simp only [TL.joinL, List.length_append, List.length_cons, List.length_nil] at h2 ⊢
    omega
theorem joinL_free {c : Nat} (hc : c ≠ 32) : ∀ {l : List (List Nat)}, (∀ w ∈ l, c ∉ w) → c ∉ TL.joinL [32] l
  | [], _ => by simp [TL.joinL]
  | [p], h => by simpa [TL.joinL] using h p (by simp)
  | p :: q :: r, h => by
    have h1 := h p (by simp)
    have h2 := joinL_free hc (l := q :: r) fun w hw => h w (List.mem_cons_of_mem _ hw)
    simp only [TL.joinL, List.mem_append, List.mem_singleton, not_or]
    exact ⟨h1, hc, h2⟩
theorem words_le (s : Step) : (wordsOf s).length ≤ 4 := by cases s <;> simp [wordsOf]
theorem line_len {s : Step} (h : s.ok) : (lineS s).length ≤ 28 := by
  rw [TL.len_tl, tl_line]
  have := joinL_len (l := (wordsOf s).map TL.tl) fun w hw => by
    obtain ⟨v, hv, rfl⟩ := List.mem_map.mp hw
    rw [← TL.len_tl]
    exact (goodW_iff (good_words h v hv)).2.1
  have h2 := words_le s
  rw [List.length_map] at this
  omega
theorem line_free {s : Step} (h : s.ok) : 10 ∉ TL.tl (lineS s) := by
  rw [tl_line]
  refine joinL_free (by decide) fun w hw => ?_
  obtain ⟨v, hv, rfl⟩ := List.mem_map.mp hw
  exact (goodW_iff (good_words h v hv)).2.2.2
theorem ok_num {p : Int} (h : -99 ≤ p) (k : p ≤ 99) : PyData.strOk (numS p) = true := (goodW_iff (good_num h k)).1
theorem len_num {p : Int} (h : -99 ≤ p) (k : p ≤ 99) : (numS p).length ≤ 6 := (goodW_iff (good_num h k)).2.1
theorem ok_side (l : Bool) : PyData.strOk (sideS l) = true := (goodW_iff (good_side l)).1
@[simp] theorem ok_left : PyData.strOk "left" = true := by decide +kernel
@[simp] theorem n_left : Str.length "left" = 4 := by decide +kernel
@[simp] theorem ok_right : PyData.strOk "right" = true := by decide +kernel
@[simp] theorem n_right : Str.length "right" = 5 := by decide +kernel
@[simp] theorem ok_on : PyData.strOk "on" = true := by decide +kernel
@[simp] theorem n_on : Str.length "on" = 2 := by decide +kernel
@[simp] theorem ok_off : PyData.strOk "off" = true := by decide +kernel
@[simp] theorem n_off : Str.length "off" = 3 := by decide +kernel
@[simp] theorem ok_carry : PyData.strOk "carry" = true := by decide +kernel
@[simp] theorem n_carry : Str.length "carry" = 5 := by decide +kernel
@[simp] theorem ok_to : PyData.strOk "to" = true := by decide +kernel
@[simp] theorem n_to : Str.length "to" = 2 := by decide +kernel
@[simp] theorem ok_some : PyData.strOk "some" = true := by decide +kernel
@[simp] theorem n_some : Str.length "some" = 4 := by decide +kernel
@[simp] theorem ok_cloth : PyData.strOk "cloth" = true := by decide +kernel
@[simp] theorem n_cloth : Str.length "cloth" = 5 := by decide +kernel
@[simp] theorem ok_from : PyData.strOk "from" = true := by decide +kernel
@[simp] theorem n_from : Str.length "from" = 4 := by decide +kernel
@[simp] theorem ok_e : PyData.strOk "" = true := by decide +kernel
@[simp] theorem n_e : Str.length "" = 0 := by decide +kernel
@[simp] theorem ok_sp : PyData.strOk " " = true := by decide +kernel
@[simp] theorem n_sp : Str.length " " = 1 := by decide +kernel
@[simp] theorem ok_off_ : PyData.strOk "off " = true := by decide +kernel
@[simp] theorem n_off_ : Str.length "off " = 4 := by decide +kernel
@[simp] theorem ok_carry_ : PyData.strOk "carry " = true := by decide +kernel
@[simp] theorem n_carry_ : Str.length "carry " = 6 := by decide +kernel
@[simp] theorem ok__to_ : PyData.strOk " to " = true := by decide +kernel
@[simp] theorem n__to_ : Str.length " to " = 4 := by decide +kernel
@[simp] theorem ok_cloth_ : PyData.strOk "cloth " = true := by decide +kernel
@[simp] theorem n_cloth_ : Str.length "cloth " = 6 := by decide +kernel
@[simp] theorem ok__from_ : PyData.strOk " from " = true := by decide +kernel
@[simp] theorem n__from_ : Str.length " from " = 6 := by decide +kernel
@[simp] theorem ok_dash : PyData.strOk "-" = true := by decide +kernel
@[simp] theorem n_dash : Str.length "-" = 1 := by decide +kernel
@[simp] theorem ok_zero : PyData.strOk "0" = true := by decide +kernel
@[simp] theorem n_zero : Str.length "0" = 1 := by decide +kernel
theorem ext_res {a b : Str} (S : Sto) (e : TL.tl a = TL.tl b) : (Res.ok (D.str a) S) = .ok (.str b) S := by rw [TL.ext_tl e]
theorem tl_sp : TL.tl (Str.ofString " ") = [32] := by decide +kernel
theorem tl__to_ : TL.tl (Str.ofString " to ") = 32 :: (TL.tl (Str.ofString "to") ++ [32]) := by decide +kernel
theorem tl_off_ : TL.tl (Str.ofString "off ") = TL.tl (Str.ofString "off") ++ [32] := by decide +kernel
theorem tl_carry_ : TL.tl (Str.ofString "carry ") = TL.tl (Str.ofString "carry") ++ [32] := by decide +kernel
theorem ofs_left : (Str.ofString "left" = Str.ofString "right") = False := by decide +kernel
theorem law_line_ok {s : Step} (h : s.ok) (S : Sto) : f_law_line [stD s] S = .ok (.str (lineS s)) S := by
  cases s with
  | left r p =>
    have h' : 1 ≤ r ∧ r ≤ 5 ∧ -99 ≤ p ∧ p ≤ 99 := h
    have a1 := len_num (p := r) (by omega) (by omega)
    have a2 := len_num (p := p) (by omega) (by omega)
    simp (decide := true) [f_law_line, b_law_line, stD, strD_ok (p := r) (by omega) (by omega), strD_ok (p := p) (by omega) (by omega)]
    repeat rw [if_pos (by omega)]
    refine ext_res S ?_
    rw [tl_line]
    simp [wordsOf, TL.joinL, TL.tl_append, tl_sp, tl__to_]
  | right r p =>
    have h' : 1 ≤ r ∧ r ≤ 5 ∧ -99 ≤ p ∧ p ≤ 99 := h
    have a1 := len_num (p := r) (by omega) (by omega)
    have a2 := len_num (p := p) (by omega) (by omega)
    simp (decide := true) [f_law_line, b_law_line, stD, strD_ok (p := r) (by omega) (by omega), strD_ok (p := p) (by omega) (by omega)]
    repeat rw [if_pos (by omega)]
    refine ext_res S ?_
    rw [tl_line]
    simp [wordsOf, TL.joinL, TL.tl_append, tl_sp, tl__to_]
  | on l p =>
    have h' : -99 ≤ p ∧ p ≤ 99 := h
    have a1 := (goodW_iff (good_side l)).2.1
    have a2 := len_num (p := p) (by omega) (by omega)
    simp (decide := true) [f_law_line, b_law_line, stD, strD_ok (p := p) (by omega) (by omega)]
    repeat rw [if_pos (by omega)]
    refine ext_res S ?_
    rw [tl_line]
    simp [wordsOf, TL.joinL, TL.tl_append, tl_sp, tl__to_]
  | off l =>
    have a1 := (goodW_iff (good_side l)).2.1
    simp (decide := true) [f_law_line, b_law_line, stD]
    repeat rw [if_pos (by omega)]
    refine ext_res S ?_
    rw [tl_line]
    simp [wordsOf, TL.joinL, TL.tl_append, tl_off_]
  | carry p =>
    have h' : -99 ≤ p ∧ p ≤ 99 := h
    have a2 := len_num (p := p) (by omega) (by omega)
    simp (decide := true) [f_law_line, b_law_line, stD, strD_ok (p := p) (by omega) (by omega)]
    repeat rw [if_pos (by omega)]
    refine ext_res S ?_
    rw [tl_line]
    simp [wordsOf, TL.joinL, TL.tl_append, tl_carry_]
end K51

/-! M3: texts read back. -/
namespace K51
open PySem PySem.Spec PyProof.Rows L2 Gn
theorem move_in_ok {s : Step} (h : s.ok) (S : Sto) : f_move_in [.str (lineS s)] S = .ok (stD s) S := by
  have hl := line_len h
  have hs : ∀ S, splitD (lineS s) (.str " ") S = .ok (.lst ((wordsOf s).map .str)) S := fun S => by
    show (if _ then _ else _) = _
    rw [if_pos ⟨by decide +kernel, by rw [szL_val]; omega⟩, split_line h]
  cases s with
  | left r p =>
    have h' : 1 ≤ r ∧ r ≤ 5 ∧ -99 ≤ p ∧ p ≤ 99 := h
    simp (decide := true) [f_move_in, b_move_in, hs, wordsOf, bounded_ok (p := r) (a := 1) (b := 5) (by omega) (by omega) h'.1 h'.2.1, bounded_ok (p := p) (a := -99) (b := 99) (by omega) (by omega) (by omega) (by omega), stD, isNonD]
  | right r p =>
    have h' : 1 ≤ r ∧ r ≤ 5 ∧ -99 ≤ p ∧ p ≤ 99 := h
    simp (decide := true) [f_move_in, b_move_in, hs, wordsOf, bounded_ok (p := r) (a := 1) (b := 5) (by omega) (by omega) h'.1 h'.2.1, bounded_ok (p := p) (a := -99) (b := 99) (by omega) (by omega) (by omega) (by omega), stD, isNonD]
  | on l p =>
    have h' : -99 ≤ p ∧ p ≤ 99 := h
    cases l <;> simp (decide := true) [f_move_in, b_move_in, hs, wordsOf, sideS, bounded_ok (p := p) (a := -99) (b := 99) (by omega) (by omega) (by omega) (by omega), stD, isNonD]
  | off l =>
    cases l <;> simp (decide := true) [f_move_in, b_move_in, hs, wordsOf, sideS, stD, isNonD]
  | carry p =>
    have h' : -99 ≤ p ∧ p ≤ 99 := h
    simp (decide := true) [f_move_in, b_move_in, hs, wordsOf, bounded_ok (p := p) (a := -99) (b := 99) (by omega) (by omega) (by omega) (by omega), stD, isNonD]
end K51

/-! M4: cloths, scripts. -/
namespace K51
open PySem PySem.Spec PyProof.Rows L2 Gn
structure Cl where
  g : Int
  G : Int
  e : Option Int
def Cl.ints (c : Cl) : List Int := match c.e with
  | none => [c.g, c.G]
  | some e => [c.g, c.G, e]
def clD (c : Cl) : D := .tup (c.ints.map .int)
structure Cl.ok (c : Cl) : Prop where
  g : 1 ≤ c.g
  l : c.g < c.G
  G : c.G ≤ 9
  e : ∀ e, c.e = some e → -99 ≤ e ∧ e ≤ 99
theorem is_cloth_ok {c : Cl} (h : c.ok) (S : Sto) : f_is_cloth [clD c] S = .ok (.bl true) S := by
  obtain ⟨g, G, e⟩ := c
  obtain ⟨h1, h2, h3, h4⟩ := h
  cases e with
  | none =>
    simp at h1 h2 h3
    simp (decide := true) [f_is_cloth, b_is_cloth, clD, Cl.ints, lcL_cons, allD, listD, blsOf, h1, h2, h3]
  | some e =>
    have h5 := h4 e rfl
    simp at h1 h2 h3
    simp (decide := true) [f_is_cloth, b_is_cloth, clD, Cl.ints, lcL_cons, allD, listD, blsOf, h1, h2, h3, h5.1, h5.2]
def cwords (c : Cl) : List Str := match c.e with
  | none => ["cloth", numS c.g, numS c.G]
  | some e => ["cloth", numS c.g, numS c.G, "from", numS e]
def headS (c : Cl) : Str := Txt.join " " (cwords c)
theorem good_cwords {c : Cl} (h : c.ok) : ∀ w ∈ cwords c, goodW w = true := by
  obtain ⟨g, G, e⟩ := c
  obtain ⟨h1, h2, h3, h4⟩ := h
  simp at h1 h2 h3
  cases e with
  | none =>
    simp only [cwords, List.mem_cons, List.not_mem_nil, or_false, forall_eq_or_imp, forall_eq]
    exact ⟨by decide +kernel, good_num (by omega) (by omega), good_num (by omega) (by omega)⟩
  | some e =>
    have h5 := h4 e rfl
    simp only [cwords, List.mem_cons, List.not_mem_nil, or_false, forall_eq_or_imp, forall_eq]
    exact ⟨by decide +kernel, good_num (by omega) (by omega), good_num (by omega) (by omega), by decide +kernel, good_num (by omega) (by omega)⟩
theorem tl_head (c : Cl) : TL.tl (headS c) = TL.joinL [32] ((cwords c).map TL.tl) := by
  unfold headS
  rw [TL.join_eq, TL.tl_join]
  rfl
theorem cwords_ne (c : Cl) : cwords c ≠ [] := by
  unfold cwords; split <;> simp
theorem cwords_le (c : Cl) : (cwords c).length ≤ 5 := by
  unfold cwords; split <;> simp
theorem split_head {c : Cl} (h : c.ok) : Txt.split (headS c) " " = cwords c :=
  TL.split_join (s := 32) (S := []) (by decide +kernel) (by decide +kernel) (cwords_ne c) fun p hp => (goodW_iff (good_cwords h p hp)).2.2.1
theorem head_len {c : Cl} (h : c.ok) : (headS c).length ≤ 35 := by
  rw [TL.len_tl, tl_head]
  have := joinL_len (l := (cwords c).map TL.tl) fun w hw => by
    obtain ⟨v, hv, rfl⟩ := List.mem_map.mp hw
    rw [← TL.len_tl]
    exact (goodW_iff (good_cwords h v hv)).2.1
  have h2 := cwords_le c
  rw [List.length_map] at this
  omega
theorem head_free {c : Cl} (h : c.ok) : 10 ∉ TL.tl (headS c) := by
  rw [tl_head]
  refine joinL_free (by decide) fun w hw => ?_
  obtain ⟨v, hv, rfl⟩ := List.mem_map.mp hw
  exact (goodW_iff (good_cwords h v hv)).2.2.2
theorem tl_cloth_ : TL.tl (Str.ofString "cloth ") = TL.tl (Str.ofString "cloth") ++ [32] := by decide +kernel
theorem tl__from_ : TL.tl (Str.ofString " from ") = 32 :: (TL.tl (Str.ofString "from") ++ [32]) := by decide +kernel
theorem tl_e : TL.tl (Str.ofString "") = [] := by decide +kernel
theorem law_head_ok {c : Cl} (h : c.ok) (S : Sto) : f_law_head [clD c] S = .ok (.str (headS c)) S := by
  obtain ⟨g, G, e⟩ := c
  obtain ⟨h1, h2, h3, h4⟩ := id h
  simp at h1 h2 h3
  have a1 := len_num (p := g) (by omega) (by omega)
  have a2 := len_num (p := G) (by omega) (by omega)
  cases e with
  | none =>
    simp (decide := true) [f_law_head, b_law_head, clD, Cl.ints, strD_ok (p := g) (by omega) (by omega), strD_ok (p := G) (by omega) (by omega)]
    repeat rw [if_pos (by omega)]
    refine ext_res S ?_
    rw [tl_head]
    simp [cwords, TL.joinL, TL.tl_append, tl_sp, tl_cloth_, tl_e]
  | some e =>
    have h5 := h4 e rfl
    have a3 := len_num (p := e) (by omega) (by omega)
    simp (decide := true) [f_law_head, b_law_head, clD, Cl.ints, strD_ok (p := g) (by omega) (by omega), strD_ok (p := G) (by omega) (by omega), strD_ok (p := e) (by omega) (by omega)]
    repeat rw [if_pos (by omega)]
    refine ext_res S ?_
    rw [tl_head]
    simp [cwords, TL.joinL, TL.tl_append, tl_sp, tl_cloth_, tl__from_]
theorem cloth_in_ok {c : Cl} (h : c.ok) (S : Sto) : f_cloth_in [.str (headS c)] S = .ok (clD c) S := by
  have hl := head_len h
  have hs : ∀ S, splitD (headS c) (.str " ") S = .ok (.lst ((cwords c).map .str)) S := fun S => by
    show (if _ then _ else _) = _
    rw [if_pos ⟨by decide +kernel, by rw [szL_val]; omega⟩, split_head h]
  have hc := is_cloth_ok h
  obtain ⟨g, G, e⟩ := c
  obtain ⟨h1, h2, h3, h4⟩ := id h
  simp at h1 h2 h3
  have n1 := number_in_ok (p := g) (by omega) (by omega)
  have n2 := number_in_ok (p := G) (by omega) (by omega)
  cases e with
  | none =>
    have hn := fun S => inNon true [g, G] S
    simp only [clD, Cl.ints, List.map] at hc hn
    simp (decide := true) [f_cloth_in, b_cloth_in, hs, cwords, lcL_cons, n1, n2, tupleD, clD, Cl.ints, hc, hn]
  | some e =>
    have h5 := h4 e rfl
    have n3 := number_in_ok (p := e) (by omega) (by omega)
    have hn := fun S => inNon true [g, G, e] S
    simp only [clD, Cl.ints, List.map] at hc hn
    simp (decide := true) [f_cloth_in, b_cloth_in, hs, cwords, lcL_cons, n1, n2, n3, tupleD, clD, Cl.ints, hc, hn]
end K51

/-! M5: rows, scripts. -/
namespace Gn
open PySem PySem.Spec PyProof.Rows L2
def enF (k : Nat) : List D → List D
  | [] => []
  | d :: ds => .tup [.int (k : Nat), d] :: enF (k + 1) ds
theorem enumD_eq (ds : List D) : enumD ds = enF 0 ds := by
  have h : ∀ (ds : List D) (k : Nat), ds.mapIdx (fun i d => D.tup [.int ((i + k : Nat) : Int), d]) = enF k ds := by
    intro ds
    induction ds with
    | nil => intro k; rfl
    | cons d ds ih =>
      intro k
      rw [List.mapIdx_cons]
      show _ :: _ = _
      rw [Nat.zero_add]
      unfold enF
      congr 1
      rw [← ih (k + 1)]
      congr 1
      funext i d
      rw [show i + 1 + k = i + (k + 1) by omega]
  exact h ds 0
theorem mem_enumD {ds : List D} {d : D} (h : d ∈ enumD ds) : ∃ (i : Nat) (e : D), ds[i]? = some e ∧ d = .tup [.int (i : Nat), e] := by
  unfold enumD at h
  obtain ⟨i, hi, rfl⟩ := List.mem_mapIdx.mp h
  exact ⟨i, _, List.getElem?_eq_getElem hi, rfl⟩
theorem forL_keep {P : Env → Prop} {T : Tg} {mb : MS} {S : Sto} : ∀ {ds : List D}, (∀ d ∈ ds, ∀ env, P env → ∃ env' env'', T.put d env = some env' ∧ mb env' S = .nx env'' S ∧ P env'') → ∀ env, P env → ∃ env', forL T mb ds env S = .nx env' S ∧ P env'
  | [], _, env, h0 => ⟨env, rfl, h0⟩
  | d :: ds, h, env, h0 => by
    obtain ⟨e1, e2, h1, h2, h3⟩ := h d List.mem_cons_self env h0
    obtain ⟨e3, h4, h5⟩ := forL_keep (ds := ds) (fun d hd => h d (List.mem_cons_of_mem _ hd)) e2 h3
    exact ⟨e3, by rw [forL_cons, h1]; dsimp only; rw [h2]; exact h4, h5⟩
end Gn
namespace K51
open PySem PySem.Spec PyProof.Rows L2 Gn
def asked : Step → Int
  | .left r _ => r
  | .right r _ => r
  | .on _ _ => 1
  | .off _ => 2
  | .carry _ => 1
def more : Step → Int
  | .on _ _ => 1
  | .off _ => -1
  | _ => 0
theorem asked_by_ok (s : Step) (S : Sto) : f_asked_by [stD s] S = .ok (.int (asked s)) S := by
  cases s <;> simp (decide := true) [f_asked_by, b_asked_by, stD, asked]
theorem more_by_ok (s : Step) (S : Sto) : f_more_by [stD s] S = .ok (.int (more s)) S := by
  cases s <;> simp (decide := true) [f_more_by, b_more_by, stD, more]
theorem law_asked_ok (s : Step) (S : Sto) : f_law_asked [stD s] S = .ok (.int (asked s)) S := by
  cases s <;> simp (decide := true) [f_law_asked, b_law_asked, stD, asked]
theorem law_more_ok (s : Step) (S : Sto) : f_law_more [stD s] S = .ok (.int (more s)) S := by
  cases s <;> simp (decide := true) [f_law_more, b_law_more, stD, more]
def needF (f m : Int) : List Step → Int
  | [] => f
  | s :: ss => needF (max f (asked s - m)) (m + more s) ss
theorem pure_st (s : Step) : (stD s).pure = true := by cases s <;> rfl
theorem pures_st (ss : List Step) : pures (ss.map stD) = true := pures_map pure_st ss
theorem least_loop (st : Option D) (S : Sto) : ∀ (ss : List Step) (l : Option D) (f m : Int), ∃ l' m', forL (.one 1) (mSeq (mSet 2 (mArgs (fun ds S => noex (maxD ds S)) (mCons (mVar 2) (mCons (mBin subD (mCall 1 f_asked_by (mCons (mVar 1) (mNil))) (mVar 3)) (mNil))))) (mAugA 3 (mCall 1 f_more_by (mCons (mVar 1) (mNil))))) (ss.map stD) [st, l, some (.int f), some (.int m)] S = .nx [st, l', some (.int (needF f m ss)), some (.int m')] S
  | [], l, f, m => ⟨l, m, rfl⟩
  | s :: ss, l, f, m => by
    obtain ⟨l', m', h⟩ := least_loop st S ss (some (stD s)) (max f (asked s - m)) (m + more s)
    exact ⟨l', m', by simp [forL_cons, asked_by_ok, more_by_ok, augAdd, h, needF]⟩
theorem least_for_ok (ss : List Step) (S : Sto) : f_least_for [.tup (ss.map stD)] S = .ok (.int (needF 1 0 ss)) S := by
  obtain ⟨l', m', h⟩ := least_loop (some (.tup (ss.map stD))) S ss none 1 0
  simp [f_least_for, b_least_for, h]
def rowsS (c : Cl) (ss : List Step) : List Str := headS c :: ss.map lineS
theorem rows_get {c : Cl} {ss : List Step} {i : Nat} {e : D} (h : ((rowsS c ss).map D.str)[i]? = some e) (hi : 0 < i) : ∃ s ∈ ss, e = .str (lineS s) := by
  obtain ⟨j, rfl⟩ : ∃ j, i = j + 1 := ⟨i - 1, by omega⟩
  simp only [rowsS, List.map_cons, List.getElem?_cons_succ, List.map_map, List.getElem?_map, Option.map_eq_some_iff] at h
  obtain ⟨s, h1, h2⟩ := h
  exact ⟨s, List.mem_of_getElem? h1, h2.symm⟩
theorem wrong_rows_loop {c : Cl} {ss : List Step} (hs : ∀ s ∈ ss, s.ok) (r : Option D) (S : Sto) : ∃ env', forL (.tup [1, 2]) (mIfS (mAndT (mTst (mBin gtD (mVar 1) (mC (.int 0)))) (mTst (mBin isD (mCall 1 f_move_in (mCons (mVar 2) (mNil))) (mC .non)))) (mRet (mArgs mkTup (mCons (mVar 1) (mNil)))) (mNx)) (enumD ((rowsS c ss).map D.str)) [r, none, none] S = .nx env' S ∧ ∃ a b, env' = [r, a, b] := by
  refine forL_keep (P := fun env => ∃ a b, env = [r, a, b]) (fun d hd env ⟨a, b, he⟩ => ?_) _ ⟨none, none, rfl⟩
  obtain ⟨i, e, h1, rfl⟩ := mem_enumD hd
  subst he
  refine ⟨[r, some (.int i), some e], [r, some (.int i), some e], by simp, ?_, _, _, rfl⟩
  by_cases hi : 0 < i
  · obtain ⟨s, h2, rfl⟩ := rows_get h1 hi
    have hn : isNonD (stD s) = false := by cases s <;> rfl
    simp [hi, move_in_ok (hs s h2), hn]
  · simp [hi]
theorem wrong_rows_ok {c : Cl} {ss : List Step} (hc : c.ok) (hs : ∀ s ∈ ss, s.ok) (hl : ss.length ≤ 10) (S : Sto) : f_wrong_rows [.lst ((rowsS c ss).map .str)] S = .ok (.tup []) S := by
  obtain ⟨env', h1, a, b, rfl⟩ := wrong_rows_loop (c := c) hs (some (.lst ((rowsS c ss).map .str))) S
  have hr : (rowsS c ss).map D.str = .str (headS c) :: (ss.map lineS).map .str := rfl
  have hlen : ((rowsS c ss).map D.str).length = ss.length + 1 := by simp [rowsS]
  have h0 := fun S => ix_l0 (.str (headS c)) ((ss.map lineS).map .str) S
  rw [← hr] at h0
  have hn : isNonD (clD c) = false := rfl
  have q1 : (1 : Int) ≤ (ss.length : Int) + 1 := by omega
  have q2 : (ss.length : Int) + 1 ≤ 11 := by omega
  simp [f_wrong_rows, b_wrong_rows, hlen, q1, q2, h0, cloth_in_ok hc, hn, h1]
theorem wrong_rows_okT {c : Cl} {ss : List Step} (hc : c.ok) (hs : ∀ s ∈ ss, s.ok) (hl : ss.length ≤ 10) (S : Sto) : f_wrong_rows [.tup ((rowsS c ss).map .str)] S = .ok (.tup []) S := by
  obtain ⟨env', h1, a, b, rfl⟩ := wrong_rows_loop (c := c) hs (some (.tup ((rowsS c ss).map .str))) S
  have hr : (rowsS c ss).map D.str = .str (headS c) :: (ss.map lineS).map .str := rfl
  have hlen : ((rowsS c ss).map D.str).length = ss.length + 1 := by simp [rowsS]
  have h0 := fun S => ix_t0 (.str (headS c)) ((ss.map lineS).map .str) S
  rw [← hr] at h0
  have hn : isNonD (clD c) = false := rfl
  have q1 : (1 : Int) ≤ (ss.length : Int) + 1 := by omega
  have q2 : (ss.length : Int) + 1 ≤ 11 := by omega
  simp [f_wrong_rows, b_wrong_rows, hlen, q1, q2, h0, cloth_in_ok hc, hn, h1]
end K51

/-! M6: scripts made and read. -/
namespace Gn
open PySem PySem.Spec PyProof.Rows L2
@[simp] theorem get_end (S : Sto) (c : Cell) (T : Sto) : (S ++ c :: T)[S.length]? = some c := by simp
@[simp] theorem take_end1 (S : Sto) (c : Cell) : (S ++ [c]).take (S.length + 1) = S ++ [c] := List.take_of_length_le (by simp)
@[simp] theorem set_end (S : Sto) (c d : Cell) (T : Sto) : (S ++ c :: T).set S.length d = S ++ d :: T := by simp
theorem lcL_of {α : Type} {T : Tg} {me : Env → M D} {env : Env} {e g : α → D} {S : Sto} : ∀ {l : List α}, (∀ a ∈ l, ∃ env', T.put (e a) env = some env' ∧ me env' S = .ok (g a) S) → lcL T mYes me env (l.map e) S = .ok (l.map g) S
  | [], _ => rfl
  | a :: l, h => by
    obtain ⟨e1, h1, h2⟩ := h a List.mem_cons_self
    have ih := lcL_of (l := l) fun d hd => h d (List.mem_cons_of_mem _ hd)
    rw [List.map_cons, lcL_cons, h1]
    simp [h2, ih]
theorem lcL_ofF {α : Type} {T : Tg} {mt : Env → M Bool} {me : Env → M D} {env : Env} {e g : α → D} {p : α → Bool} {S : Sto} : ∀ {l : List α}, (∀ a ∈ l, ∃ env', T.put (e a) env = some env' ∧ mt env' S = .ok (p a) S ∧ me env' S = .ok (g a) S) → lcL T mt me env (l.map e) S = .ok ((l.filter p).map g) S
  | [], _ => rfl
  | a :: l, h => by
    obtain ⟨e1, h1, h2, h3⟩ := h a List.mem_cons_self
    have ih := lcL_ofF (l := l) fun d hd => h d (List.mem_cons_of_mem _ hd)
    rw [List.map_cons, lcL_cons, h1]
    cases hp : p a <;> simp [h2, h3, ih, hp]
end Gn
namespace K51
open PySem PySem.Spec PyProof.Rows L2 Gn
def scF (c : Cl) (ss : List Step) : List (Str × D) := [("told", .tup ((rowsS c ss).map .str)), ("goods", clD c), ("steps", .tup (ss.map stD)), ("floor", .int (needF 1 0 ss))]
def scD (c : Cl) (ss : List Step) : D := .ins "Script" (scF c ss)
theorem pure_cl (c : Cl) : (clD c).pure = true := pures_ints _
theorem rows_eq (c : Cl) (ss : List Step) : (rowsS c ss).map D.str = .str (headS c) :: (ss.map lineS).map .str := rfl
theorem b_st : (Str.ofString "steps" == Str.ofString "told") = false := by decide +kernel
theorem b_sg : (Str.ofString "steps" == Str.ofString "goods") = false := by decide +kernel
theorem b_gt : (Str.ofString "goods" == Str.ofString "told") = false := by decide +kernel
theorem init_ok {c : Cl} {ss : List Step} (hc : c.ok) (hs : ∀ s ∈ ss, s.ok) (hl : ss.length ≤ 10) (S : Sto) :
    f_Script___init__ (.cell S.length :: (rowsS c ss).map .str) (S ++ [.ins "Script" []]) = .ok .non (S ++ [.ins "Script" (scF c ss)]) := by
  have w := wrong_rows_okT hc hs hl
  have hlen : ((rowsS c ss).map D.str).length = ss.length + 1 := by simp [rowsS]
  unfold f_Script___init__
  rw [s_starArgs, if_pos ⟨by simp, by simp [hlen]; omega⟩]
  have h0 := fun S => ix_t0 (.str (headS c)) ((ss.map lineS).map .str) S
  rw [← rows_eq] at h0
  have d1 : ((rowsS c ss).map D.str).drop 1 = (ss.map lineS).map .str := rfl
  have pr : pures ((rowsS c ss).map D.str) = true := pures_strs _
  have e3 : ∀ (S : Sto) k, lcL (.one 3) mYes (mCall 1 f_move_in (mCons (mVar 3) (mNil))) [some (.cell k), some (.tup ((rowsS c ss).map .str)), some (.tup []), none] (ss.map (D.str ∘ lineS)) S = .ok (ss.map stD) S :=
    fun S k => lcL_of fun s h => ⟨_, rfl, by simp [move_in_ok (hs s h)]⟩
  simp (decide := true) [b_Script___init__, w, truthD, setFld, pr, putD, h0, cloth_in_ok hc, pure_cl, d1, tupleD, pures_st, fieldsD, List.lookup, least_for_ok, scF, e3, b_st, b_sg, b_gt, show ss.length ≤ 16777216 by omega]
theorem read_ok {c : Cl} {ss : List Step} (hc : c.ok) (hs : ∀ s ∈ ss, s.ok) (hl : ss.length ≤ 10) {t : Str} (ht : Txt.split t "\n" = rowsS c ss) (hn : t.length ≤ 1000) (S : Sto) : f_Script_read [.nm "Script", .str t] S = .ok (scD c ss) S := by
  have hp : splitD t (.str "\n") S = .ok (.lst ((rowsS c ss).map .str)) S := by
    show (if _ then _ else _) = _
    rw [if_pos ⟨by decide +kernel, by rw [szL_val]; omega⟩, ht]
  have w := wrong_rows_ok hc hs hl
  have i := init_ok hc hs hl
  have pf : pureFs (scF c ss) = true := by
    have pr : pures ((rowsS c ss).map D.str) = true := pures_strs _
    simp [scF, pr, pure_cl, pures_st]
  simp (decide := true) [f_Script_read, b_Script_read, hp, w, truthD, i, scD, pf]
theorem law_rows_ok {c : Cl} {ss : List Step} (hc : c.ok) (hs : ∀ s ∈ ss, s.ok) (hl : ss.length ≤ 10) (S : Sto) : f_law_rows [clD c, .lst (ss.map stD)] S = .ok (.lst ((rowsS c ss).map .str)) S := by
  have e3 : ∀ (S : Sto), lcL (.one 2) mYes (mCall 1 f_law_line (mCons (mVar 2) (mNil))) [some (clD c), some (.lst (ss.map stD)), none] (ss.map stD) S = .ok (ss.map (D.str ∘ lineS)) S :=
    fun S => lcL_of fun s h => ⟨_, rfl, by simp [law_line_ok (hs s h)]⟩
  have pr : pures (ss.map (D.str ∘ lineS)) = true := pures_map (fun _ => rfl) _
  simp [f_law_rows, b_law_rows, law_head_ok hc, e3, show ss.length ≤ 16777216 by omega]
  rw [add_lst (by simp; omega)]
  simp [pr, rowsS]
theorem text_len {c : Cl} {ss : List Step} (hc : c.ok) (hs : ∀ s ∈ ss, s.ok) : ((rowsS c ss).map (·.length)).sum ≤ 35 + 28 * ss.length := by
  have : ∀ ss : List Step, (∀ s ∈ ss, s.ok) → ((ss.map lineS).map (·.length)).sum ≤ 28 * ss.length := by
    intro ss
    induction ss with
    | nil => intro _; simp
    | cons s ss ih =>
      intro h
      have h1 := line_len (h s List.mem_cons_self)
      have h2 := ih fun x hx => h x (List.mem_cons_of_mem _ hx)
      simp only [List.map_cons, List.sum_cons, List.length_cons] at h2 ⊢
      omega
  have h1 := head_len hc
  have h2 := this ss hs
  simp only [rowsS, List.map_cons, List.sum_cons]
  omega
theorem rows_free {c : Cl} {ss : List Step} (hc : c.ok) (hs : ∀ s ∈ ss, s.ok) : ∀ r ∈ rowsS c ss, 10 ∉ TL.tl r := by
  intro r hr
  simp only [rowsS, List.mem_cons, List.mem_map] at hr
  rcases hr with rfl | ⟨s, h, rfl⟩
  · exact head_free hc
  · exact line_free (hs s h)
theorem joinL_len2 (y : List Nat) : ∀ l : List (List Nat), (TL.joinL y l).length ≤ (l.map (·.length)).sum + y.length * l.length
  | [] => by simp [TL.joinL]
  | [p] => by simp [TL.joinL]
  | p :: q :: r => by
    have h2 := joinL_len2 y (q :: r)
    simp only [TL.joinL, List.length_append, List.map_cons, List.sum_cons, List.length_cons, Nat.mul_add, Nat.mul_one] at h2 ⊢
    omega
theorem law_made_ok {c : Cl} {ss : List Step} (hc : c.ok) (hs : ∀ s ∈ ss, s.ok) (hl : ss.length ≤ 10) (S : Sto) : f_law_made [clD c, .lst (ss.map stD)] S = .ok (scD c ss) S := by
  have h1 := text_len hc hs
  have hlen : (rowsS c ss).length = ss.length + 1 := by simp [rowsS]
  have n1 : Str.length "\n" = 1 := by decide +kernel
  have hj : joinD "\n" (.lst ((rowsS c ss).map .str)) S = .ok (.str (Txt.join "\n" (rowsS c ss))) S := by
    simp only [joinD, itemsLT, itemsD_lst, Option.bind_some, strsOf_strs]
    rw [if_pos]
    rw [n1, hlen]
    omega
  have hsp : Txt.split (Txt.join "\n" (rowsS c ss)) "\n" = rowsS c ss :=
    TL.split_join (s := 10) (S := []) (by decide +kernel) (by decide +kernel) (by simp [rowsS]) (rows_free hc hs)
  have hln : (Txt.join "\n" (rowsS c ss)).length ≤ 1000 := by
    rw [TL.len_tl, TL.join_eq, TL.tl_join]
    have h2 := joinL_len2 (TL.tl "\n") ((rowsS c ss).map TL.tl)
    have h3 : ((rowsS c ss).map TL.tl).map (·.length) = (rowsS c ss).map (·.length) := by
      rw [List.map_map]; exact List.map_congr_left fun x _ => (TL.len_tl x).symm
    have h4 : (TL.tl "\n").length = 1 := by decide +kernel
    rw [h3, h4, List.length_map, hlen] at h2
    omega
  have pp : (scD c ss).pure = true := by
    have pr : pures ((rowsS c ss).map D.str) = true := pures_strs _
    simp [scD, scF, pr, pure_cl, pures_st]
  have pr2 : okRes S.length (scD c ss) = true := pp
  simp [f_law_made, b_law_made, law_rows_ok hc hs hl, hj, read_ok hc hs hl hsp hln, pr2]
end K51

/-! M7: a curtain led. -/
namespace K51
open PySem PySem.Spec PyProof.Rows L2 Gn
abbrev tupI (xs : List Int) : D := .tup (xs.map .int)
def clampI (v a b : Int) : Int := min (max v (min a b)) (max a b)
theorem clamped_ok (v a b : Int) (S : Sto) : f_clamped [.int v, .int a, .int b] S = .ok (.int (clampI v a b)) S := by
  simp [f_clamped, b_clamped, clampI]
structure Cl.sz (c : Cl) : Prop where
  g : 1 ≤ c.g
  l : c.g < c.G
  G : c.G ≤ 9
theorem Cl.ok.sz {c : Cl} (h : c.ok) : c.sz := ⟨h.g, h.l, h.G⟩
theorem Cl.sz.sg {c : Cl} (h : c.sz) : smallI c.g = true := by
  have := h.g; have := h.l; have := h.G
  simp only [smallI, decide_eq_true_eq]; omega
theorem Cl.sz.sG {c : Cl} (h : c.sz) : smallI c.G = true := by
  have := h.g; have := h.l; have := h.G
  simp only [smallI, decide_eq_true_eq]; omega
def goal (c : Cl) (i p : Int) : Int := match c.e with
  | none => p
  | some e => max p (e + i * c.g)
theorem goal_of_ok {c : Cl} (h : c.sz) (i p : Int) (S : Sto) : f_goal_of [clD c, .int i, .int p] S = .ok (.int (goal c i p)) S := by
  have h1 := h.sg
  obtain ⟨g, G, e⟩ := c
  cases e with
  | none => simp [f_goal_of, b_goal_of, clD, Cl.ints, goal]
  | some e =>
    simp at h1
    simp [f_goal_of, b_goal_of, clD, Cl.ints, goal, mulI_ok, h1]
def drL (c : Cl) (gl i : Int) : Int → List Int → List Int
  | _, [] => []
  | k, x :: xs => clampI x (gl + (k - i) * c.g) (gl + (k - i) * c.G) :: drL c gl i (k + 1) xs
def drawn (c : Cl) (xs : List Int) (i p : Int) : List Int := drL c (goal c i p) i 0 xs
theorem drL_len (c : Cl) (gl i : Int) : ∀ (xs : List Int) (k : Int), (drL c gl i k xs).length = xs.length
  | [], _ => rfl
  | x :: xs, k => by simp [drL, drL_len c gl i xs]
theorem cl_0 (c : Cl) (S : Sto) : ixD (clD c) (.int 0) S = .ok (.int c.g) S := by
  obtain ⟨g, G, e⟩ := c
  cases e <;> simp [clD, Cl.ints]
theorem cl_1 (c : Cl) (S : Sto) : ixD (clD c) (.int 1) S = .ok (.int c.G) S := by
  obtain ⟨g, G, e⟩ := c
  cases e <;> simp [clD, Cl.ints]
theorem drawn_loop {c : Cl} (h : c.sz) (gl i : Int) (pl pc : Option D) (S : Sto) : ∀ (xs : List Int) (k : Nat) (done : List Int) (a b f : Option D), done.length + xs.length ≤ 16777215 →
    ∃ a' b' f', forL (.tup [6, 7]) (mSeq (mSet 8 (mBin subD (mVar 6) (mVar 2))) (mDrop (mAppend (mVar 5) (mCons (mCall 3 f_clamped (mCons (mVar 7) (mCons (mBin addD (mVar 4) (mBin mulD (mVar 8) (mBin ixD (mVar 0) (mC (.int 0))))) (mCons (mBin addD (mVar 4) (mBin mulD (mVar 8) (mBin ixD (mVar 0) (mC (.int 1))))) (mNil))))) (mNil)))))
      (enF k (xs.map .int)) [some (clD c), pl, some (.int i), pc, some (.int gl), some (.cell S.length), a, b, f] (S ++ [.lst (done.map .int)]) =
      .nx [some (clD c), pl, some (.int i), pc, some (.int gl), some (.cell S.length), a', b', f'] (S ++ [.lst ((done ++ drL c gl i k xs).map .int)])
  | [], k, done, a, b, f, _ => ⟨a, b, f, by simp [enF, drL]⟩
  | x :: xs, k, done, a, b, f, hl => by
    simp only [List.length_cons] at hl
    obtain ⟨a', b', f', ih⟩ := drawn_loop h gl i pl pc S xs (k + 1) (done ++ [clampI x (gl + ((k : Int) - i) * c.g) (gl + ((k : Int) - i) * c.G)]) (some (.int k)) (some (.int x)) (some (.int ((k : Int) - i))) (by simp; omega)
    have hlt : done.length < 16777216 := by omega
    refine ⟨a', b', f', ?_⟩
    have e1 : ((k + 1 : Nat) : Int) = (k : Int) + 1 := by omega
    rw [e1] at ih
    simp only [List.map_cons, enF]
    rw [forL_cons]
    simp only [put_tup, putAll_cons, putAll_nil, List.set_cons_zero, List.set_cons_succ]
    simp [cl_0, cl_1, mulI_ok, h.sg, h.sG, clamped_ok, cellL, hlt]
    simp [drL] at ih ⊢
    exact ih
theorem drawn_ok {c : Cl} (h : c.sz) (xs : List Int) (i p : Int) (hl : xs.length ≤ 16777215) (S : Sto) : f_drawn [clD c, tupI xs, .int i, .int p] S = .ok (tupI (drawn c xs i p)) S := by
  obtain ⟨a', b', f', ih⟩ := drawn_loop h (goal c i p) i (some (tupI xs)) (some (.int p)) S xs 0 [] none none none (by simpa using hl)
  simp only [List.map_nil, List.nil_append] at ih
  simp [f_drawn, b_drawn, goal_of_ok h, enumD_eq, ih, tupleD, listD_cell, drawn]
end K51

/-! M8: moves, standings, led. -/
namespace K51
open PySem PySem.Spec PyProof.Rows L2 Gn
def carried (c : Cl) (p : Int) : Cl := ⟨c.g, c.G, c.e.map (· + p)⟩
def moved (c : Cl) (xs : List Int) : Step → Cl × List Int
  | .carry p => (carried c p, xs.map (· + p))
  | .off l => (c, if l then xs.drop 1 else xs.dropLast)
  | .on l p => (c, if l then drawn c (p :: xs) 0 p else drawn c (xs ++ [p]) xs.length p)
  | .left r p => (c, drawn c xs (r - 1) p)
  | .right r p => (c, drawn c xs (xs.length - r) p)
theorem carried_ok (c : Cl) (p : Int) (S : Sto) : f_carried [clD c, .int p] S = .ok (clD (carried c p)) S := by
  obtain ⟨g, G, e⟩ := c
  cases e <;> simp [f_carried, b_carried, clD, Cl.ints, carried]
theorem moved_ok {c : Cl} (h : c.sz) (xs : List Int) (s : Step) (hl : xs.length ≤ 16777000) (S : Sto) : f_moved [clD c, tupI xs, stD s] S = .ok (.tup [clD (moved c xs s).1, tupI (moved c xs s).2]) S := by
  have hle : xs.length ≤ 16777216 := by omega
  cases s with
  | carry p =>
    have e3 : ∀ (S : Sto), lcL (.one 6) mYes (mBin addD (mVar 6) (mVar 5)) [some (clD c), some (tupI xs), some (.tup [.str "carry", .str "", .int p]), some (.str "carry"), some (.str ""), some (.int p), none] (xs.map .int) S = .ok (xs.map (D.int ∘ (· + p))) S :=
      fun S => lcL_of fun s h => ⟨_, rfl, by simp⟩
    have pi : pures (xs.map (D.int ∘ (· + p))) = true := pures_map (fun _ => rfl) _
    simp (decide := true) [f_moved, b_moved, stD, moved, carried_ok, e3, hle, tupleD, pure_cl, pi]
  | off l =>
    cases l
    · have pi : pures (xs.map D.int).dropLast = true := by rw [← List.map_dropLast]; exact pures_ints _
      simp (decide := true) [f_moved, b_moved, stD, moved, sideS, pure_cl, pi, List.map_dropLast]
    · have pi : pures (xs.map D.int).tail = true := by rw [← List.map_tail]; exact pures_ints _
      simp (decide := true) [f_moved, b_moved, stD, moved, sideS, pure_cl, pi, List.map_tail]
  | on l p =>
    have hle2 : xs.length + 1 ≤ 16777216 := by omega
    cases l
    · have dr := fun S => drawn_ok h (xs ++ [p]) xs.length p (by simp; omega) S
      simp only [List.map_append, List.map_cons, List.map_nil, tupI] at dr
      simp (decide := true) [f_moved, b_moved, stD, moved, sideS, hle, hle2, dr, pure_cl]
    · have dr := fun S => drawn_ok h (p :: xs) 0 p (by simp; omega) S
      simp only [List.map_append, List.map_cons, List.map_nil, tupI] at dr
      simp (decide := true) [f_moved, b_moved, stD, moved, sideS, hle, hle2, dr, pure_cl]
  | left r p =>
    have dr := fun S => drawn_ok h xs (r - 1) p (by omega) S
    simp (decide := true) [f_moved, b_moved, stD, moved, dr, pure_cl]
  | right r p =>
    have dr := fun S => drawn_ok h xs (xs.length - r) p (by omega) S
    simp (decide := true) [f_moved, b_moved, stD, moved, dr, pure_cl]
/-- a standing of the cloth -/
structure Std (c : Cl) (xs : List Int) : Prop where
  ne : xs ≠ []
  e : ∀ e x, c.e = some e → xs[0]? = some x → e ≤ x
  gap : ∀ (i : Nat) (a b : Int), xs[i]? = some a → xs[i + 1]? = some b → c.g ≤ b - a ∧ b - a ≤ c.G
theorem wrong_place_ok {c : Cl} {xs : List Int} (h : Std c xs) (S : Sto) : f_wrong_place [clD c, tupI xs] S = .ok .non S := by
  have key : ∃ env', forL (.tup [2, 3]) (mSeq (mIfS (mOrT (mNotT (mTru (mCall 1 f_is_integer (mCons (mVar 3) (mNil))))) (mAndT (mTst (mBin eqD (mVar 2) (mC (.int 0)))) (mAndT (mTst (mBin eqD (mArgs (fun ds S => noex (lenD ds S)) (mCons (mVar 0) (mNil))) (mC (.int 3)))) (mTst (mBin ltD (mVar 3) (mBin ixD (mVar 0) (mC (.int 2)))))))) (mRet (mVar 2)) (mNx)) (mIfS (mAndT (mTst (mBin gtD (mVar 2) (mC (.int 0)))) (mNotT (mTst (mChain leD leD (mBin ixD (mVar 0) (mC (.int 0))) (mBin subD (mVar 3) (mBin ixD (mVar 1) (mBin subD (mVar 2) (mC (.int 1))))) (mBin ixD (mVar 0) (mC (.int 1))))))) (mRet (mVar 2)) (mNx)))
      (enumD (xs.map .int)) [some (clD c), some (tupI xs), none, none] S = .nx env' S ∧ ∃ a b, env' = [some (clD c), some (tupI xs), a, b] := by
    refine forL_keep (P := fun env => ∃ a b, env = [some (clD c), some (tupI xs), a, b]) (fun d hd env ⟨a, b, he⟩ => ?_) _ ⟨none, none, rfl⟩
    obtain ⟨i, e, h1, rfl⟩ := mem_enumD hd
    rw [List.getElem?_map, Option.map_eq_some_iff] at h1
    obtain ⟨x, h1, rfl⟩ := h1
    subst he
    refine ⟨[some (clD c), some (tupI xs), some (.int i), some (.int x)], [some (clD c), some (tupI xs), some (.int i), some (.int x)], by simp, ?_, _, _, rfl⟩
    cases i with
    | zero =>
      obtain ⟨g, G, e⟩ := c
      cases e with
      | none => simp [clD, Cl.ints]
      | some e =>
        have := h.e e x rfl h1
        have h2 : ¬ x < e := by omega
        simp [clD, Cl.ints, h2]
    | succ j =>
      obtain ⟨y, hy⟩ : ∃ y, xs[j]? = some y := by
        have : j + 1 < xs.length := (List.getElem?_eq_some_iff.mp h1).1
        exact ⟨_, List.getElem?_eq_getElem (by omega)⟩
      obtain ⟨g1, g2⟩ := h.gap j y x hy h1
      have e1 : ((j + 1 : Nat) : Int) - 1 = (j : Nat) := by omega
      have ix : ∀ S, ixD (tupI xs) (.int (((j + 1 : Nat) : Int) - 1)) S = .ok (.int y) S := fun S => by
        rw [e1]
        exact ix_tup (by rw [Gn.atI_nat, List.getElem?_map, hy]; rfl) S
      have q0 : ¬ ((j : Int) + 1 = 0) := by omega
      have q1 : (0 : Int) < (j : Int) + 1 := by omega
      simp at ix
      simp [cl_0, cl_1, ix, g1, g2, q0, q1]
  obtain ⟨env', h1, a, b, rfl⟩ := key
  simp [f_wrong_place, b_wrong_place, h1]
theorem check_standing_ok {c : Cl} {xs : List Int} (h : Std c xs) (S : Sto) : f_check_standing [clD c, tupI xs] S = .ok .non S := by
  have h1 := wrong_place_ok h
  have h2 : decide (xs = []) = false := by simpa using h.ne
  have h3 := eqD?_tnil xs
  rw [h2] at h3
  simp [f_check_standing, b_check_standing, h1, h3, isNonD]
/-! ### enough rings -/
def enough : Int → List Step → Prop
  | _, [] => True
  | n, s :: ss => asked s ≤ n ∧ enough (n + more s) ss
theorem too_few_loop (sc : Option D) (S : Sto) : ∀ (ss : List Step) (k : Nat) (n : Int) (a b : Option D), enough n ss → ∃ n' a' b', forL (.tup [2, 3]) (mSeq (mIfS (mTst (mBin ltD (mVar 1) (mCall 1 f_asked_by (mCons (mVar 3) (mNil))))) (mRet (mVar 2)) (mNx)) (mAugA 1 (mCall 1 f_more_by (mCons (mVar 3) (mNil))))) (enF k (ss.map stD)) [sc, some (.int n), a, b] S = .nx [sc, some (.int n'), a', b'] S
  | [], k, n, a, b, _ => ⟨n, a, b, rfl⟩
  | s :: ss, k, n, a, b, h => by
    obtain ⟨h1, h2⟩ : asked s ≤ n ∧ enough (n + more s) ss := h
    obtain ⟨n', a', b', ih⟩ := too_few_loop sc S ss (k + 1) (n + more s) (some (.int k)) (some (stD s)) h2
    have q : ¬ n < asked s := by omega
    refine ⟨n', a', b', ?_⟩
    simp only [List.map_cons, enF]
    rw [forL_cons]
    simp [asked_by_ok, more_by_ok, augAdd, q]
    exact ih
theorem lk_steps (c : Cl) (ss : List Step) : (scF c ss).lookup (Str.ofString "steps") = some (.tup (ss.map stD)) := by
  simp [scF, List.lookup, b_st, b_sg]
theorem lk_goods (c : Cl) (ss : List Step) : (scF c ss).lookup (Str.ofString "goods") = some (clD c) := by
  simp [scF, List.lookup, b_gt]
theorem fld_sc (c : Cl) (ss : List Step) (S : Sto) : fieldsD "Script" (scD c ss) S = some (scF c ss) := by simp [fieldsD, scD]
theorem too_few_ok (c : Cl) {ss : List Step} {n : Int} (h : enough n ss) (S : Sto) : f_first_too_few [scD c ss, .int n] S = .ok .non S := by
  obtain ⟨n', a', b', ih⟩ := too_few_loop (some (scD c ss)) S ss 0 n none none h
  simp [f_first_too_few, b_first_too_few, fld_sc, lk_steps, enumD_eq, ih]
theorem check_known_ok (c : Cl) (ss : List Step) (S : Sto) : f_check_known [scD c ss] S = .ok .non S := by
  have key : ∃ env', forL (.tup [1, 2]) (mIfS (mTst (mBin eqD (mBin ixD (mVar 2) (mC (.int 0))) (mC (.str "some")))) (fun _ _ => .bad) (mNx)) (enumD (ss.map stD)) [some (scD c ss), none, none] S = .nx env' S ∧ ∃ a b, env' = [some (scD c ss), a, b] := by
    refine forL_keep (P := fun env => ∃ a b, env = [some (scD c ss), a, b]) (fun d hd env ⟨a, b, he⟩ => ?_) _ ⟨none, none, rfl⟩
    obtain ⟨i, e, h1, rfl⟩ := mem_enumD hd
    rw [List.getElem?_map, Option.map_eq_some_iff] at h1
    obtain ⟨s, h1, rfl⟩ := h1
    subst he
    refine ⟨[some (scD c ss), some (.int i), some (stD s)], [some (scD c ss), some (.int i), some (stD s)], by simp, ?_, _, _, rfl⟩
    cases s <;> simp (decide := true) [stD]
  obtain ⟨env', h1, a, b, rfl⟩ := key
  simp [f_check_known, b_check_known, fld_sc, lk_steps, h1]
theorem check_script_ok (c : Cl) (ss : List Step) (S : Sto) : f_check_script [scD c ss] S = .ok .non S := by
  simp [f_check_script, b_check_script, fld_sc]
theorem script_cloth_ok (c : Cl) (ss : List Step) (S : Sto) : f_Script_cloth [scD c ss] S = .ok (clD c) S := by
  have := pure_cl c
  have h2 : okRes S.length (clD c) = true := this
  simp [f_Script_cloth, b_Script_cloth, fld_sc, lk_goods, h2]
def ledF : Cl → List Int → List Step → List Int
  | _, xs, [] => xs
  | c, xs, s :: ss => ledF (moved c xs s).1 (moved c xs s).2 ss
theorem moved_sz {c : Cl} (h : c.sz) (xs : List Int) (s : Step) : (moved c xs s).1.sz := by
  cases s <;> first | exact h | exact ⟨h.g, h.l, h.G⟩
theorem drawn_len (c : Cl) (xs : List Int) (i p : Int) : (drawn c xs i p).length = xs.length := drL_len ..
theorem moved_len (c : Cl) (xs : List Int) (s : Step) : (moved c xs s).2.length ≤ xs.length + 1 := by
  cases s with
  | carry p => simp [moved]
  | off l => cases l <;> simp [moved] <;> omega
  | on l p => cases l <;> simp [moved, drawn_len]
  | left r p => simp [moved, drawn_len]
  | right r p => simp [moved, drawn_len]
theorem led_loop (sc fl : Option D) (S : Sto) : ∀ (ss : List Step) (c : Cl) (xs : List Int) (l : Option D), c.sz → xs.length + ss.length ≤ 16777000 → ∃ l' c', forL (.one 4) (mTgS (.tup [3, 1]) (mCall 3 f_moved (mCons (mVar 3) (mCons (mVar 1) (mCons (mVar 4) (mNil)))))) (ss.map stD) [sc, some (tupI xs), fl, some (clD c), l] S = .nx [sc, some (tupI (ledF c xs ss)), fl, some (clD c'), l'] S
  | [], c, xs, l, _, _ => ⟨l, c, rfl⟩
  | s :: ss, c, xs, l, h, hl => by
    simp only [List.length_cons] at hl
    have h2 := moved_len c xs s
    obtain ⟨l', c', ih⟩ := led_loop sc fl S ss (moved c xs s).1 (moved c xs s).2 (some (stD s)) (moved_sz h xs s) (by omega)
    refine ⟨l', c', ?_⟩
    rw [List.map_cons, forL_cons]
    simp [moved_ok h xs s (by omega)]
    exact ih
theorem led_ok {c : Cl} {ss : List Step} {xs : List Int} (hc : c.sz) (h : Std c xs) (hn : enough xs.length ss) (hl : xs.length + ss.length ≤ 16777000) (S : Sto) : f_led [scD c ss, tupI xs] S = .ok (tupI (ledF c xs ss)) S := by
  obtain ⟨l', c', ih⟩ := led_loop (some (scD c ss)) (some .non) S ss c xs none hc hl
  simp [f_led, b_led, check_script_ok, check_known_ok, fld_sc, script_cloth_ok, check_standing_ok h, too_few_ok c hn, isNonD, lk_steps, ih]
end K51

/-! M9: what is drawn. -/
namespace K51
open PySem PySem.Spec PyProof.Rows L2 Gn
def cn (a b : Int) : Cell := .lst [.int a, .int b]
theorem get_set {Z : Sto} {k : Nat} {c d : Cell} (h : Z[k]? = some c) : (Z.set k d)[k]? = some d := by
  have : k < Z.length := (List.getElem?_eq_some_iff.mp h).1
  simp [this]
theorem set_same {Z : Sto} {k : Nat} {c : Cell} (h : Z[k]? = some c) : Z.set k c = Z := by
  obtain ⟨h1, h2⟩ := List.getElem?_eq_some_iff.mp h
  rw [← h2]; simp
@[simp] theorem take_set (Z : Sto) (k : Nat) (c : Cell) : (Z.set k c).take Z.length = Z.set k c := List.take_of_length_le (by simp)
theorem cell_0 {Z : Sto} {k : Nat} {a b : Int} (h : Z[k]? = some (cn a b)) : ixD (.cell k) (.int 0) Z = .ok (.int a) Z := ix_cell h (by rw [show (0 : Int) = ((0 : Nat) : Int) from rfl, Gn.atI_nat]; rfl)
theorem cell_1 {Z : Sto} {k : Nat} {a b : Int} (h : Z[k]? = some (cn a b)) : ixD (.cell k) (.int 1) Z = .ok (.int b) Z := ix_cell h (by rw [show (1 : Int) = ((1 : Nat) : Int) from rfl, Gn.atI_nat]; rfl)
theorem setIx_0 {Z : Sto} {k : Nat} {a b c : Int} (h : Z[k]? = some (cn a b)) : setIx (.cell k) (.int 0) (.int c) Z = some (Z.set k (cn c b)) := by
  simp [setIx, h, cn, ixN]
theorem setIx_1 {Z : Sto} {k : Nat} {a b c : Int} (h : Z[k]? = some (cn a b)) : setIx (.cell k) (.int 1) (.int c) Z = some (Z.set k (cn a c)) := by
  simp [setIx, h, cn, ixN]
theorem pour_ok {Z : Sto} {k : Nat} {a b t : Int} (h : Z[k]? = some (cn a b)) (h0 : 0 < t) (h1 : t < 1073741824) : ∃ d a' b' : Int, 0 ≤ d ∧ d < t ∧ f_law_pour [.cell k, .int t] Z = .ok (.int d) (Z.set k (cn a' b')) := by
  by_cases ha : 0 < a
  · refine ⟨a % t, a / t, b, Int.emod_nonneg _ (by omega), Int.emod_lt_of_pos _ h0, ?_⟩
    simp [f_law_pour, b_law_pour, cell_0 h, ha, divmodD, h0, h1, setIx_0 h]
  · refine ⟨((b * 48271 + 30103) % 2147483423 / 983) % t, a, (b * 48271 + 30103) % 2147483423, Int.emod_nonneg _ (by omega), Int.emod_lt_of_pos _ h0, ?_⟩
    have hs : smallI 48271 = true := by decide
    have g2 := get_set (d := cn a ((b * 48271 + 30103) % 2147483423)) h
    simp [f_law_pour, b_law_pour, cell_0 h, cell_1 h, ha, mulI_ok, hs, Gn.intD, setIx_1 h, cell_1 g2, h0]
theorem one_ok {Z : Sto} {k : Nat} {a b : Int} {xs : List D} (h : Z[k]? = some (cn a b)) (h0 : 0 < xs.length) (h1 : xs.length < 1073741824) (hp : pures xs = true) : ∃ x ∈ xs, ∃ a' b' : Int, f_law_one [.cell k, .lst xs] Z = .ok x (Z.set k (cn a' b')) := by
  obtain ⟨d, a', b', d0, d1, e⟩ := pour_ok h (t := (xs.length : Int)) (by omega) (by omega)
  obtain ⟨j, rfl⟩ : ∃ j : Nat, d = j := ⟨d.toNat, by omega⟩
  have hj : j < xs.length := by omega
  refine ⟨xs[j], List.getElem_mem hj, a', b', ?_⟩
  have ix : ixD (.lst xs) (.int j) (Z.set k (cn a' b')) = .ok xs[j] (Z.set k (cn a' b')) := ix_lst (by rw [Gn.atI_nat]; exact List.getElem?_eq_getElem hj) _
  have px : xs[j].pure = true := pures_iff.mp hp _ (List.getElem_mem hj)
  have po : okRes Z.length xs[j] = true := by
    cases hx : xs[j] <;> rw [hx] at px <;> first | exact px | cases px
  simp [f_law_one, b_law_one, e, ix, po]
theorem spot_ok {Z : Sto} {k : Nat} {a b : Int} (h : Z[k]? = some (cn a b)) : ∃ p a' b' : Int, -99 ≤ p ∧ p ≤ 99 ∧ f_law_spot [.cell k] Z = .ok (.int p) (Z.set k (cn a' b')) := by
  obtain ⟨d1, a1, b1, q1, q2, e1⟩ := pour_ok h (t := 199) (by omega) (by omega)
  obtain ⟨d2, a2, b2, q3, q4, e2⟩ := pour_ok (get_set (d := cn a1 b1) h) (t := 41) (by omega) (by omega)
  obtain ⟨x, hx, a3, b3, e3⟩ := one_ok (xs := [.int 0, .int 0, .int 7, .int (-7), .int 20, .int (-20), .int 99, .int (-99), .int (d1 - 99), .int (d2 - 20)]) (get_set (d := cn a2 b2) h) (by simp) (by simp) (by simp)
  have : ∃ p : Int, x = .int p ∧ -99 ≤ p ∧ p ≤ 99 := by
    simp only [List.mem_cons, List.not_mem_nil, or_false] at hx
    rcases hx with rfl | rfl | rfl | rfl | rfl | rfl | rfl | rfl | rfl | rfl <;> exact ⟨_, rfl, by omega, by omega⟩
  obtain ⟨p, rfl, p1, p2⟩ := this
  refine ⟨p, a3, b3, p1, p2, ?_⟩
  simp only [List.set_set] at e2 e3
  simp [f_law_spot, b_law_spot, e1, e2, e3]
theorem goods_ok {Z : Sto} {k : Nat} {a b : Int} (h : Z[k]? = some (cn a b)) : ∃ (c : Cl) (a' b' : Int), c.ok ∧ f_law_goods [.cell k] Z = .ok (clD c) (Z.set k (cn a' b')) := by
  obtain ⟨d1, a1, b1, q1, q2, e1⟩ := pour_ok h (t := 8) (by omega) (by omega)
  obtain ⟨x, hx, a2, b2, e2⟩ := one_ok (xs := [.int 1, .int 2, .int 1, .int 3, .int (1 + d1)]) (get_set (d := cn a1 b1) h) (by simp) (by simp) (by simp)
  have : ∃ p : Int, x = .int p ∧ 1 ≤ p ∧ p ≤ 8 := by
    simp only [List.mem_cons, List.not_mem_nil, or_false] at hx
    rcases hx with rfl | rfl | rfl | rfl | rfl <;> exact ⟨_, rfl, by omega, by omega⟩
  obtain ⟨g, rfl, g1, g2⟩ := this
  obtain ⟨d3, a3, b3, q5, q6, e3⟩ := pour_ok (get_set (d := cn a2 b2) h) (t := 9 - g) (by omega) (by omega)
  obtain ⟨d4, a4, b4, q7, q8, e4⟩ := pour_ok (get_set (d := cn a3 b3) h) (t := 3) (by omega) (by omega)
  obtain ⟨p, a5, b5, p1, p2, e5⟩ := spot_ok (get_set (d := cn a4 b4) h)
  simp only [List.set_set] at e2 e3 e4 e5
  by_cases hd : 0 < d4
  · refine ⟨⟨g, g + 1 + d3, none⟩, a4, b4, ⟨by simpa using g1, by simp; omega, by simp; omega, fun e he => by cases he⟩, ?_⟩
    simp [f_law_goods, b_law_goods, e1, e2, e3, e4, hd, clD, Cl.ints]
  · refine ⟨⟨g, g + 1 + d3, some p⟩, a5, b5, ⟨by simpa using g1, by simp; omega, by simp; omega, fun e he => by cases he; exact ⟨p1, p2⟩⟩, ?_⟩
    simp [f_law_goods, b_law_goods, e1, e2, e3, e4, e5, hd, clD, Cl.ints]
end K51

/-! M10: drawn scripts. -/
namespace K51
open PySem PySem.Spec PyProof.Rows L2 Gn
theorem can_ok (ns : List Int) (t : Nat) (ht : t ≤ 63) (Z : Sto) (hl : ns.length ≤ 63) : ∃ a b : Int, f_law_can [.lsc (ns.map .int), .int (t : Nat)] Z = .ok (.cell Z.length) (Z ++ [cn a b]) := by
  have loop : ∀ (l : List Int) (e1 e2 e3 : Option D) (s : Int) (e4 : Option D), ∃ s' e4', forL (.one 4) (mSet 3 (mBin modD (mArgs (fun ds S => noex (Gn.intD ds S)) (mCons (mBin addD (mBin addD (mBin mulD (mVar 3) (mC (.int 36343))) (mBin modD (mArgs (fun ds S => noex (Gn.intD ds S)) (mCons (mVar 4) (mNil))) (mC (.int 2147483423)))) (mC (.int 59))) (mNil))) (mC (.int 2147483423)))) (l.map .int) [e1, e2, e3, some (.int s), e4] Z = .nx [e1, e2, e3, some (.int s'), e4'] Z := by
    intro l
    induction l with
    | nil => intro e1 e2 e3 s e4; exact ⟨s, e4, rfl⟩
    | cons x l ih =>
      intro e1 e2 e3 s e4
      have hs : smallI 36343 = true := by decide
      obtain ⟨s', e4', h⟩ := ih e1 e2 e3 ((s * 36343 + x % 2147483423 + 59) % 2147483423) (some (.int x))
      refine ⟨s', e4', ?_⟩
      rw [List.map_cons, forL_cons]
      simp [mulI_ok, hs, Gn.intD]
      exact h
  have hs1 : smallI 86243 = true := by decide
  have hs2 : smallI 6151 = true := by decide
  -- the cell
  obtain ⟨cell, hcell⟩ : ∃ cell : Int, ∀ rest : MS, mSeq (mSet 2 (mIf (mTst (mBin ltD (mVar 1) (mArgs (fun ds S => noex (lenD ds S)) (mCons (mVar 0) (mNil))))) (mBin ixD (mVar 0) (mVar 1)) (mBin mulD (mC (.int 86243)) (mBin addD (mVar 1) (mC (.int 2)))))) rest [some (.lsc (ns.map .int)), some (.int (t : Nat)), none, none, none] Z = rest [some (.lsc (ns.map .int)), some (.int (t : Nat)), some (.int cell), none, none] Z := by
    by_cases h : t < ns.length
    · have ix : ixD (.lsc (ns.map .int)) (.int (t : Nat)) Z = .ok (.int ns[t]) Z := ix_lsc (by rw [Gn.atI_nat, List.getElem?_map, List.getElem?_eq_getElem h]; rfl) Z
      exact ⟨ns[t], fun rest => by simp [h, ix]⟩
    · exact ⟨86243 * ((t : Nat) + 2), fun rest => by simp [h, mulI_ok, hs1]⟩
  obtain ⟨L, hL⟩ : ∃ L : List Int, L = ns.take 4 ++ [cell] := ⟨_, rfl⟩
  obtain ⟨s', e4', hf⟩ := loop L (some (.lsc (ns.map .int))) (some (.int (t : Nat))) (some (.int cell)) (41231 + 6151 * (t : Nat)) none
  have hsl : ∀ S, slD (.lsc (ns.map .int)) none (some 4) S = .ok (.lst ((ns.map D.int).take 4)) S := fun S => by
    show Res.ok (D.lst (cutL (ns.map D.int) none (some 4))) S = _
    rw [cut_to4]
  have hadd : ∀ S, addD (.lst ((ns.map D.int).take 4)) (.lst [.int cell]) S = .ok (.lst (L.map .int)) S := fun S => by
    rw [add_lst (by simp; omega), hL]; simp [List.map_take]
  have hp : ∀ Z, powD (.int 10) (.int 17) Z = .ok (.int 100000000000000000) Z := fun Z => by simp [powD]
  unfold f_law_can
  rw [s_fnD]
  unfold b_law_can
  show ∃ a b : Int, fin Z.length 1 (mSeq _ _ [some (.lsc (ns.map .int)), some (.int (t : Nat)), none, none, none] Z) = _
  rw [hcell]
  by_cases h1 : cell < 0
  · refine ⟨-cell, s', ?_⟩
    simp [mulI_ok, hs2, hsl, hadd, hf, h1, absD, cn]
  · by_cases h2 : 100000000000000000 ≤ cell
    · refine ⟨cell, s', ?_⟩
      simp [mulI_ok, hs2, hsl, hadd, hf, h1, h2, hp, absD, cn]
    · refine ⟨0, s', ?_⟩
      simp [mulI_ok, hs2, hsl, hadd, hf, h1, h2, hp, absD, cn]
def wordsAll : List D := [.str "left", .str "left", .str "left", .str "right", .str "right", .str "right", .str "carry", .str "off", .str "on"]
theorem all_words_ok (S : Sto) : f_law_all_words [] S = .ok (.lst wordsAll) S := by
  simp [f_law_all_words, b_law_all_words, wordsAll]
theorem step_ok {Z : Sto} {k : Nat} {a b : Int} (h : Z[k]? = some (cn a b)) : ∃ (s : Step) (a' b' : Int), s.ok ∧ f_law_step [.cell k, .lst wordsAll] Z = .ok (stD s) (Z.set k (cn a' b')) := by
  obtain ⟨x, hx, a1, b1, e1⟩ := one_ok (xs := wordsAll) h (by simp [wordsAll]) (by simp [wordsAll]) (by simp [wordsAll])
  have g1 := get_set (d := cn a1 b1) h
  simp only [wordsAll, List.mem_cons, List.not_mem_nil, or_false] at hx
  have hx2 : x = .str "left" ∨ x = .str "right" ∨ x = .str "carry" ∨ x = .str "off" ∨ x = .str "on" := by
    rcases hx with h | h | h | h | h | h | h | h | h <;> simp [h]
  by_cases hlr : x = .str "left" ∨ x = .str "right"
  · obtain ⟨d2, a2, b2, q1, q2, e2⟩ := pour_ok g1 (t := 5) (by omega) (by omega)
    obtain ⟨y, hy, a3, b3, e3⟩ := one_ok (xs := [.int 1, .int 1, .int 1, .int 2, .int 3, .int (1 + d2)]) (get_set (d := cn a2 b2) h) (by simp) (by simp) (by simp)
    have : ∃ p : Int, y = .int p ∧ 1 ≤ p ∧ p ≤ 5 := by
      simp only [List.mem_cons, List.not_mem_nil, or_false] at hy
      rcases hy with rfl | rfl | rfl | rfl | rfl | rfl <;> exact ⟨_, rfl, by omega, by omega⟩
    obtain ⟨r, rfl, r1, r2⟩ := this
    obtain ⟨p, a4, b4, p1, p2, e4⟩ := spot_ok (get_set (d := cn a3 b3) h)
    simp only [List.set_set] at e2 e3 e4
    rcases hlr with rfl | rfl
    · refine ⟨.left r p, a4, b4, ⟨r1, r2, p1, p2⟩, ?_⟩
      simp (decide := true) [f_law_step, b_law_step, e1, e2, e3, e4, stD]
    · refine ⟨.right r p, a4, b4, ⟨r1, r2, p1, p2⟩, ?_⟩
      simp (decide := true) [f_law_step, b_law_step, e1, e2, e3, e4, stD]
  · have hx3 : x = .str "carry" ∨ x = .str "off" ∨ x = .str "on" := by
      rcases hx2 with h | h | h | h | h <;> simp [h] at hlr ⊢
    obtain ⟨p, a5, b5, p1, p2, e5⟩ := spot_ok g1
    obtain ⟨y, hy, a6, b6, e6⟩ := one_ok (xs := [.str "left", .str "right"]) g1 (by simp) (by simp) (by simp)
    have hy2 : ∃ l, y = .str (sideS l) := by
      simp only [List.mem_cons, List.not_mem_nil, or_false] at hy
      rcases hy with rfl | rfl
      · exact ⟨true, rfl⟩
      · exact ⟨false, rfl⟩
    obtain ⟨l, rfl⟩ := hy2
    obtain ⟨p7, a7, b7, p5, p6, e7⟩ := spot_ok (get_set (d := cn a6 b6) h)
    simp only [List.set_set] at e5 e6 e7
    rcases hx3 with rfl | rfl | rfl
    · refine ⟨.carry p, a5, b5, ⟨p1, p2⟩, ?_⟩
      simp (decide := true) [f_law_step, b_law_step, e1, e5, stD]
    · refine ⟨.off l, a6, b6, trivial, ?_⟩
      simp (decide := true) [f_law_step, b_law_step, e1, e6, stD]
    · refine ⟨.on l p7, a7, b7, ⟨p5, p6⟩, ?_⟩
      simp (decide := true) [f_law_step, b_law_step, e1, e6, e7, stD]
theorem steps_loop {k : Nat} (e1 e3 : Option D) : ∀ (ds : List D) (Z : Sto) (a b : Int), Z[k]? = some (cn a b) → ∃ (ss : List Step) (a' b' : Int), ss.length = ds.length ∧ (∀ s ∈ ss, s.ok) ∧ lcL (.one 3) mYes (mCall 2 f_law_step (mCons (mVar 0) (mCons (mVar 2) (mNil)))) [some (.cell k), e1, some (.lst wordsAll), e3] ds Z = .ok (ss.map stD) (Z.set k (cn a' b'))
  | [], Z, a, b, h => ⟨[], a, b, rfl, by simp, by rw [set_same h]; rfl⟩
  | d :: ds, Z, a, b, h => by
    obtain ⟨s, a1, b1, hs, e⟩ := step_ok h
    obtain ⟨ss, a2, b2, hl, hss, e2⟩ := steps_loop e1 e3 ds (Z.set k (cn a1 b1)) a1 b1 (get_set h)
    refine ⟨s :: ss, a2, b2, by simp [hl], by simpa using ⟨hs, hss⟩, ?_⟩
    rw [lcL_cons]
    simp at e2
    simp [e, e2]
theorem range_len (n : Int) : (rangeD 0 n).length = n.toNat := by simp [rangeD]
theorem steps_ok {Z : Sto} {k : Nat} {a b : Int} (h : Z[k]? = some (cn a b)) {m : Int} (hm : 0 ≤ m) (hm2 : m ≤ 10) : ∃ (ss : List Step) (a' b' : Int), (ss.length : Int) ≤ m ∧ (∀ s ∈ ss, s.ok) ∧ f_law_steps [.cell k, .int m, .lst wordsAll] Z = .ok (.lst (ss.map stD)) (Z.set k (cn a' b')) := by
  obtain ⟨d, a1, b1, d0, d1, e1⟩ := pour_ok h (t := m + 1) (by omega) (by omega)
  obtain ⟨ss, a2, b2, hl, hs, e2⟩ := steps_loop (some (.int m)) none (rangeD 0 d) (Z.set k (cn a1 b1)) a1 b1 (get_set h)
  rw [range_len] at hl
  refine ⟨ss, a2, b2, by omega, hs, ?_⟩
  simp only [List.set_set] at e2
  have hr : mRng1 (mCons (mCall 2 f_law_pour (mCons (mVar 0) (mCons (mBin addD (mVar 1) (mC (.int 1))) (mNil)))) (mNil)) [some (.cell k), some (.int m), some (.lst wordsAll), none] Z = .ok (rangeD 0 d) (Z.set k (cn a1 b1)) := rng1_ok (by simp [e1]) (smallR_ok (by omega) (by omega))
  simp [f_law_steps, b_law_steps, hr, e2, show ss.length ≤ 16777216 by omega, pures_st]
theorem fewest_loop (st : Option D) (S : Sto) : ∀ (ss : List Step) (l : Option D) (f m : Int), ∃ l' m', forL (.one 1) (mPar [2, 3] (mCons (mArgs (fun ds S => noex (maxD ds S)) (mCons (mVar 2) (mCons (mBin subD (mCall 1 f_law_asked (mCons (mVar 1) (mNil))) (mVar 3)) (mNil)))) (mCons (mBin addD (mVar 3) (mCall 1 f_law_more (mCons (mVar 1) (mNil)))) (mNil)))) (ss.map stD) [st, l, some (.int f), some (.int m)] S = .nx [st, l', some (.int (needF f m ss)), some (.int m')] S
  | [], l, f, m => ⟨l, m, rfl⟩
  | s :: ss, l, f, m => by
    obtain ⟨l', m', h⟩ := fewest_loop st S ss (some (stD s)) (max f (asked s - m)) (m + more s)
    exact ⟨l', m', by simp [forL_cons, law_asked_ok, law_more_ok, h, needF]⟩
theorem fewest_ok (ss : List Step) (S : Sto) : f_law_fewest [.lst (ss.map stD)] S = .ok (.int (needF 1 0 ss)) S := by
  obtain ⟨l', m', h⟩ := fewest_loop (some (.lst (ss.map stD))) S ss none 1 0
  simp [f_law_fewest, b_law_fewest, h]
theorem need_enough : ∀ {ss : List Step} {f m N : Int}, needF f m ss ≤ N → f ≤ N ∧ enough (N + m) ss
  | [], f, m, N, h => ⟨h, trivial⟩
  | s :: ss, f, m, N, h => by
    obtain ⟨h1, h2⟩ := need_enough (ss := ss) (f := max f (asked s - m)) (m := m + more s) h
    refine ⟨by omega, by omega, ?_⟩
    rw [show N + m + more s = N + (m + more s) by omega]
    exact h2
theorem sketch_ok {Z : Sto} {k : Nat} {a b : Int} (h : Z[k]? = some (cn a b)) : ∃ (c : Cl) (ss : List Step) (n : Nat) (a' b' : Int), c.ok ∧ ss.length ≤ 8 ∧ (∀ s ∈ ss, s.ok) ∧ 1 ≤ n ∧ n ≤ 100 ∧ enough n ss ∧ f_law_sketch [.cell k, .int 8, .lst wordsAll] Z = .ok (.tup [clD c, .lst (ss.map stD), .int (n : Nat)]) (Z.set k (cn a' b')) := by
  obtain ⟨c, a1, b1, hc, e1⟩ := goods_ok h
  obtain ⟨ss, a2, b2, hl, hs, e2⟩ := steps_ok (get_set (d := cn a1 b1) h) (m := 8) (by omega) (by omega)
  obtain ⟨y, hy, a3, b3, e3⟩ := one_ok (xs := [.int 0, .int 0, .int 1, .int 2, .int 3]) (get_set (d := cn a2 b2) h) (by simp) (by simp) (by simp)
  have : ∃ p : Int, y = .int p ∧ 0 ≤ p ∧ p ≤ 3 := by
    simp only [List.mem_cons, List.not_mem_nil, or_false] at hy
    rcases hy with rfl | rfl | rfl | rfl | rfl <;> exact ⟨_, rfl, by omega, by omega⟩
  obtain ⟨p, rfl, p0, p3⟩ := this
  obtain ⟨n1, n2⟩ := need_enough (ss := ss) (f := 1) (m := 0) (N := needF 1 0 ss + p) (by omega)
  have up : ∀ (ss : List Step) (f m : Int), (∀ s ∈ ss, s.ok) → needF f m ss ≤ max f (5 - m) + 6 * ss.length := by
    intro ss
    induction ss with
    | nil => intro f m _; simp [needF]; omega
    | cons s ss ih =>
      intro f m hh
      have h1 := ih (max f (asked s - m)) (m + more s) fun x hx => hh x (List.mem_cons_of_mem _ hx)
      have h2 : asked s ≤ 5 ∧ -1 ≤ more s := by
        have := hh s List.mem_cons_self
        cases s <;> simp [asked, more, Step.ok] at this ⊢ <;> omega
      simp only [needF, List.length_cons]
      omega
  have u := up ss 1 0 hs
  obtain ⟨n, hn⟩ : ∃ n : Nat, needF 1 0 ss + p = n := ⟨(needF 1 0 ss + p).toNat, by omega⟩
  refine ⟨c, ss, n, a3, b3, hc, by omega, hs, by omega, by omega, by rw [← hn]; simpa using n2, ?_⟩
  simp only [List.set_set] at e2 e3
  simp [f_law_sketch, b_law_sketch, e1, e2, e3, fewest_ok, hn, pure_cl, pures_st]
end K51

/-! M11: drawn standings. -/
namespace K51
open PySem PySem.Spec PyProof.Rows L2 Gn
theorem set_app {Z T : Sto} {k : Nat} {c d : Cell} (h : k < Z.length) : (Z.set k c ++ T).set k d = Z.set k d ++ T := by
  rw [List.set_append_left _ _ (by simpa using h), List.set_set]
theorem get_app {Z T : Sto} {k : Nat} {c : Cell} (h : k < Z.length) : (Z.set k c ++ T)[k]? = some c := by
  rw [List.getElem?_append_left (by simpa using h)]; simp [h]
theorem get_app_end {Z : Sto} {k : Nat} {c d : Cell} : (Z.set k c ++ [d])[Z.length]? = some d := by
  rw [List.getElem?_append_right (by simp)]; simp
theorem set_app_end {Z : Sto} {k : Nat} {c d e : Cell} : (Z.set k c ++ [d]).set Z.length e = Z.set k c ++ [e] := by
  rw [List.set_append_right _ _ (by simp)]; simp
theorem take_app_end {Z T : Sto} {k : Nat} {c : Cell} : (Z.set k c ++ T).take Z.length = Z.set k c := by
  rw [List.take_append_of_le_length (by simp), take_set]
def GapOk (c : Cl) (xs : List Int) : Prop := ∀ (i : Nat) (a b : Int), xs[i]? = some a → xs[i + 1]? = some b → c.g ≤ b - a ∧ b - a ≤ c.G
theorem gap_one (c : Cl) (x : Int) : GapOk c [x] := by
  intro i a b h1 h2
  simp at h2
theorem gap_snoc {c : Cl} {pre : List Int} {l y : Int} (h : GapOk c (pre ++ [l])) (h1 : c.g ≤ y - l) (h2 : y - l ≤ c.G) : GapOk c (pre ++ [l] ++ [y]) := by
  intro i a b ha hb
  by_cases hi : i + 1 < (pre ++ [l]).length
  · rw [List.getElem?_append_left (by omega)] at ha
    rw [List.getElem?_append_left hi] at hb
    exact h i a b ha hb
  · have : i + 1 < (pre ++ [l] ++ [y]).length := (List.getElem?_eq_some_iff.mp hb).1
    simp only [List.length_append, List.length_cons, List.length_nil] at hi this
    have hi' : i = pre.length := by omega
    subst hi'
    simp at ha hb
    subst ha hb
    exact ⟨h1, h2⟩
theorem at_last (pre : List Int) (l : Int) : atI ((pre ++ [l]).map D.int) (-1) = some (.int l) := by
  unfold atI ixN
  rw [if_neg (by omega), if_pos (by simp; omega)]
  have : (-1 + ((List.map D.int (pre ++ [l])).length : Int)).toNat = pre.length := by simp; omega
  simp only [Option.bind_some, this]
  simp
theorem last_ok {Z : Sto} {k : Nat} {c : Cell} {pre : List Int} {l : Int} : ixD (.cell Z.length) (.int (-1)) (Z.set k c ++ [.lst ((pre ++ [l]).map D.int)]) = .ok (.int l) (Z.set k c ++ [.lst ((pre ++ [l]).map D.int)]) := ix_cell get_app_end (at_last pre l)
theorem stand_loop {c : Cl} (hc : c.sz) {k : Nat} (e2 e3 : Option D) : ∀ (ds : List D) (Z : Sto) (a b : Int) (pre : List Int) (l : Int) (e5 e6 : Option D), k < Z.length → GapOk c (pre ++ [l]) → pre.length + ds.length ≤ 1000000 →
    ∃ (pre' : List Int) (l' : Int) (a' b' : Int) (e5' e6' : Option D), pre'.length = pre.length + ds.length ∧ GapOk c (pre' ++ [l']) ∧ (pre' ++ [l'])[0]? = (pre ++ [l])[0]? ∧
      forL (.one 5) (mSeq (mSet 6 (mCall 2 f_law_one (mCons (mVar 0) (mCons (mArgs mkLst (mCons (mBin ixD (mVar 1) (mC (.int 0))) (mCons (mBin ixD (mVar 1) (mC (.int 1))) (mCons (mBin addD (mBin ixD (mVar 1) (mC (.int 0))) (mCall 2 f_law_pour (mCons (mVar 0) (mCons (mBin addD (mBin subD (mBin ixD (mVar 1) (mC (.int 1))) (mBin ixD (mVar 1) (mC (.int 0)))) (mC (.int 1))) (mNil))))) (mNil))))) (mNil))))) (mDrop (mAppend (mVar 4) (mCons (mBin addD (mBin ixD (mVar 4) (mUn negD (mC (.int 1)))) (mVar 6)) (mNil)))))
        ds [some (.cell k), some (clD c), e2, e3, some (.cell Z.length), e5, e6] (Z.set k (cn a b) ++ [.lst ((pre ++ [l]).map .int)]) =
      .nx [some (.cell k), some (clD c), e2, e3, some (.cell Z.length), e5', e6'] (Z.set k (cn a' b') ++ [.lst ((pre' ++ [l']).map .int)])
  | [], Z, a, b, pre, l, e5, e6, hk, hg, hl => ⟨pre, l, a, b, e5, e6, rfl, hg, rfl, rfl⟩
  | d :: ds, Z, a, b, pre, l, e5, e6, hk, hg, hl => by
    have c1 := hc.g
    have c2 := hc.l
    have c3 := hc.G
    simp only [List.length_cons] at hl
    obtain ⟨r, a1, b1, r0, r1, q1⟩ := pour_ok (Z := Z.set k (cn a b) ++ [.lst ((pre ++ [l]).map .int)]) (get_app hk) (t := c.G - c.g + 1) (by omega) (by omega)
    rw [set_app hk] at q1
    obtain ⟨y, hy, a2, b2, q2⟩ := one_ok (Z := Z.set k (cn a1 b1) ++ [.lst ((pre ++ [l]).map .int)]) (xs := [.int c.g, .int c.G, .int (c.g + r)]) (get_app hk) (by simp) (by simp) (by simp)
    rw [set_app hk] at q2
    have : ∃ p : Int, y = .int p ∧ c.g ≤ p ∧ p ≤ c.G := by
      simp only [List.mem_cons, List.not_mem_nil, or_false] at hy
      rcases hy with rfl | rfl | rfl <;> exact ⟨_, rfl, by omega, by omega⟩
    obtain ⟨p, rfl, p1, p2⟩ := this
    obtain ⟨pre', l', a', b', e5', e6', h1, h2, h3, h4⟩ := stand_loop hc e2 e3 ds Z a2 b2 (pre ++ [l]) (l + p) (some d) (some (.int p)) hk (gap_snoc hg (by omega) (by omega)) (by simp; omega)
    refine ⟨pre', l', a', b', e5', e6', by simp at h1 ⊢; omega, h2, by rw [h3]; cases pre <;> simp, ?_⟩
    have hlt : pre.length + 1 < 16777216 := by omega
    have la := last_ok (Z := Z) (k := k) (c := cn a2 b2) (pre := pre) (l := l)
    rw [forL_cons]
    simp only [put_one, List.set_cons_zero, List.set_cons_succ]
    simp only [List.map_append, List.map_cons, List.map_nil] at q1 q2 la h4 ⊢
    simp [cl_0, cl_1, q1, q2, la, cellL, get_app_end, set_app_end, hlt]
    simp at h4
    exact h4
theorem standing_ok {c : Cl} (hc : c.ok) {Z : Sto} {k : Nat} {a b : Int} (h : Z[k]? = some (cn a b)) {n : Nat} (hn : 1 ≤ n) (hn2 : n ≤ 1000) : ∃ (xs : List Int) (a' b' : Int), xs.length = n ∧ Std c xs ∧ f_law_standing [.cell k, clD c, .int (n : Nat)] Z = .ok (.lst (xs.map .int)) (Z.set k (cn a' b')) := by
  have hk : k < Z.length := (List.getElem?_eq_some_iff.mp h).1
  obtain ⟨d1, a1, b1, q1, q2, e1⟩ := pour_ok h (t := 121) (by omega) (by omega)
  obtain ⟨d2, a2, b2, q3, q4, e2⟩ := pour_ok (get_set (d := cn a1 b1) h) (t := 30) (by omega) (by omega)
  obtain ⟨x, hx, a3, b3, e3⟩ := one_ok (xs := [.int 0, .int 5, .int (d1 - 60), .int d2]) (get_set (d := cn a2 b2) h) (by simp) (by simp) (by simp)
  have : ∃ p : Int, x = .int p := by
    simp only [List.mem_cons, List.not_mem_nil, or_false] at hx
    rcases hx with rfl | rfl | rfl | rfl <;> exact ⟨_, rfl⟩
  obtain ⟨f, rfl⟩ := this
  simp only [List.set_set] at e2 e3
  obtain ⟨g, G, e⟩ := c
  have hrng : ∀ (e1 e3 e4 e5 e6 : Option D) (S : Sto), mRng1 (mCons (mBin subD (mVar 2) (mC (.int 1))) (mNil)) [some (.cell k), e1, some (.int (n : Nat)), e3, e4, e5, e6] S = .ok (rangeD 0 ((n : Int) - 1)) S := fun _ _ _ _ _ S => rng1_ok (by simp) (smallR_ok (by omega) (by omega))
  have hlen : (rangeD 0 ((n : Int) - 1)).length = n - 1 := by rw [range_len]; omega
  have fin1 : ∀ (x0 : Int) (he : ∀ e', e = some e' → e' ≤ x0), ∃ (xs : List Int) (a' b' : Int) (e5' e6' : Option D), xs.length = n ∧ Std ⟨g, G, e⟩ xs ∧ 
      forL (.one 5) (mSeq (mSet 6 (mCall 2 f_law_one (mCons (mVar 0) (mCons (mArgs mkLst (mCons (mBin ixD (mVar 1) (mC (.int 0))) (mCons (mBin ixD (mVar 1) (mC (.int 1))) (mCons (mBin addD (mBin ixD (mVar 1) (mC (.int 0))) (mCall 2 f_law_pour (mCons (mVar 0) (mCons (mBin addD (mBin subD (mBin ixD (mVar 1) (mC (.int 1))) (mBin ixD (mVar 1) (mC (.int 0)))) (mC (.int 1))) (mNil))))) (mNil))))) (mNil))))) (mDrop (mAppend (mVar 4) (mCons (mBin addD (mBin ixD (mVar 4) (mUn negD (mC (.int 1)))) (mVar 6)) (mNil)))))
        (rangeD 0 ((n : Int) - 1)) [some (.cell k), some (clD ⟨g, G, e⟩), some (.int (n : Nat)), some (.int f), some (.cell Z.length), none, none] (Z.set k (cn a3 b3) ++ [.lst [.int x0]]) =
      .nx [some (.cell k), some (clD ⟨g, G, e⟩), some (.int (n : Nat)), some (.int f), some (.cell Z.length), e5', e6'] (Z.set k (cn a' b') ++ [.lst (xs.map .int)]) := by
    intro x0 he
    obtain ⟨pre', l', a', b', e5', e6', h1, h2, h3, h4⟩ := stand_loop hc.sz (some (.int (n : Nat))) (some (.int f)) (rangeD 0 ((n : Int) - 1)) Z a3 b3 [] x0 none none hk (gap_one _ x0) (by simp [hlen]; omega)
    rw [hlen] at h1
    refine ⟨pre' ++ [l'], a', b', e5', e6', by simp at h1 ⊢; omega, ⟨by simp, ?_, h2⟩, h4⟩
    intro e' y h5 h6
    rw [h3] at h6
    simp at h6
    subst h6
    exact he e' h5
  cases e with
  | none =>
    obtain ⟨xs, a', b', e5', e6', h1, h2, h3⟩ := fin1 f (fun e' h => by cases h)
    refine ⟨xs, a', b', h1, h2, ?_⟩
    have k1 : (clD ⟨g, G, none⟩) = .tup [.int g, .int G] := rfl
    rw [k1] at h3 ⊢
    simp [f_law_standing, b_law_standing, e1, e2, e3, hrng, h3, get_app_end, set_app_end, take_app_end]
  | some e =>
    obtain ⟨xs, a', b', e5', e6', h1, h2, h3⟩ := fin1 (e + (if f < 0 then -f else f)) (fun e' h => by cases h; split <;> omega)
    refine ⟨xs, a', b', h1, h2, ?_⟩
    have k1 : (clD ⟨g, G, some e⟩) = .tup [.int g, .int G, .int e] := rfl
    rw [k1] at h3 ⊢
    simp [f_law_standing, b_law_standing, e1, e2, e3, hrng, h3, get_app_end, set_app_end, take_app_end, absD]
theorem further_loop {c : Cl} (hc : c.sz) {k : Nat} {sp : D} {xs : List Int} (hx : GapOk c xs) (hix : ∀ (j : Nat) (x : Int) (S : Sto), xs[j]? = some x → ixD sp (.int (j : Nat)) S = .ok (.int x) S) (hxl : xs.length ≤ 1000000) :
    ∀ (m : Nat) (Z : Sto) (a b : Int) (pre : List Int) (l : Int) (e4 e5 : Option D), k < Z.length → GapOk c (pre ++ [l]) → pre.length + 1 + m = xs.length → (∀ (j : Nat) (x y : Int), xs[j]? = some x → (pre ++ [l])[j]? = some y → x ≤ y) →
    ∃ (ys : List Int) (a' b' : Int) (e4' e5' : Option D), ys.length = xs.length ∧ GapOk c ys ∧ (∀ (j : Nat) (x y : Int), xs[j]? = some x → ys[j]? = some y → x ≤ y) ∧
      forL (.one 4) (mSeq (mSet 5 (mArgs (fun ds S => noex (maxD ds S)) (mCons (mBin ixD (mVar 2) (mVar 4)) (mCons (mBin addD (mBin ixD (mVar 3) (mUn negD (mC (.int 1)))) (mBin ixD (mVar 1) (mC (.int 0)))) (mNil))))) (mDrop (mAppend (mVar 3) (mCons (mArgs (fun ds S => noex (minD ds S)) (mCons (mBin addD (mVar 5) (mCall 2 f_law_pour (mCons (mVar 0) (mCons (mC (.int 3)) (mNil))))) (mCons (mBin addD (mBin ixD (mVar 3) (mUn negD (mC (.int 1)))) (mBin ixD (mVar 1) (mC (.int 1)))) (mNil)))) (mNil)))))
        ((List.range' (pre.length + 1) m).map fun j : Nat => D.int (j : Nat)) [some (.cell k), some (clD c), some sp, some (.cell Z.length), e4, e5] (Z.set k (cn a b) ++ [.lst ((pre ++ [l]).map .int)]) =
      .nx [some (.cell k), some (clD c), some sp, some (.cell Z.length), e4', e5'] (Z.set k (cn a' b') ++ [.lst (ys.map .int)])
  | 0, Z, a, b, pre, l, e4, e5, hk, hg, hl, hle => ⟨pre ++ [l], a, b, e4, e5, by simp; omega, hg, hle, rfl⟩
  | m + 1, Z, a, b, pre, l, e4, e5, hk, hg, hl, hle => by
    have c1 := hc.g
    have c2 := hc.l
    have c3 := hc.G
    have hi : pre.length + 1 < xs.length := by omega
    have hx1 : xs[pre.length + 1]? = some xs[pre.length + 1] := List.getElem?_eq_getElem hi
    have hx0 : xs[pre.length]? = some xs[pre.length] := List.getElem?_eq_getElem (by omega)
    obtain ⟨g1, g2⟩ := hx _ _ _ hx0 hx1
    have l1 := hle pre.length _ l hx0 (by simp)
    obtain ⟨x, hxe⟩ : ∃ x, x = xs[pre.length + 1] := ⟨_, rfl⟩
    rw [← hxe] at hx1 g1 g2
    have ix1 := fun S => hix (pre.length + 1) x S hx1
    obtain ⟨r, a1, b1, r0, r1, q1⟩ := pour_ok (Z := Z.set k (cn a b) ++ [.lst ((pre ++ [l]).map .int)]) (get_app hk) (t := 3) (by omega) (by omega)
    rw [set_app hk] at q1
    obtain ⟨ys, a', b', e4', e5', h1, h2, h3, h4⟩ := further_loop hc hx hix hxl m Z a1 b1 (pre ++ [l]) (min (max x (l + c.g) + r) (l + c.G)) (some (.int (pre.length + 1 : Nat))) (some (.int (max x (l + c.g)))) hk (gap_snoc hg (by omega) (by omega)) (by simp; omega) (by
      intro j x' y' hj hy
      by_cases hjl : j < (pre ++ [l]).length
      · rw [List.getElem?_append_left hjl] at hy
        exact hle j x' y' hj hy
      · have : j < (pre ++ [l] ++ [min (max x (l + c.g) + r) (l + c.G)]).length := (List.getElem?_eq_some_iff.mp hy).1
        simp only [List.length_append, List.length_cons, List.length_nil] at hjl this
        have hj' : j = pre.length + 1 := by omega
        subst hj'
        rw [hx1] at hj
        cases hj
        rw [List.getElem?_append_right (by simp)] at hy
        simp at hy
        omega)
    refine ⟨ys, a', b', e4', e5', h1, h2, h3, ?_⟩
    have hlt : pre.length + 1 < 16777216 := by omega
    have la := last_ok (Z := Z) (k := k) (c := cn a b) (pre := pre) (l := l)
    have la1 := last_ok (Z := Z) (k := k) (c := cn a1 b1) (pre := pre) (l := l)
    rw [List.range'_succ, List.map_cons, forL_cons]
    simp only [put_one, List.set_cons_zero, List.set_cons_succ]
    simp only [List.map_append, List.map_cons, List.map_nil, List.length_append, List.length_cons, List.length_nil] at q1 la la1 h4 ⊢
    simp at ix1
    simp [cl_0, cl_1, q1, la, la1, ix1, cellL, get_app_end, set_app_end, hlt]
    simp at h4
    exact h4
theorem further_ok {c : Cl} (hc : c.sz) {Z : Sto} {k : Nat} {a b : Int} (h : Z[k]? = some (cn a b)) {sp : D} {xs : List Int} (hx : GapOk c xs) (hne : xs ≠ []) (hsp : sp = .tup (xs.map .int) ∨ sp = .lst (xs.map .int)) (hxl : xs.length ≤ 1000000) :
    ∃ (ys : List Int) (a' b' : Int), ys.length = xs.length ∧ GapOk c ys ∧ (∀ (j : Nat) (x y : Int), xs[j]? = some x → ys[j]? = some y → x ≤ y) ∧ f_law_further [.cell k, clD c, sp] Z = .ok (.lst (ys.map .int)) (Z.set k (cn a' b')) := by
  have hk : k < Z.length := (List.getElem?_eq_some_iff.mp h).1
  have hix : ∀ (j : Nat) (x : Int) (S : Sto), xs[j]? = some x → ixD sp (.int (j : Nat)) S = .ok (.int x) S := by
    intro j x S hj
    rcases hsp with rfl | rfl
    · exact ix_tup (by rw [Gn.atI_nat, List.getElem?_map, hj]; rfl) S
    · exact ix_lst (by rw [Gn.atI_nat, List.getElem?_map, hj]; rfl) S
  have hlen : ∀ S, lenD [sp] S = .ok (.int (xs.length : Nat)) S := by
    intro S
    rcases hsp with rfl | rfl <;> simp
  have hp : 0 < xs.length := List.length_pos_iff.mpr hne
  have h0 : xs[0]? = some xs[0] := List.getElem?_eq_getElem hp
  obtain ⟨x0, hx0⟩ : ∃ x, x = xs[0] := ⟨_, rfl⟩
  rw [← hx0] at h0
  obtain ⟨y, hy, a1, b1, e1⟩ := one_ok (xs := [.int 0, .int 1, .int 4, .int 40]) h (by simp) (by simp) (by simp)
  have : ∃ p : Int, y = .int p ∧ 0 ≤ p := by
    simp only [List.mem_cons, List.not_mem_nil, or_false] at hy
    rcases hy with rfl | rfl | rfl | rfl <;> exact ⟨_, rfl, by omega⟩
  obtain ⟨p, rfl, p0⟩ := this
  obtain ⟨ys, a', b', e4', e5', h1, h2, h3, h4⟩ := further_loop hc hx hix hxl (xs.length - 1) Z a1 b1 [] (x0 + p) none none hk (gap_one c _) (by simp; omega) (by
    intro j x y hj hy
    cases j with
    | zero =>
      rw [h0] at hj
      cases hj
      simp at hy
      omega
    | succ j => simp at hy)
  refine ⟨ys, a', b', h1, h2, h3, ?_⟩
  have hr : rangeD 1 (xs.length : Int) = (List.range' 1 (xs.length - 1)).map fun j : Nat => D.int (j : Nat) := by
    rw [rangeD, show ((xs.length : Int) - 1).toNat = xs.length - 1 by omega, List.range'_eq_map_range, List.map_map]
    refine List.map_congr_left fun j _ => ?_
    simp
  have s1 : smallR 1 = true := smallR_ok (by omega) (by omega)
  have s2 : smallR (xs.length : Int) = true := smallR_ok (by omega) (by omega)
  have i0 := fun S => hix 0 x0 S h0
  simp at i0
  simp at h4
  have hrng : mRng2 (mCons (mC (.int 1)) (mCons (mArgs (fun ds S => noex (lenD ds S)) (mCons (mVar 2) (mNil))) (mNil))) [some (.cell k), some (clD c), some sp, some (.cell Z.length), none, none] (Z.set k (cn a1 b1) ++ [.lst [.int (x0 + p)]]) = .ok ((List.range' 1 (xs.length - 1)).map fun j : Nat => D.int (j : Nat)) (Z.set k (cn a1 b1) ++ [.lst [.int (x0 + p)]]) := by
    rw [← hr]
    exact rng2_ok (by simp [hlen]) s1 s2
  simp [f_law_further, b_law_further, e1, i0, hrng, h4, get_app_end, set_app_end, take_app_end]
end K51

/-! M12: the plain laws: mirror, shift, order. -/
namespace K51
open PySem PySem.Spec PyProof.Rows L2 Gn
theorem drL_get (c : Cl) (gl i : Int) : ∀ (xs : List Int) (k : Int) (j : Nat), (drL c gl i k xs)[j]? = (xs[j]?).map fun x => clampI x (gl + (k + j - i) * c.g) (gl + (k + j - i) * c.G)
  | [], k, j => by simp [drL]
  | x :: xs, k, 0 => by simp [drL]
  | x :: xs, k, j + 1 => by
    have h := drL_get c gl i xs (k + 1) j
    simp only [drL, List.getElem?_cons_succ, h]
    rw [show k + 1 + (j : Int) - i = k + ((j + 1 : Nat) : Int) - i by omega]
theorem drawn_get (c : Cl) (xs : List Int) (i p : Int) (j : Nat) : (drawn c xs i p)[j]? = (xs[j]?).map fun x => clampI x (goal c i p + ((j : Int) - i) * c.g) (goal c i p + ((j : Int) - i) * c.G) := by
  unfold drawn
  rw [drL_get]
  simp only [Int.zero_add]
/-! lengths -/
theorem moved_len_eq (c : Cl) (xs : List Int) (s : Step) (h : asked s ≤ xs.length) : ((moved c xs s).2.length : Int) = xs.length + more s := by
  cases s with
  | carry p => simp [moved, more]
  | off l =>
    have : (2 : Int) ≤ xs.length := h
    cases l <;> simp [moved, more] <;> omega
  | on l p => cases l <;> simp [moved, drawn_len, more]
  | left r p => simp [moved, drawn_len, more]
  | right r p => simp [moved, drawn_len, more]
/-! order -/
structure Le (xs ys : List Int) : Prop where
  len : xs.length = ys.length
  le : ∀ (j : Nat) (x y : Int), xs[j]? = some x → ys[j]? = some y → x ≤ y
theorem clamp_mono {x y a b : Int} (h : x ≤ y) : clampI x a b ≤ clampI y a b := by unfold clampI; omega
theorem drawn_mono {c : Cl} {xs ys : List Int} (h : Le xs ys) (i p : Int) : Le (drawn c xs i p) (drawn c ys i p) := by
  refine ⟨by rw [drawn_len, drawn_len]; exact h.len, fun j x y hx hy => ?_⟩
  rw [drawn_get] at hx hy
  obtain ⟨u, hu, rfl⟩ := Option.map_eq_some_iff.mp hx
  obtain ⟨v, hv, rfl⟩ := Option.map_eq_some_iff.mp hy
  exact clamp_mono (h.le j u v hu hv)
theorem moved_cl (c : Cl) (xs ys : List Int) (s : Step) : (moved c xs s).1 = (moved c ys s).1 := by cases s <;> rfl
theorem moved_mono {c : Cl} {xs ys : List Int} (h : Le xs ys) (s : Step) : Le (moved c xs s).2 (moved c ys s).2 := by
  cases s with
  | carry p =>
    refine ⟨by simp [moved, h.len], fun j x y hx hy => ?_⟩
    simp only [moved, List.getElem?_map] at hx hy
    obtain ⟨u, hu, rfl⟩ := Option.map_eq_some_iff.mp hx
    obtain ⟨v, hv, rfl⟩ := Option.map_eq_some_iff.mp hy
    have := h.le j u v hu hv
    omega
  | off l =>
    have hl := h.len
    cases l
    · refine ⟨by simp [moved, hl], fun j x y hx hy => ?_⟩
      simp only [moved, Bool.false_eq_true, if_false, List.getElem?_dropLast] at hx hy
      split at hx
      · rw [if_pos (by omega)] at hy
        exact h.le j x y hx hy
      · cases hx
    · refine ⟨by simp [moved, hl], fun j x y hx hy => ?_⟩
      simp only [moved, if_true, List.getElem?_drop] at hx hy
      exact h.le _ x y hx hy
  | on l p =>
    have hl := h.len
    cases l
    · have : Le (xs ++ [p]) (ys ++ [p]) := by
        refine ⟨by simp [hl], fun j x y hx hy => ?_⟩
        by_cases hj : j < xs.length
        · rw [List.getElem?_append_left hj] at hx
          rw [List.getElem?_append_left (by omega)] at hy
          exact h.le j x y hx hy
        · rw [List.getElem?_append_right (by omega)] at hx
          rw [List.getElem?_append_right (by omega), ← hl] at hy
          rw [hx] at hy
          cases hy
          exact Int.le_refl _
      simp only [moved, Bool.false_eq_true, if_false, hl]
      exact drawn_mono this _ p
    · have : Le (p :: xs) (p :: ys) := by
        refine ⟨by simp [hl], fun j x y hx hy => ?_⟩
        cases j with
        | zero =>
          simp at hx hy
          omega
        | succ j => exact h.le j x y hx hy
      exact drawn_mono this 0 p
  | left r p => exact drawn_mono h _ p
  | right r p =>
    simp only [moved, h.len]
    exact drawn_mono h _ p
theorem led_mono : ∀ {ss : List Step} {c : Cl} {xs ys : List Int}, Le xs ys → Le (ledF c xs ss) (ledF c ys ss)
  | [], _, _, _, h => h
  | s :: ss, c, xs, ys, h => by
    unfold ledF
    rw [moved_cl c xs ys s]
    exact led_mono (moved_mono h s)
/-! mirror -/
def mir (xs : List Int) : List Int := xs.reverse.map (- ·)
def mirS : Step → Step
  | .left r p => .right r (-p)
  | .right r p => .left r (-p)
  | .on l p => .on (!l) (-p)
  | .off l => .off (!l)
  | .carry p => .carry (-p)
theorem mir_len (xs : List Int) : (mir xs).length = xs.length := by simp [mir]
theorem mir_get {xs : List Int} {j : Nat} (h : j < xs.length) : (mir xs)[j]? = (xs[xs.length - 1 - j]?).map (- ·) := by
  unfold mir
  rw [List.getElem?_map, List.getElem?_reverse h]
theorem clamp_neg (x a b : Int) : clampI (-x) (-a) (-b) = - clampI x a b := by unfold clampI; omega
theorem goal_none {c : Cl} (hc : c.e = none) (i p : Int) : goal c i p = p := by unfold goal; rw [hc]
theorem drawn_mir {c : Cl} (hc : c.e = none) (xs : List Int) (i p : Int) : drawn c (mir xs) ((xs.length : Int) - 1 - i) (-p) = mir (drawn c xs i p) := by
  refine List.ext_getElem? fun j => ?_
  by_cases hj : j < xs.length
  · rw [drawn_get, mir_get hj, mir_get (by rw [drawn_len]; exact hj), drawn_get, drawn_len, goal_none hc, goal_none hc]
    rw [List.getElem?_eq_getElem (by omega)]
    simp only [Option.map_some]
    congr 1
    rw [← clamp_neg]
    have e : (j : Int) - ((xs.length : Int) - 1 - i) = - (((xs.length - 1 - j : Nat) : Int) - i) := by omega
    rw [e, Int.neg_mul, Int.neg_mul]
    congr 1 <;> omega
  · rw [List.getElem?_eq_none (by rw [drawn_len, mir_len]; omega), List.getElem?_eq_none (by rw [mir_len, drawn_len]; omega)]
theorem moved_e {c : Cl} (hc : c.e = none) (xs : List Int) (s : Step) : (moved c xs s).1 = c := by
  obtain ⟨g, G, e⟩ := c
  cases hc
  cases s <;> rfl
theorem moved_mir {c : Cl} (hc : c.e = none) (xs : List Int) (s : Step) : (moved c (mir xs) (mirS s)).2 = mir (moved c xs s).2 := by
  cases s with
  | carry p =>
    simp only [moved, mirS, mir, List.map_map, ← List.map_reverse]
    refine List.map_congr_left fun x _ => ?_
    simp only [Function.comp]
    omega
  | off l => cases l <;> simp [moved, mirS, mir, List.map_dropLast, List.map_tail]
  | on l p =>
    cases l
    · have := drawn_mir hc (xs ++ [p]) xs.length p
      simp only [moved, mirS, Bool.not_false, if_true, Bool.false_eq_true, if_false]
      rw [← this]
      simp [mir]
    · have := drawn_mir hc (p :: xs) 0 p
      simp only [moved, mirS, Bool.not_true, if_true, Bool.false_eq_true, if_false]
      rw [← this]
      simp [mir]
  | left r p =>
    have := drawn_mir hc xs (r - 1) p
    simp only [moved, mirS, mir_len]
    rw [← this]
    congr 1
    omega
  | right r p =>
    have := drawn_mir hc xs (xs.length - r) p
    simp only [moved, mirS]
    rw [← this]
    congr 1
    omega
theorem led_mir {c : Cl} (hc : c.e = none) : ∀ (ss : List Step) (xs : List Int), ledF c (mir xs) (ss.map mirS) = mir (ledF c xs ss)
  | [], _ => rfl
  | s :: ss, xs => by
    show ledF (moved c (mir xs) (mirS s)).1 (moved c (mir xs) (mirS s)).2 (ss.map mirS) = mir (ledF (moved c xs s).1 (moved c xs s).2 ss)
    rw [moved_e hc, moved_e hc, moved_mir hc]
    exact led_mir hc ss _
/-! shift -/
def shM (c : Cl) (b : Int) (xs : List Int) : Step → List Int
  | .left r p => drawn c xs (r - 1) (p + b)
  | .right r p => drawn c xs (xs.length - r) (p + b)
  | .on l p => drawn c (moved c xs (.on l p)).2 (if l then 0 else xs.length) (p + b)
  | .off l => (moved c xs (.off l)).2
  | .carry p => (moved c xs (.carry p)).2
def shF (c : Cl) (b : Int) : List Int → List Step → List Int
  | xs, [] => xs
  | xs, s :: ss => shF c b (shM c b xs s) ss
theorem shM_len (c : Cl) (b : Int) (xs : List Int) (s : Step) : (shM c b xs s).length = (moved c xs s).2.length := by
  cases s <;> simp [shM, moved, drawn_len]
theorem len_of_len {c d : Cl} {xs ys : List Int} (h : xs.length = ys.length) (s : Step) : (moved c xs s).2.length = (moved d ys s).2.length := by
  cases s with
  | off l => cases l <;> simp [moved, h]
  | on l p => cases l <;> simp [moved, drawn_len, h]
  | _ => simp [moved, drawn_len, h]
theorem shF_len {b : Int} : ∀ {ss : List Step} {c d : Cl} {xs ys : List Int}, xs.length = ys.length → (shF c b xs ss).length = (ledF d ys ss).length
  | [], _, _, _, _, h => h
  | s :: ss, c, d, xs, ys, h => shF_len (ss := ss) ((shM_len c b xs s).trans (len_of_len h s))
theorem clamp_add (x a d b : Int) : clampI (x + b) (a + b) (d + b) = clampI x a d + b := by unfold clampI; omega
theorem drawn_shift {c : Cl} (hc : c.e = none) (xs : List Int) (i p b : Int) : drawn c (xs.map (· + b)) i (p + b) = (drawn c xs i p).map (· + b) := by
  refine List.ext_getElem? fun j => ?_
  rw [drawn_get, List.getElem?_map, List.getElem?_map, drawn_get, goal_none hc, goal_none hc]
  cases xs[j]? with
  | none => rfl
  | some x =>
    simp only [Option.map_some]
    congr 1
    rw [← clamp_add]
    congr 1 <;> omega
def isOn : Step → Bool
  | .on _ _ => true
  | _ => false
theorem shM_shift {c : Cl} (hc : c.e = none) (xs : List Int) {s : Step} (h : isOn s = false) (b : Int) : shM c b (xs.map (· + b)) s = (moved c xs s).2.map (· + b) := by
  cases s with
  | on l p => cases h
  | left r p => exact drawn_shift hc xs _ p b
  | right r p =>
    simp only [shM, List.length_map]
    exact drawn_shift hc xs _ p b
  | off l => cases l <;> simp [shM, moved, List.map_dropLast, List.map_tail]
  | carry p =>
    simp only [shM, moved, List.map_map]
    refine List.map_congr_left fun x _ => ?_
    simp only [Function.comp]
    omega
theorem shF_shift {c : Cl} (hc : c.e = none) (b : Int) : ∀ (ss : List Step) (xs : List Int), (∀ s ∈ ss, isOn s = false) → shF c b (xs.map (· + b)) ss = (ledF c xs ss).map (· + b)
  | [], _, _ => rfl
  | s :: ss, xs, h => by
    show shF c b (shM c b (xs.map (· + b)) s) ss = (ledF (moved c xs s).1 (moved c xs s).2 ss).map (· + b)
    rw [shM_shift hc xs (h s List.mem_cons_self) b, moved_e hc]
    exact shF_shift hc b ss _ fun x hx => h x (List.mem_cons_of_mem _ hx)
end K51

/-! M13: rails. -/
namespace K51
open PySem PySem.Spec PyProof.Rows L2 Gn
def rlH (c : Cl) (xs : List Int) (h : D) (n : Int) : D := .tup [clD c, tupI xs, h, .int n]
def rl (c : Cl) (xs : List Int) (h : D) (n : Int) : Cell := .ins "Rail" [("held", rlH c xs h n)]
theorem lk_held (d : D) : List.lookup (Str.ofString "held") [(Str.ofString "held", d)] = some d := by
  simp [List.lookup]
theorem no_draw (d : D) : List.lookup (Str.ofString "draw") [(Str.ofString "held", d)] = none := by
  have : (Str.ofString "draw" == Str.ofString "held") = false := by decide +kernel
  simp [List.lookup, this]
theorem no_move (d : D) : List.lookup (Str.ofString "move") [(Str.ofString "held", d)] = none := by
  have : (Str.ofString "move" == Str.ofString "held") = false := by decide +kernel
  simp [List.lookup, this]
theorem no_change (d : D) : List.lookup (Str.ofString "change_to") [(Str.ofString "held", d)] = none := by
  have : (Str.ofString "change_to" == Str.ofString "held") = false := by decide +kernel
  simp [List.lookup, this]
section
variable {Z : Sto} {r : Nat} {c : Cl} {xs : List Int} {h : D} {n : Int}
theorem fld_rl (hz : Z[r]? = some (rl c xs h n)) : fieldsD "Rail" (.cell r) Z = some [(Str.ofString "held", rlH c xs h n)] := by
  simp [fieldsD, hz, rl]
theorem change_ok (hz : Z[r]? = some (rl c xs h n)) (hp : h.pure = true) (c' : Cl) (xs' : List Int) : f_Rail_change_to [.cell r, clD c', tupI xs'] Z = .ok (tupI xs') (Z.set r (rl c' xs' (rlH c xs h n) (n + 1))) := by
  have f := fld_rl hz
  simp [f_Rail_change_to, b_Rail_change_to, f, lk_held, rlH, setFld, hz, rl, hp, pure_cl, putD]
theorem len_rl (hz : Z[r]? = some (rl c xs h n)) : f_Rail___len__ [.cell r] Z = .ok (.int (xs.length : Nat)) Z := by
  have f := fld_rl hz
  simp [f_Rail___len__, b_Rail___len__, f, lk_held, rlH]
theorem places_rl (hz : Z[r]? = some (rl c xs h n)) : f_Rail_places [.cell r] Z = .ok (tupI xs) Z := by
  have f := fld_rl hz
  simp [f_Rail_places, b_Rail_places, f, lk_held, rlH]
theorem draw_ok (hz : Z[r]? = some (rl c xs h n)) (hp : h.pure = true) (hc : c.sz) (hl : xs.length ≤ 16777000) {i p : Int} (h0 : 0 ≤ i) (h1 : i < xs.length) : f_Rail_draw [.cell r, .int i, .int p] Z = .ok (tupI (drawn c xs i p)) (Z.set r (rl c (drawn c xs i p) (rlH c xs h n) (n + 1))) := by
  have f := fld_rl hz
  have b := fun S => is_between_int i 0 ((xs.length : Int) - 1) S
  have hh : decide (0 ≤ i ∧ i ≤ (xs.length : Int) - 1) = true := by rw [decide_eq_true_eq]; omega
  simp only [hh] at b
  have ch := change_ok hz hp c (drawn c xs i p)
  have dr := fun S => drawn_ok hc xs i p (by omega) S
  have i0 : ∀ S, ixD (rlH c xs h n) (.int 0) S = .ok (clD c) S := fun S => by simp [rlH]
  have i1 : ∀ S, ixD (rlH c xs h n) (.int 1) S = .ok (tupI xs) S := fun S => by simp [rlH]
  simp [f_Rail_draw, b_Rail_draw, f, lk_held, i0, i1, b, dr, no_change, ch]
theorem move_ok (hz : Z[r]? = some (rl c xs h n)) (hp : h.pure = true) (hc : c.sz) (hl : xs.length ≤ 16777000) {s : Step} (hs : s.ok) (ha : asked s ≤ xs.length) : f_Rail_move [.cell r, .str (lineS s)] Z = .ok (tupI (moved c xs s).2) (Z.set r (rl (moved c xs s).1 (moved c xs s).2 (rlH c xs h n) (n + 1))) := by
  have f := fld_rl hz
  have ch := change_ok hz hp (moved c xs s).1 (moved c xs s).2
  have i0 : ∀ S, ixD (rlH c xs h n) (.int 0) S = .ok (clD c) S := fun S => by simp [rlH]
  have i1 : ∀ S, ixD (rlH c xs h n) (.int 1) S = .ok (tupI xs) S := fun S => by simp [rlH]
  have q : ¬ ((xs.length : Int) < asked s) := by omega
  have n0 : isNonD (stD s) = false := by cases s <;> rfl
  have n1 : ∀ S, (mTst (mBin eqD (mBin ixD (mVar 2) (mC (.int 0))) (mC (.str "some")))) [some (.cell r), some (.str (lineS s)), some (stD s), none, none] S = .ok false S := fun S => by
    cases s <;> simp (decide := true) [stD]
  have mv := fun S => moved_ok hc xs s hl S
  simp at n1
  simp [f_Rail_move, b_Rail_move, move_in_ok hs, n0, n1, f, lk_held, i0, i1, asked_by_ok, q, mv, no_change, ch]
end
theorem rail_init_ok {c : Cl} (hc : c.ok) {xs : List Int} (hx : Std c xs) (Z : Sto) : f_Rail___init__ [.cell Z.length, clD c, tupI xs] (Z ++ [.ins "Rail" []]) = .ok .non (Z ++ [rl c xs .non 0]) := by
  have e1 : ∀ S, f_check_cloth [clD c] S = .ok .non S := fun S => by
    simp [f_check_cloth, b_check_cloth, is_cloth_ok hc, truthD]
  unfold f_Rail___init__
  rw [s_arity, if_pos (by rfl)]
  simp [b_Rail___init__, e1, check_standing_ok hx, setFld, pure_cl, putD, rl, rlH]
end K51

/-! M14: the shift, the mirror, by the program. -/
namespace K51
open PySem PySem.Spec PyProof.Rows L2 Gn
theorem target_left (r p n : Int) (S : Sto) : f_law_target [.tup [.str "left", .int r, .int p], .int n] S = .ok (.int (r - 1)) S := by
  simp (decide := true) [f_law_target, b_law_target]
theorem target_right (r p n : Int) (S : Sto) : f_law_target [.tup [.str "right", .int r, .int p], .int n] S = .ok (.int (n - r)) S := by
  simp (decide := true) [f_law_target, b_law_target]
def shBody : MS := (mIfS (mTst (mBin (inDD false) (mBin ixD (mVar 7) (mC (.int 0))) (mArgs mkLst (mCons (mC (.str "left")) (mCons (mC (.str "right")) (mNil)))))) (mDrop (mMeth "Rail" "draw" 3 f_Rail_draw (mVar 6) (mCons (mCall 2 f_law_target (mCons (mVar 7) (mCons (mLenOwn "Rail" f_Rail___len__ (mCons (mVar 6) (mNil))) (mNil)))) (mCons (mBin addD (mBin ixD (mVar 7) (mC (.int 2))) (mVar 5)) (mNil))))) (mIfS (mTst (mBin eqD (mBin ixD (mVar 7) (mC (.int 0))) (mC (.str "on")))) (mSeq (mDrop (mMeth "Rail" "move" 2 f_Rail_move (mVar 6) (mCons (mCall 1 f_law_line (mCons (mVar 7) (mNil))) (mNil)))) (mDrop (mMeth "Rail" "draw" 3 f_Rail_draw (mVar 6) (mCons (mIf (mTst (mBin eqD (mBin ixD (mVar 7) (mC (.int 1))) (mC (.str "left")))) (mC (.int 0)) (mBin subD (mLenOwn "Rail" f_Rail___len__ (mCons (mVar 6) (mNil))) (mC (.int 1)))) (mCons (mBin addD (mBin ixD (mVar 7) (mC (.int 2))) (mVar 5)) (mNil)))))) (mDrop (mMeth "Rail" "move" 2 f_Rail_move (mVar 6) (mCons (mCall 1 f_law_line (mCons (mVar 7) (mNil))) (mNil))))))
theorem pure_rlH {c : Cl} {xs : List Int} {h : D} {n : Int} (hp : h.pure = true) : (rlH c xs h n).pure = true := by simp [rlH, pure_cl, hp]
theorem sh_step {c : Cl} (hc : c.sz) (he : c.e = none) {Z : Sto} {r : Nat} {xs : List Int} {h : D} {n : Int} (hz : Z[r]? = some (rl c xs h n)) (hp : h.pure = true) (hl : xs.length ≤ 16776000) {s : Step} (hs : s.ok) (ha : asked s ≤ xs.length) (b : Int) (e0 e1 e2 e3 e4 e8 : Option D) :
    ∃ h' n', h'.pure = true ∧ shBody [e0, e1, e2, e3, e4, some (.int b), some (.cell r), some (stD s), e8] Z = .nx [e0, e1, e2, e3, e4, some (.int b), some (.cell r), some (stD s), e8] (Z.set r (rl c (shM c b xs s) h' n')) := by
  have f := fld_rl hz
  have ln := len_rl hz
  have hL : ∀ env : Gn.Env, env[6]? = some (some (.cell r)) → mLenOwn "Rail" f_Rail___len__ (mCons (mVar 6) (mNil)) env Z = .ok (.int (xs.length : Nat)) Z := fun env h => lenOwn_ok (by simp [h]) f ln (by omega)
  cases s with
  | left k p =>
    obtain ⟨h1, h2, h3, h4⟩ : 1 ≤ k ∧ k ≤ 5 ∧ -99 ≤ p ∧ p ≤ 99 := hs
    have ha' : k ≤ (xs.length : Int) := ha
    refine ⟨rlH c xs h n, n + 1, pure_rlH hp, ?_⟩
    have d := draw_ok hz hp hc (by omega) (i := k - 1) (p := p + b) (by omega) (by omega)
    simp (decide := true) [shBody, stD, f, no_draw, hL, target_left, d, shM]
  | right k p =>
    obtain ⟨h1, h2, h3, h4⟩ : 1 ≤ k ∧ k ≤ 5 ∧ -99 ≤ p ∧ p ≤ 99 := hs
    have ha' : k ≤ (xs.length : Int) := ha
    refine ⟨rlH c xs h n, n + 1, pure_rlH hp, ?_⟩
    have d := draw_ok hz hp hc (by omega) (i := xs.length - k) (p := p + b) (by omega) (by omega)
    simp (decide := true) [shBody, stD, f, no_draw, hL, target_right, d, shM]
  | on l p =>
    have m := move_ok hz hp hc (by omega) hs ha
    rw [moved_e he] at m
    have hz2 : (Z.set r (rl c (moved c xs (.on l p)).2 (rlH c xs h n) (n + 1)))[r]? = some (rl c (moved c xs (.on l p)).2 (rlH c xs h n) (n + 1)) := get_set hz
    have f2 := fld_rl hz2
    have ln2 := len_rl hz2
    have hlen : (moved c xs (.on l p)).2.length = xs.length + 1 := by cases l <;> simp [moved, drawn_len]
    rw [hlen] at ln2
    have ll := fun S => law_line_ok hs S
    refine ⟨rlH c (moved c xs (.on l p)).2 (rlH c xs h n) (n + 1), n + 1 + 1, pure_rlH (pure_rlH hp), ?_⟩
    cases l with
    | false =>
      have d := draw_ok hz2 (pure_rlH hp) hc (by omega) (i := (xs.length : Int)) (p := p + b) (by omega) (by omega)
      have hL2 : ∀ env : Gn.Env, env[6]? = some (some (.cell r)) → mLenOwn "Rail" f_Rail___len__ (mCons (mVar 6) (mNil)) env (Z.set r (rl c (moved c xs (.on false p)).2 (rlH c xs h n) (n + 1))) = .ok (.int ((xs.length + 1 : Nat) : Int)) (Z.set r (rl c (moved c xs (.on false p)).2 (rlH c xs h n) (n + 1))) := fun env hh => lenOwn_ok (by simp [hh]) f2 ln2 (by omega)
      simp only [stD, sideS, Bool.false_eq_true, if_false] at ll
      simp (decide := true) [shBody, stD, sideS, f, f2, no_draw, no_move, hL2, ll, m, d, shM]
    | true =>
      have d := draw_ok hz2 (pure_rlH hp) hc (by omega) (i := 0) (p := p + b) (by omega) (by omega)
      simp only [stD, sideS, if_true] at ll
      simp (decide := true) [shBody, stD, sideS, f, f2, no_draw, no_move, ll, m, d, shM]
  | off l =>
    have m := move_ok hz hp hc (by omega) hs ha
    rw [moved_e he] at m
    have ll := fun S => law_line_ok hs S
    refine ⟨rlH c xs h n, n + 1, pure_rlH hp, ?_⟩
    simp only [stD] at ll
    simp (decide := true) [shBody, stD, f, no_move, ll, m, shM]
  | carry p =>
    have m := move_ok hz hp hc (by omega) hs ha
    rw [moved_e he] at m
    have ll := fun S => law_line_ok hs S
    refine ⟨rlH c xs h n, n + 1, pure_rlH hp, ?_⟩
    simp only [stD] at ll
    simp (decide := true) [shBody, stD, f, no_move, ll, m, shM]
theorem sh_loop {c : Cl} (hc : c.sz) (he : c.e = none) {r : Nat} (b : Int) (e0 e1 e2 e3 e4 e8 : Option D) : ∀ (ss : List Step) (Z : Sto) (xs : List Int) (h : D) (n : Int) (e7 : Option D), Z[r]? = some (rl c xs h n) → h.pure = true → xs.length + ss.length ≤ 16776000 → (∀ s ∈ ss, s.ok) → enough xs.length ss →
    ∃ h' n' e7', forL (.one 7) shBody (ss.map stD) [e0, e1, e2, e3, e4, some (.int b), some (.cell r), e7, e8] Z = .nx [e0, e1, e2, e3, e4, some (.int b), some (.cell r), e7', e8] (Z.set r (rl c (shF c b xs ss) h' n'))
  | [], Z, xs, h, n, e7, hz, hp, hl, hs, hn => ⟨h, n, e7, by
      have : Z.set r (rl c xs h n) = Z := set_same hz
      simp [shF, this]⟩
  | s :: ss, Z, xs, h, n, e7, hz, hp, hl, hs, hn => by
    obtain ⟨a1, a2⟩ : asked s ≤ xs.length ∧ enough (xs.length + more s) ss := hn
    simp only [List.length_cons] at hl
    obtain ⟨h', n', hp', e⟩ := sh_step hc he hz hp (by omega) (hs s List.mem_cons_self) a1 b e0 e1 e2 e3 e4 e8
    have le1 := moved_len c xs s
    have le2 := moved_len_eq c xs s a1
    have le3 := shM_len c b xs s
    obtain ⟨h2, n2, e72, q⟩ := sh_loop hc he b e0 e1 e2 e3 e4 e8 ss (Z.set r (rl c (shM c b xs s) h' n')) (shM c b xs s) h' n' (some (stD s)) (get_set hz) hp' (by omega) (fun x hx => hs x (List.mem_cons_of_mem _ hx)) (by rw [le3, le2]; exact a2)
    refine ⟨h2, n2, e72, ?_⟩
    rw [List.map_cons, forL_cons]
    simp only [put_one, List.set_cons_zero, List.set_cons_succ, e]
    simp only [List.set_set] at q
    exact q
end K51

/-! M15: the law's parts. -/
namespace K51
open PySem PySem.Spec PyProof.Rows L2 Gn
theorem py_steps : ∀ ss : List Step, ∃ ps, toPys (ss.map stD) = some ps ∧ PyData.canLayAll0 ps = true ∧ PyData.depthAll ps ≤ 1 ∧ PyData.eqvAll ps [] = decide (ss = [])
  | [] => ⟨[], rfl, by simp [PyData.canLayAll0], by simp [PyData.depthAll], by simp [PyData.eqvAll]⟩
  | s :: ss => by
    obtain ⟨ps, h1, h2, h3, h4⟩ := py_steps ss
    have : ∃ q, toPy (stD s) = some q ∧ q.canLay0 = true ∧ q.depth ≤ 1 := by
      cases s with
      | left r p => exact ⟨.tuple [.str "left", .int r, .int p], by simp [stD, toPy, toPys], by simp [PyData.canLay0, PyData.canLayAll0], by simp [PyData.depth, PyData.depthAll]⟩
      | right r p => exact ⟨.tuple [.str "right", .int r, .int p], by simp [stD, toPy, toPys], by simp [PyData.canLay0, PyData.canLayAll0], by simp [PyData.depth, PyData.depthAll]⟩
      | on l p => exact ⟨.tuple [.str "on", .str (sideS l), .int p], by simp [stD, toPy, toPys], by simp [PyData.canLay0, PyData.canLayAll0, ok_side], by simp [PyData.depth, PyData.depthAll]⟩
      | off l => exact ⟨.tuple [.str "off", .str (sideS l), .int 0], by simp [stD, toPy, toPys], by simp [PyData.canLay0, PyData.canLayAll0, ok_side], by simp [PyData.depth, PyData.depthAll]⟩
      | carry p => exact ⟨.tuple [.str "carry", .str "", .int p], by simp [stD, toPy, toPys], by simp [PyData.canLay0, PyData.canLayAll0], by simp [PyData.depth, PyData.depthAll]⟩
    obtain ⟨q, q1, q2, q3⟩ := this
    refine ⟨q :: ps, by simp [toPys, q1, h1], by simp [PyData.canLayAll0, q2, h2], (by simp only [PyData.depthAll]; exact Nat.max_le.mpr ⟨q3, h3⟩), by simp [PyData.eqvAll]⟩
theorem eq_nil_steps (ss : List Step) : eqD? (.lst (ss.map stD)) (.lst []) = some (decide (ss = [])) := by
  obtain ⟨ps, h1, h2, h3, h4⟩ := py_steps ss
  have hd : (PyData.list ps).depth = PyData.depthAll ps + 1 := by simp [PyData.depth]
  have hd2 : decide ((PyData.list ps).depth ≤ 64) = true := by rw [decide_eq_true_eq, hd]; omega
  have s1 : SeqAt.shaped (.list ps) = true := by
    unfold SeqAt.shaped
    rw [hd2]
    simp [PyData.canLay0, h2]
  have s2 : SeqAt.shaped (.list []) = true := by simp [SeqAt.shaped, PyData.canLay0, PyData.canLayAll0, PyData.depth, PyData.depthAll]
  simp [eqD?, toPy, h1, s1, s2, PyData.eqv, h4, toPys]
theorem eq00 : eqD? (.lst []) (.lst []) = some true := by
  exact eqD?_lints [] []
theorem std_map_add {c : Cl} (he : c.e = none) {xs : List Int} (h : Std c xs) (b : Int) : Std c (xs.map (· + b)) := by
  refine ⟨by simpa using h.ne, fun e x h1 => (by rw [he] at h1; cases h1), fun i x y hx hy => ?_⟩
  rw [List.getElem?_map] at hx hy
  obtain ⟨u, hu, rfl⟩ := Option.map_eq_some_iff.mp hx
  obtain ⟨v, hv, rfl⟩ := Option.map_eq_some_iff.mp hy
  have := h.gap i u v hu hv
  omega
theorem on_tst (s : Step) (e0 e1 e2 e3 e4 e5 e6 e8 : Option D) (S : Sto) : mTst (mBin eqD (mBin ixD (mVar 7) (mC (.int 0))) (mC (.str "on"))) [e0, e1, e2, e3, e4, e5, e6, some (stD s), e8] S = .ok (isOn s) S := by
  cases s <;> simp (decide := true) [stD, isOn]
theorem shifted_ok {c : Cl} (hc : c.ok) (he : c.e = none) {Z : Sto} {k : Nat} {a b : Int} (h : Z[k]? = some (cn a b)) {ss : List Step} {xs : List Int} (hs : ∀ s ∈ ss, s.ok) (hx : Std c xs) (hn : enough xs.length ss) (hl : xs.length + ss.length ≤ 16776000) :
    ∃ a' b' : Int, f_law_shifted_right [.cell k, clD c, .lst (ss.map stD), tupI xs, tupI (ledF c xs ss)] Z = .ok (.bl true) (Z.set k (cn a' b')) := by
  have hk : k < Z.length := (List.getElem?_eq_some_iff.mp h).1
  obtain ⟨p, a1, b1, p1, p2, e1⟩ := spot_ok h
  have hp20 : ∀ S, powD (.int 10) (.int 20) S = .ok (.int 100000000000000000000) S := fun S => by simp [powD]
  obtain ⟨y, hy, a2, b2, e2⟩ := one_ok (xs := [.int 1, .int (-1), .int 500, .int (-100000000000000000000), .int p]) (get_set (d := cn a1 b1) h) (by simp) (by simp) (by simp)
  have : ∃ p : Int, y = .int p := by
    simp only [List.mem_cons, List.not_mem_nil, or_false] at hy
    rcases hy with rfl | rfl | rfl | rfl | rfl <;> exact ⟨_, rfl⟩
  obtain ⟨by_, rfl⟩ := this
  simp only [List.set_set] at e2
  refine ⟨a2, b2, ?_⟩
  have i := rail_init_ok hc (std_map_add he hx by_) (Z.set k (cn a2 b2))
  rw [List.length_set] at i
  have lc1 : ∀ (S : Sto) (e3 e4 e6 : Option D), lcL (.one 8) mYes (mBin addD (mVar 8) (mVar 5)) [some (.cell k), some (clD c), some (.lst (ss.map stD)), e3, e4, some (.int by_), e6, none, none] (xs.map .int) S = .ok (xs.map (D.int ∘ (· + by_))) S :=
    fun S _ _ _ => lcL_of fun s h => ⟨_, rfl, by simp⟩
  obtain ⟨h', n', e7', q⟩ := sh_loop hc.sz he by_ (some (.cell k)) (some (clD c)) (some (.lst (ss.map stD))) (some (tupI xs)) (some (tupI (ledF c xs ss))) none ss (Z.set k (cn a2 b2) ++ [rl c (xs.map (· + by_)) .non 0]) (xs.map (· + by_)) .non 0 none (r := Z.length) get_app_end rfl (by simpa using hl) hs (by simpa using hn)
  rw [set_app_end] at q
  have hz : (Z.set k (cn a2 b2) ++ [rl c (shF c by_ (xs.map (· + by_)) ss) h' n'])[Z.length]? = some (rl c (shF c by_ (xs.map (· + by_)) ss) h' n') := get_app_end
  have f := fld_rl hz
  have pl := places_rl hz
  have hlx : xs.length ≤ 16777216 := by omega
  have lcOn : ∀ (S : Sto) (e5 e6 e7 e8 : Option D), lcL (.one 7) (mTst (mBin eqD (mBin ixD (mVar 7) (mC (.int 0))) (mC (.str "on")))) (mVar 7) [some (.cell k), some (clD c), some (.lst (ss.map stD)), some (tupI xs), some (tupI (ledF c xs ss)), e5, e6, e7, e8] (ss.map stD) S = .ok ((ss.filter isOn).map stD) S :=
    fun S _ _ _ _ => lcL_ofF fun s h => ⟨_, rfl, by simp only [List.set_cons_zero, List.set_cons_succ]; exact on_tst s .., by simp⟩
  have lf : (ss.filter isOn).length ≤ 16777216 := by
    have := List.length_filter_le isOn ss
    omega
  have en := eq_nil_steps (ss.filter isOn)
  have q' := q
  simp only [shBody, List.map_map, tupI] at q'
  simp only [List.map_map, tupI] at i pl
  by_cases hon : ss.filter isOn = []
  · have hno : ∀ s ∈ ss, isOn s = false := by
      intro s hs'
      have := List.filter_eq_nil_iff.mp hon s hs'
      simpa using this
    have hsh := shF_shift he by_ ss xs hno
    have lled : (ledF c xs ss).length ≤ 16777216 := by
      have := shF_len (ss := ss) (b := by_) (c := c) (d := c) (xs := xs) (ys := xs) rfl
      have l2 : ∀ (ss : List Step) (c : Cl) (xs : List Int), (ledF c xs ss).length ≤ xs.length + ss.length := by
        intro ss
        induction ss with
        | nil => intro c xs; exact Nat.le_refl _
        | cons s ss ih =>
          intro c xs
          have h1 := ih (moved c xs s).1 (moved c xs s).2
          have h2 := moved_len c xs s
          simp only [ledF, List.length_cons]
          omega
      have := l2 ss c xs
      omega
    have lc2 : ∀ (S : Sto) (e3 e4 e6 e7 : Option D), lcL (.one 8) mYes (mBin addD (mVar 8) (mVar 5)) [some (.cell k), some (clD c), some (.lst (ss.map stD)), e3, e4, some (.int by_), e6, e7, none] ((ledF c xs ss).map .int) S = .ok ((ledF c xs ss).map (D.int ∘ (· + by_))) S :=
      fun S _ _ _ _ => lcL_of fun s h => ⟨_, rfl, by simp⟩
    rw [hsh] at q' f pl hz
    have eqi := eqD?_ints ((ledF c xs ss).map (· + by_)) ((ledF c xs ss).map (· + by_))
    simp only [List.map_map, decide_true] at eqi pl
    simp [f_law_shifted_right, b_law_shifted_right, e1, hp20, e2, lc1, hlx, tupleD, i, q', lcOn, lf, eq00, hon, f, pl, lc2, lled, eqi, take_app_end]
  · have hlen := shF_len (ss := ss) (b := by_) (c := c) (d := c) (xs := xs.map (· + by_)) (ys := xs) (by simp)
    simp [f_law_shifted_right, b_law_shifted_right, e1, hp20, e2, lc1, hlx, tupleD, i, q', lcOn, lf, en, hon, f, pl, hlen, take_app_end]
end K51

/-! M16: the law's turn. -/
namespace K51
open PySem PySem.Spec PyProof.Rows L2 Gn
theorem in_mirror_ok {xs : List Int} (hl : xs.length ≤ 16777216) (S : Sto) : f_law_in_mirror [tupI xs] S = .ok (tupI (mir xs)) S := by
  have lc1 : ∀ (S : Sto), lcL (.one 1) mYes (mUn negD (mVar 1)) [some (tupI xs), none] ((xs.reverse).map .int) S = .ok (xs.reverse.map (D.int ∘ (- ·))) S :=
    fun S => lcL_of fun s h => ⟨_, rfl, by simp⟩
  have pi : pures (xs.reverse.map (D.int ∘ (- ·))) = true := pures_map (fun _ => rfl) _
  simp only [List.map_reverse] at lc1 pi
  simp [f_law_in_mirror, b_law_in_mirror, lc1, hl, tupleD, mir, pi]
theorem mirrored_ok (s : Step) (S : Sto) : f_law_mirrored [stD s] S = .ok (stD (mirS s)) S := by
  cases s with
  | left r p => simp (decide := true) [f_law_mirrored, b_law_mirrored, stD, mirS]
  | right r p => simp (decide := true) [f_law_mirrored, b_law_mirrored, stD, mirS]
  | on l p => cases l <;> simp (decide := true) [f_law_mirrored, b_law_mirrored, stD, mirS, sideS]
  | off l => cases l <;> simp (decide := true) [f_law_mirrored, b_law_mirrored, stD, mirS, sideS]
  | carry p => simp (decide := true) [f_law_mirrored, b_law_mirrored, stD, mirS]
theorem mirS_ok {s : Step} (h : s.ok) : (mirS s).ok := by
  cases s <;> simp [Step.ok, mirS] at h ⊢ <;> omega
theorem mirS_asked (s : Step) : asked (mirS s) = asked s := by cases s <;> rfl
theorem mirS_more (s : Step) : more (mirS s) = more s := by cases s <;> rfl
theorem enough_mir : ∀ {ss : List Step} {n : Int}, enough n ss → enough n (ss.map mirS)
  | [], _, _ => trivial
  | s :: ss, n, h => by
    refine ⟨by rw [mirS_asked]; exact h.1, ?_⟩
    rw [mirS_more]
    exact enough_mir h.2
theorem std_mir {c : Cl} (he : c.e = none) {xs : List Int} (h : Std c xs) : Std c (mir xs) := by
  refine ⟨?_, fun e x h1 => (by rw [he] at h1; cases h1), fun i x y hx hy => ?_⟩
  · intro e
    have := congrArg List.length e
    rw [mir_len] at this
    exact h.ne (List.length_eq_zero_iff.mp this)
  · have h2 : i + 1 < xs.length := by
      have := (List.getElem?_eq_some_iff.mp hy).1
      rwa [mir_len] at this
    rw [mir_get (by omega)] at hx
    rw [mir_get h2] at hy
    obtain ⟨u, hu, rfl⟩ := Option.map_eq_some_iff.mp hx
    obtain ⟨v, hv, rfl⟩ := Option.map_eq_some_iff.mp hy
    have e1 : xs.length - 1 - i = (xs.length - 1 - (i + 1)) + 1 := by omega
    rw [e1] at hu
    have := h.gap _ v u hv hu
    omega
def bare (c : Cl) : Cl := ⟨c.g, c.G, none⟩
def wall (c : Cl) (e : Int) : Cl := ⟨c.g, c.G, some e⟩
theorem bare_ok {c : Cl} (h : c.ok) : (bare c).ok := ⟨h.g, h.l, h.G, fun e he => by cases he⟩
theorem wall_ok {c : Cl} (h : c.ok) {e : Int} (h1 : -99 ≤ e) (h2 : e ≤ 99) : (wall c e).ok := ⟨h.g, h.l, h.G, fun e' he => by cases he; exact ⟨h1, h2⟩⟩
theorem sl_bare (c : Cl) (S : Sto) : slD (clD c) none (some 2) S = .ok (clD (bare c)) S := by
  obtain ⟨g, G, e⟩ := c
  cases e <;> simp [clD, Cl.ints, bare]
theorem add_wall (c : Cl) (e : Int) (S : Sto) : addD (clD (bare c)) (.tup [.int e]) S = .ok (clD (wall c e)) S := by
  rw [show clD (bare c) = .tup [.int c.g, .int c.G] from rfl, add_tup (by simp)]
  rfl
theorem cmp_loop {xs ys : List Int} (h : Le xs ys) {env : Gn.Env} {i j : Nat} (hi : env[i]? = some (some (tupI ys))) (hj : env[j]? = some (some (tupI xs))) (hi2 : i ≠ 15) (hj2 : j ≠ 15) (hl : 15 < env.length) (m : Nat) (hm : m ≤ xs.length) (S : Sto) :
    lcL (.one 15) (mTst (mBin ltD (mBin ixD (mVar i) (mVar 15)) (mBin ixD (mVar j) (mVar 15)))) (mVar 15) env (rangeD 0 (m : Int)) S = .ok [] S := by
  have := lcL_filter (T := .one 15) (mt := mTst (mBin ltD (mBin ixD (mVar i) (mVar 15)) (mBin ixD (mVar j) (mVar 15)))) (me := mVar 15) (env := env) (g := id) (p := fun _ => false) (S := S) (ds := rangeD 0 (m : Int)) (fun d hd => by
    simp only [rangeD, List.mem_map, List.mem_range] at hd
    obtain ⟨q, hq, rfl⟩ := hd
    have hq1 : q < xs.length := by omega
    have hq2 : q < ys.length := by rw [← h.len]; exact hq1
    have g1 : (env.set 15 (some (.int (0 + (q : Int)))))[i]? = some (some (tupI ys)) := by rw [List.getElem?_set_ne (Ne.symm hi2)]; exact hi
    have g2 : (env.set 15 (some (.int (0 + (q : Int)))))[j]? = some (some (tupI xs)) := by rw [List.getElem?_set_ne (Ne.symm hj2)]; exact hj
    have g3 : (env.set 15 (some (.int (0 + (q : Int)))))[15]? = some (some (.int (q : Int))) := by simp [hl]
    have i1 : ixD (tupI ys) (.int (q : Nat)) S = .ok (.int ys[q]) S := ix_tup (by rw [Gn.atI_nat, List.getElem?_map, List.getElem?_eq_getElem hq2]; rfl) S
    have i2 : ixD (tupI xs) (.int (q : Nat)) S = .ok (.int xs[q]) S := ix_tup (by rw [Gn.atI_nat, List.getElem?_map, List.getElem?_eq_getElem hq1]; rfl) S
    have le := h.le q xs[q] ys[q] (List.getElem?_eq_getElem hq1) (List.getElem?_eq_getElem hq2)
    have nl : ¬ ys[q] < xs[q] := by omega
    refine ⟨_, rfl, ?_, ?_⟩
    · simp only [s_mTst, s_mBin, s_mVar, g1, g2, g3, bind_ok, i1, i2, noex_ok, s_ltD, s_tstB, nl, decide_false]
    · simp only [s_mVar, g3, id]
      rw [Int.zero_add])
  rw [this]
  simp
theorem led_len (ss : List Step) : ∀ (c : Cl) (xs : List Int), (ledF c xs ss).length ≤ xs.length + ss.length := by
  induction ss with
  | nil => intro c xs; exact Nat.le_refl _
  | cons s ss ih =>
    intro c xs
    have h1 := ih (moved c xs s).1 (moved c xs s).2
    have h2 := moved_len c xs s
    simp only [ledF, List.length_cons]
    omega
theorem seq_nx {m1 m2 : MS} {env e' : Gn.Env} {S S' : Sto} {n x : Nat} {r : Res D} (h : m1 env S = .nx e' S') (h2 : fin n x (m2 e' S') = r) : fin n x (mSeq m1 m2 env S) = r := by
  rw [s_mSeq, h]; exact h2
theorem right_ok {Z : Sto} {k : Nat} {a b : Int} (h : Z[k]? = some (cn a b)) : ∃ a' b' : Int, f_law_right [.cell k] Z = .ok (.bl true) (Z.set k (cn a' b')) := by
  obtain ⟨c, ss, n, a1, b1, hc, hl, hs, hn1, hn2, hen, sk⟩ := sketch_ok h
  obtain ⟨p, a2, b2, p1, p2, sp⟩ := spot_ok (get_set (d := cn a1 b1) h)
  obtain ⟨y, hy, a3, b3, on⟩ := one_ok (xs := [.int p, .int (-99)]) (get_set (d := cn a2 b2) h) (by simp) (by simp) (by simp)
  have : ∃ e : Int, y = .int e ∧ -99 ≤ e ∧ e ≤ 99 := by
    simp only [List.mem_cons, List.not_mem_nil, or_false] at hy
    rcases hy with rfl | rfl <;> exact ⟨_, rfl, by omega, by omega⟩
  obtain ⟨e, rfl, he1, he2⟩ := this
  have hb := bare_ok hc
  have hw := wall_ok hc he1 he2
  have hbe : (bare c).e = none := rfl
  obtain ⟨xs, a4, b4, hxl, hx, st⟩ := standing_ok hb (get_set (d := cn a3 b3) h) (n := n) hn1 (by omega)
  have henx : enough xs.length ss := by rw [hxl]; exact hen
  have made := fun S => law_made_ok hb hs (by omega) S
  have led1 := fun S => led_ok (c := bare c) (ss := ss) (xs := xs) hb.sz hx henx (by omega) S
  have hs2 : ∀ s ∈ ss.map mirS, s.ok := by
    intro s hs'
    obtain ⟨t, ht, rfl⟩ := List.mem_map.mp hs'
    exact mirS_ok (hs t ht)
  have made2 := fun S => law_made_ok hb hs2 (by simp; omega) S
  have led2 := fun S => led_ok (c := bare c) (ss := ss.map mirS) (xs := mir xs) hb.sz (std_mir hbe hx) (by rw [mir_len]; exact enough_mir henx) (by simp [mir_len]; omega) S
  rw [led_mir hbe] at led2
  have im1 := fun S => in_mirror_ok (xs := xs) (by omega) S
  have ll := led_len ss (bare c) xs
  have im2 := fun S => in_mirror_ok (xs := ledF (bare c) xs ss) (by omega) S
  obtain ⟨a5, b5, sh⟩ := shifted_ok hb hbe (get_set (d := cn a4 b4) h) hs hx henx (by omega)
  obtain ⟨ys, a6, b6, yl, yg, yle, fu⟩ := further_ok hb.sz (get_set (d := cn a5 b5) h) (sp := tupI xs) (xs := xs) hx.gap hx.ne (.inl rfl) (by omega)
  have hys : Std (bare c) ys := ⟨fun e => hx.ne (by rw [e] at yl; exact List.length_eq_zero_iff.mp yl.symm), fun e' x h1 => (by cases h1), yg⟩
  have led3 := fun S => led_ok (c := bare c) (ss := ss) (xs := ys) hb.sz hys (by rw [yl]; exact henx) (by omega) S
  have le1 : Le (ledF (bare c) xs ss) (ledF (bare c) ys ss) := led_mono ⟨yl.symm, yle⟩
  obtain ⟨zs, a7, b7, zl, hz, st2⟩ := standing_ok hw (get_set (d := cn a6 b6) h) (n := n) hn1 (by omega)
  have henz : enough zs.length ss := by rw [zl]; exact hen
  have made3 := fun S => law_made_ok hw hs (by omega) S
  have led4 := fun S => led_ok (c := wall c e) (ss := ss) (xs := zs) hw.sz hz henz (by omega) S
  obtain ⟨ws, a8, b8, wl, wg, wle, fu2⟩ := further_ok hb.sz (get_set (d := cn a7 b7) h) (sp := .lst (zs.map .int)) (xs := zs) hz.gap hz.ne (.inr rfl) (by omega)
  have hws : Std (wall c e) ws := by
    refine ⟨fun e => hz.ne (by rw [e] at wl; exact List.length_eq_zero_iff.mp wl.symm), fun e' x h1 hx0 => ?_, wg⟩
    have hp : 0 < zs.length := List.length_pos_iff.mpr hz.ne
    have h0 : zs[0]? = some zs[0] := List.getElem?_eq_getElem hp
    have := hz.e e' _ h1 h0
    have := wle 0 _ _ h0 hx0
    omega
  have led5 := fun S => led_ok (c := wall c e) (ss := ss) (xs := ws) hw.sz hws (by rw [wl]; exact henz) (by omega) S
  have le2 : Le (ledF (wall c e) zs ss) (ledF (wall c e) ws ss) := led_mono ⟨wl.symm, wle⟩
  refine ⟨a8, b8, ?_⟩
  simp only [List.set_set] at sp on st sh fu st2 fu2
  have lcm : ∀ (S : Sto) (e0 e1 e2 e3 e4 e5 e6 e7 e9 e10 e11 e12 e13 e15 : Option D), lcL (.one 14) mYes (mCall 1 f_law_mirrored (mCons (mVar 14) (mNil))) [e0, e1, e2, e3, e4, e5, e6, e7, some (.lst (ss.map stD)), e9, e10, e11, e12, e13, none, e15] (ss.map stD) S = .ok (ss.map (stD ∘ mirS)) S :=
    fun S _ _ _ _ _ _ _ _ _ _ _ _ _ _ => lcL_of fun s h => ⟨_, rfl, by simp [mirrored_ok]⟩
  have hle : ss.length ≤ 16777216 := by omega
  have lx1 := led_len ss (bare c) ys
  have lx2 := led_len ss (wall c e) zs
  have rng : ∀ (i : Nat) (ts : List Int) (env : Gn.Env) (S : Sto), env[i]? = some (some (tupI ts)) → ts.length ≤ 1000000 → mRng1 (mCons (mArgs (fun ds S => noex (lenD ds S)) (mCons (mVar i) (mNil))) (mNil)) env S = .ok (rangeD 0 (ts.length : Nat)) S :=
    fun i ts env S h1 h2 => rng1_ok (by simp [h1]) (smallR_ok (by omega) (by omega))
  have le1l := le1.len
  have le2l := le2.len
  simp only [List.map_map] at made2
  have r1 : ∀ (env : Gn.Env) (S : Sto), env[4]? = some (some (tupI (ledF (bare c) ys ss))) → mRng1 (mCons (mArgs (fun ds S => noex (lenD ds S)) (mCons (mVar 4) (mNil))) (mNil)) env S = .ok (rangeD 0 ((ledF (bare c) ys ss).length : Nat)) S := fun env S h => rng 4 _ env S h (by omega)
  have r2 : ∀ (env : Gn.Env) (S : Sto), env[13]? = some (some (tupI (ledF (wall c e) zs ss))) → mRng1 (mCons (mArgs (fun ds S => noex (lenD ds S)) (mCons (mVar 13) (mNil))) (mNil)) env S = .ok (rangeD 0 ((ledF (wall c e) zs ss).length : Nat)) S := fun env S h => rng 13 _ env S h (by omega)
  have c1 : ∀ (env : Gn.Env) (S : Sto), env[4]? = some (some (tupI (ledF (bare c) ys ss))) → env[2]? = some (some (tupI (ledF (bare c) xs ss))) → 15 < env.length → lcL (.one 15) (mTst (mBin ltD (mBin ixD (mVar 4) (mVar 15)) (mBin ixD (mVar 2) (mVar 15)))) (mVar 15) env (rangeD 0 ((ledF (bare c) ys ss).length : Nat)) S = .ok [] S := fun env S h1 h2 h3 => cmp_loop le1 h1 h2 (by omega) (by omega) h3 _ (by omega) S
  have c2 : ∀ (env : Gn.Env) (S : Sto), env[6]? = some (some (tupI (ledF (wall c e) ws ss))) → env[13]? = some (some (tupI (ledF (wall c e) zs ss))) → 15 < env.length → lcL (.one 15) (mTst (mBin ltD (mBin ixD (mVar 6) (mVar 15)) (mBin ixD (mVar 13) (mVar 15)))) (mVar 15) env (rangeD 0 ((ledF (wall c e) ws ss).length : Nat)) S = .ok [] S := fun env S h1 h2 h3 => cmp_loop le2 h1 h2 (by omega) (by omega) h3 _ (by omega) S
  obtain ⟨K0, hK0⟩ : ∃ K0 : Option D, K0 = some (.cell k) := ⟨_, rfl⟩
  unfold f_law_right
  rw [s_fnD]
  unfold b_law_right
  show fin Z.length 0 (mSeq _ _ [some (.cell k), none, none, none, none, none, none, none, none, none, none, none, none, none, none, none] Z) = _
  refine seq_nx (e' := [some (.cell k), none, none, none, none, none, none, some (clD c), some (.lst (ss.map stD)), some (.int (n : Nat)), none, none, none, none, none, none]) (S' := Z.set k (cn a1 b1)) (by simp [all_words_ok, sk]) ?_
  refine seq_nx (e' := [some (.cell k), some (.int e), none, none, none, none, none, some (clD c), some (.lst (ss.map stD)), some (.int (n : Nat)), none, none, none, none, none, none]) (S' := Z.set k (cn a3 b3)) (by simp [sp, on]) ?_
  refine seq_nx (e' := [some (.cell k), some (.int e), none, none, none, none, none, some (clD (bare c)), some (.lst (ss.map stD)), some (.int (n : Nat)), some (clD (wall c e)), none, none, none, none, none]) (S' := Z.set k (cn a3 b3)) (by simp [sl_bare, add_wall]) ?_
  refine seq_nx (e' := [some (.cell k), some (.int e), none, none, none, none, none, some (clD (bare c)), some (.lst (ss.map stD)), some (.int (n : Nat)), some (clD (wall c e)), some (scD (bare c) ss), some (tupI xs), none, none, none]) (S' := Z.set k (cn a4 b4)) (by simp [made, st, tupleD]) ?_
  refine seq_nx (e' := [some (.cell k), some (.int e), some (tupI (ledF (bare c) xs ss)), none, none, none, none, some (clD (bare c)), some (.lst (ss.map stD)), some (.int (n : Nat)), some (clD (wall c e)), some (scD (bare c) ss), some (tupI xs), none, none, none]) (S' := Z.set k (cn a4 b4)) (by simp [led1]) ?_
  refine seq_nx (e' := [some (.cell k), some (.int e), some (tupI (ledF (bare c) xs ss)), some (scD (bare c) (ss.map mirS)), none, none, none, some (clD (bare c)), some (.lst (ss.map stD)), some (.int (n : Nat)), some (clD (wall c e)), some (scD (bare c) ss), some (tupI xs), none, none, none]) (S' := Z.set k (cn a4 b4)) (by simp [lcm, hle, made2]) ?_
  refine seq_nx (e' := [some (.cell k), some (.int e), some (tupI (ledF (bare c) xs ss)), some (scD (bare c) (ss.map mirS)), none, none, none, some (clD (bare c)), some (.lst (ss.map stD)), some (.int (n : Nat)), some (clD (wall c e)), some (scD (bare c) ss), some (tupI xs), none, none, none]) (S' := Z.set k (cn a4 b4)) (by simp [im1, led2, im2]) ?_
  refine seq_nx (e' := [some (.cell k), some (.int e), some (tupI (ledF (bare c) xs ss)), some (scD (bare c) (ss.map mirS)), none, none, none, some (clD (bare c)), some (.lst (ss.map stD)), some (.int (n : Nat)), some (clD (wall c e)), some (scD (bare c) ss), some (tupI xs), none, none, none]) (S' := Z.set k (cn a5 b5)) (by simp [sh]) ?_
  refine seq_nx (e' := [some (.cell k), some (.int e), some (tupI (ledF (bare c) xs ss)), some (scD (bare c) (ss.map mirS)), some (tupI (ledF (bare c) ys ss)), none, none, some (clD (bare c)), some (.lst (ss.map stD)), some (.int (n : Nat)), some (clD (wall c e)), some (scD (bare c) ss), some (tupI xs), none, none, none]) (S' := Z.set k (cn a6 b6)) (by simp [fu, tupleD, led3]) ?_
  refine seq_nx (e' := [some (.cell k), some (.int e), some (tupI (ledF (bare c) xs ss)), some (scD (bare c) (ss.map mirS)), some (tupI (ledF (bare c) ys ss)), none, none, some (clD (bare c)), some (.lst (ss.map stD)), some (.int (n : Nat)), some (clD (wall c e)), some (scD (bare c) ss), some (tupI xs), none, none, none]) (S' := Z.set k (cn a6 b6)) (by simp [le1l, r1, c1, eq00]) ?_
  refine seq_nx (e' := [some (.cell k), some (.int e), some (tupI (ledF (bare c) xs ss)), some (scD (bare c) (ss.map mirS)), some (tupI (ledF (bare c) ys ss)), some (.lst (zs.map .int)), none, some (clD (bare c)), some (.lst (ss.map stD)), some (.int (n : Nat)), some (clD (wall c e)), some (scD (bare c) ss), some (tupI xs), none, none, none]) (S' := Z.set k (cn a7 b7)) (by simp [st2]) ?_
  refine seq_nx (e' := [some (.cell k), some (.int e), some (tupI (ledF (bare c) xs ss)), some (scD (bare c) (ss.map mirS)), some (tupI (ledF (bare c) ys ss)), some (.lst (zs.map .int)), some (tupI ws), some (clD (bare c)), some (.lst (ss.map stD)), some (.int (n : Nat)), some (clD (wall c e)), some (scD (bare c) ss), some (tupI xs), some (tupI (ledF (wall c e) zs ss)), none, none]) (S' := Z.set k (cn a8 b8)) (by simp [made3, tupleD, led4, fu2]) ?_
  refine seq_nx (e' := [some (.cell k), some (.int e), some (tupI (ledF (bare c) xs ss)), some (scD (bare c) (ss.map mirS)), some (tupI (ledF (bare c) ys ss)), some (.lst (zs.map .int)), some (tupI (ledF (wall c e) ws ss)), some (clD (bare c)), some (.lst (ss.map stD)), some (.int (n : Nat)), some (clD (wall c e)), some (scD (bare c) ss), some (tupI xs), some (tupI (ledF (wall c e) zs ss)), none, none]) (S' := Z.set k (cn a8 b8)) (by simp [made3, led5]) ?_
  simp [le2l, r2, c2, eq00]
theorem law_loop (ns : List Int) (hl : ns.length ≤ 63) (e0 e1 : Option D) (he : e0 = some (.lsc (ns.map .int))) : ∀ (m i : Nat) (Z : Sto), i + m ≤ 63 → ∃ S, lcL (.one 1) mYes (mCall 1 f_law_right (mCons (mCall 2 f_law_can (mCons (mVar 0) (mCons (mVar 1) (mNil)))) (mNil))) [e0, e1] ((List.range' i m).map fun k : Nat => D.int (k : Nat)) Z = .ok ((List.replicate m true).map .bl) S
  | 0, i, Z, _ => ⟨Z, rfl⟩
  | m + 1, i, Z, h => by
    obtain ⟨a, b, hcan⟩ := can_ok ns i (by omega) Z hl
    obtain ⟨a', b', hr⟩ := right_ok (Z := Z ++ [cn a b]) (k := Z.length) (a := a) (b := b) (by simp)
    obtain ⟨S, ih⟩ := law_loop ns hl e0 e1 he m (i + 1) ((Z ++ [cn a b]).set Z.length (cn a' b')) (by omega)
    subst he
    refine ⟨S, ?_⟩
    rw [List.range'_succ, List.map_cons, lcL_cons]
    simp only [put_one, List.set_cons_zero, List.set_cons_succ]
    simp at ih
    simp [hcan, hr, ih, List.replicate_succ]
theorem law_true (ns : List Int) (hl : ns.length ≤ 63) : ∃ S, f_law [.lsc (ns.map .int)] [] = .ok (.bl true) S := by
  obtain ⟨m, hm⟩ : ∃ m : Nat, max 2 (min (ns.length : Int) 5) = m := ⟨(max 2 (min (ns.length : Int) 5)).toNat, by omega⟩
  have hm5 : m ≤ 5 := by omega
  obtain ⟨S, h⟩ := law_loop ns hl (some (.lsc (ns.map .int))) none rfl m 0 [] (by omega)
  have hr : mRng1 (mCons (mArgs (fun ds S => noex (maxD ds S)) (mCons (mC (.int 2)) (mCons (mArgs (fun ds S => noex (minD ds S)) (mCons (mArgs (fun ds S => noex (lenD ds S)) (mCons (mVar 0) (mNil))) (mCons (mC (.int 5)) (mNil)))) (mNil)))) (mNil)) [some (.lsc (ns.map .int)), none] [] = .ok ((List.range' 0 m).map fun k : Nat => D.int (k : Nat)) [] := by
    have e : rangeD 0 (m : Int) = (List.range' 0 m).map fun k : Nat => D.int (k : Nat) := by
      rw [rangeD, List.range'_eq_map_range, List.map_map]
      simp [Function.comp_def]
    rw [← e]
    exact rng1_ok (by simp [hm]) (smallR_ok (by omega) (by omega))
  refine ⟨[], ?_⟩
  have hb : blsOf ((List.replicate m true).map .bl) = some (List.replicate m true) := blsOf_bls _
  simp at h
  simp at hb
  simp [f_law, b_law, hr, h, show m ≤ 16777216 by omega, hb]
end K51

namespace K51
open PySem PySem.Spec PyProof.Rows L2 He Gn

structure Fx (K : PySem.W.Frag) (mg : Str → Option Value) : Prop where
  a_Rail_held : NoAttr K (ga K "Rail") "held"
  a_Script_floor : NoAttr K (ga K "Script") "floor"
  a_Script_goods : NoAttr K (ga K "Script") "goods"
  a_Script_steps : NoAttr K (ga K "Script") "steps"
  a_Script_told : NoAttr K (ga K "Script") "told"
  b_abs : mg "abs" = none
  b_all : mg "all" = none
  b_bool : mg "bool" = none
  b_divmod : mg "divmod" = none
  b_enumerate : mg "enumerate" = none
  b_int : mg "int" = none
  b_isinstance : mg "isinstance" = none
  b_len : mg "len" = none
  b_max : mg "max" = none
  b_min : mg "min" = none
  b_range : mg "range" = none
  b_str : mg "str" = none
  b_tuple : mg "tuple" = none
  g_FIGURES : glVal K mg "FIGURES" (.str "0123456789")
  g_MOST_CLOTH : glVal K mg "MOST_CLOTH" (.int 9)
  g_MOST_MOVES : glVal K mg "MOST_MOVES" (.int 10)
  g_MOST_NAMED : glVal K mg "MOST_NAMED" (.int 5)
  g_MOST_PLACE : glVal K mg "MOST_PLACE" (.int 99)
  g_SIDES : glVal K mg "SIDES" (.tup [(.str "left"), (.str "right")])
  i_Script : IsiC K mg "Script"
  k_Rail : ClsAt K mg "Rail" (ga K "Rail")
  k_Script : ClsAt K mg "Script" (ga K "Script")
  n_Script : glVal K mg "Script" (.nm "Script")
section
variable {P : Program} {wd : World} {K : PySem.W.Frag} {mg : Str → Option Value} {base : Heap}
theorem fs_law_can : FnScope N_law_can ["cells", "turn"] scope_law_can := ⟨rfl, rfl, rfl, by decide +kernel, rfl, by decide +kernel, by decide +kernel⟩
theorem ok_law_can {f : Addr} {fd : FuncData} (F : FunD K "_law_can" "_law_can" (defArgs (top 48)) (defBody (top 48)) scope_law_can [] [] f fd) (T : Fx K mg) : FnOk P wd K mg base (L2.CX P wd) 1 f fd ["cells", "turn"] (spM K mg 2 (fnD 5 1 b_law_can)) :=
  fn_body (N := N_law_can) (k := 0) (nx := 1) (m := b_law_can) F fs_law_can fun _ _ _ _ _ _ os o => ess_cons (es_set 2 o.nd (ev_if (et_cmp od_lt (ev_var 1) (ev_callB cd_len (by rfl) T.b_len bt_len (ea_cons (ev_var 0) (ea_nil))) (nomark _)) (ev_ix (ev_var 0) (ev_var 1) (fun _ _ => rfl)) (ev_bin od_mul (ev_int) (ev_bin od_add (ev_var 1) (ev_int))))) (ess_cons (es_set 3 o.nd (ev_bin od_add (ev_int) (ev_bin od_mul (ev_int) (ev_var 1)))) (ess_cons (es_for os (ei_list (ev_bin od_add (ev_slice (ev_var 0) (eo_none) (eo_some (ev_int))) (ev_lst (ea_cons (ev_var 2) (ea_nil))))) (tg_name 4 o.nd) (ess_one (es_set 3 o.nd (ev_bin od_mod (ev_callTy cd_int (by rfl) T.b_int bt_int (ea_cons (ev_bin od_add (ev_bin od_add (ev_bin od_mul (ev_var 3) (ev_int)) (ev_bin od_mod (ev_callTy cd_int (by rfl) T.b_int bt_int (ea_cons (ev_var 4) (ea_nil))) (ev_int))) (ev_int)) (ea_nil))) (ev_int))))) (ess_one (es_ret (ev_cell (ea_cons (ev_if ((ew_or (et_cmp od_lt (ev_var 2) (ev_int) (nomark _)) (ew_or1 (et_cmp od_ge (ev_var 2) (ev_bin od_pow (ev_int) (ev_int)) (nomark _)))).et) (ev_callB cd_abs (by rfl) T.b_abs bt_abs (ea_cons (ev_var 2) (ea_nil))) (ev_int)) (ea_cons (ev_var 3) (ea_nil))))))))
theorem fs_law_all_words : FnScope N_law_all_words [] scope_law_all_words := ⟨rfl, rfl, rfl, by decide +kernel, rfl, by decide +kernel, by decide +kernel⟩
theorem ok_law_all_words {f : Addr} {fd : FuncData} (F : FunD K "_law_all_words" "_law_all_words" (defArgs (top 64)) (defBody (top 64)) scope_law_all_words [] [] f fd) (T : Fx K mg) : FnOk P wd K mg base (L2.CX P wd) 1 f fd [] (spM K mg 0 (fnD 0 0 b_law_all_words)) :=
  fn_body (N := N_law_all_words) (k := 0) (nx := 0) (m := b_law_all_words) F fs_law_all_words fun _ _ _ _ _ _ os o => ess_one (es_ret (ev_lst (ea_cons (ev_str) (ea_cons (ev_str) (ea_cons (ev_str) (ea_cons (ev_str) (ea_cons (ev_str) (ea_cons (ev_str) (ea_cons (ev_str) (ea_cons (ev_str) (ea_cons (ev_str) (ea_nil))))))))))))
theorem fs_law_pour : FnScope N_law_pour ["can", "top"] scope_law_pour := ⟨rfl, rfl, rfl, by decide +kernel, rfl, by decide +kernel, by decide +kernel⟩
theorem ok_law_pour {f : Addr} {fd : FuncData} (F : FunD K "_law_pour" "_law_pour" (defArgs (top 49)) (defBody (top 49)) scope_law_pour [] [] f fd) (T : Fx K mg) : FnOk P wd K mg base (L2.CX P wd) 1 f fd ["can", "top"] (spM K mg 2 (fnD 3 0 b_law_pour)) :=
  fn_body (N := N_law_pour) (k := 0) (nx := 0) (m := b_law_pour) F fs_law_pour fun _ _ _ _ _ _ os o => ess_cons (es_if (et_cmp od_gt (ev_ix (ev_var 0) (ev_int) (fun _ _ => rfl)) (ev_int) (nomark _)) (ess_cons (es_setIxN (ev_var 0) (ev_int) 2 o (ev_callB cd_divmod (by rfl) T.b_divmod bt_divmod (ea_cons (ev_ix (ev_var 0) (ev_int) (fun _ _ => rfl)) (ea_cons (ev_var 1) (ea_nil))))) (ess_one (es_ret (ev_var 2)))) (ess_nil)) (ess_cons (es_setIx (ev_var 0) (ev_int) (ev_bin od_mod (ev_callTy cd_int (by rfl) T.b_int bt_int (ea_cons (ev_bin od_add (ev_bin od_mul (ev_ix (ev_var 0) (ev_int) (fun _ _ => rfl)) (ev_int)) (ev_int)) (ea_nil))) (ev_int))) (ess_one (es_ret (ev_bin od_mod (ev_callTy cd_int (by rfl) T.b_int bt_int (ea_cons (ev_bin od_fdiv (ev_ix (ev_var 0) (ev_int) (fun _ _ => rfl)) (ev_int)) (ea_nil))) (ev_var 1)))))
theorem fs_law_one : FnScope N_law_one ["can", "things"] scope_law_one := ⟨rfl, rfl, rfl, by decide +kernel, rfl, by decide +kernel, by decide +kernel⟩
theorem ok_law_one {f : Addr} {fd : FuncData} (F : FunD K "_law_one" "_law_one" (defArgs (top 50)) (defBody (top 50)) scope_law_one [] [] f fd) (T : Fx K mg) (h_law_pour : Cal P wd K mg base 1 "_law_pour" ["can", "top"] f_law_pour) : FnOk P wd K mg base (L2.CX P wd) 2 f fd ["can", "things"] (spM K mg 2 (fnD 2 0 b_law_one)) :=
  fn_body (N := N_law_one) (k := 1) (nx := 0) (m := b_law_one) F fs_law_one fun _ _ _ _ _ _ os o => ess_one (es_ret (ev_ix (ev_var 1) (ev_call h_law_pour o.room o.px (by rfl) (ea_cons (ev_var 0) (ea_cons (ev_callB cd_len (by rfl) T.b_len bt_len (ea_cons (ev_var 1) (ea_nil))) (ea_nil)))) (fun _ _ => rfl)))
theorem fs_law_further : FnScope N_law_further ["can", "goods", "spots"] scope_law_further := ⟨rfl, rfl, rfl, by decide +kernel, rfl, by decide +kernel, by decide +kernel⟩
theorem ok_law_further {f : Addr} {fd : FuncData} (F : FunD K "_law_further" "_law_further" (defArgs (top 69)) (defBody (top 69)) scope_law_further [] [] f fd) (T : Fx K mg) (h_law_one : Cal P wd K mg base 2 "_law_one" ["can", "things"] f_law_one) (h_law_pour : Cal P wd K mg base 1 "_law_pour" ["can", "top"] f_law_pour) : FnOk P wd K mg base (L2.CX P wd) 3 f fd ["can", "goods", "spots"] (spM K mg 3 (fnD 6 0 b_law_further)) :=
  fn_body (N := N_law_further) (k := 2) (nx := 0) (m := b_law_further) F fs_law_further fun _ _ _ _ _ _ os o => ess_cons (es_set 3 o.nd (ev_cell (ea_cons (ev_bin od_add (ev_ix (ev_var 2) (ev_int) (fun _ _ => rfl)) (ev_call h_law_one o.room o.px (by rfl) (ea_cons (ev_var 0) (ea_cons (ev_lst (ea_cons (ev_int) (ea_cons (ev_int) (ea_cons (ev_int) (ea_cons (ev_int) (ea_nil)))))) (ea_nil))))) (ea_nil)))) (ess_cons (es_for os (ei_range2 (by rfl) T.b_range (ea_cons (ev_int) (ea_cons (ev_callB cd_len (by rfl) T.b_len bt_len (ea_cons (ev_var 2) (ea_nil))) (ea_nil)))) (tg_name 4 o.nd) (ess_cons (es_set 5 o.nd (ev_callB (cd_max o.calm) (by rfl) T.b_max bt_max (ea_cons (ev_ix (ev_var 2) (ev_var 4) (fun _ _ => rfl)) (ea_cons (ev_bin od_add (ev_ix (ev_var 3) (ev_un ud_neg (ev_int)) (fun _ _ => rfl)) (ev_ix (ev_var 1) (ev_int) (fun _ _ => rfl))) (ea_nil))))) (ess_one (es_expr (ev_append (ev_var 3) (ea_cons (ev_callB (cd_min o.calm) (by rfl) T.b_min bt_min (ea_cons (ev_bin od_add (ev_var 5) (ev_call h_law_pour o.room o.px (by rfl) (ea_cons (ev_var 0) (ea_cons (ev_int) (ea_nil))))) (ea_cons (ev_bin od_add (ev_ix (ev_var 3) (ev_un ud_neg (ev_int)) (fun _ _ => rfl)) (ev_ix (ev_var 1) (ev_int) (fun _ _ => rfl))) (ea_nil)))) (ea_nil))))))) (ess_one (es_ret (ev_freeze (ev_var 3)))))
theorem fs_law_in_mirror : FnScope N_law_in_mirror ["spots"] scope_law_in_mirror := ⟨rfl, rfl, rfl, by decide +kernel, rfl, by decide +kernel, by decide +kernel⟩
theorem ok_law_in_mirror {f : Addr} {fd : FuncData} (F : FunD K "_law_in_mirror" "_law_in_mirror" (defArgs (top 67)) (defBody (top 67)) scope_law_in_mirror [] [] f fd) (T : Fx K mg) : FnOk P wd K mg base (L2.CX P wd) 1 f fd ["spots"] (spM K mg 1 (fnD 2 0 b_law_in_mirror)) :=
  fn_body (N := N_law_in_mirror) (k := 0) (nx := 0) (m := b_law_in_mirror) F fs_law_in_mirror fun _ _ _ _ _ _ os o => ess_one (es_ret (ev_callTy cd_tuple (by rfl) T.b_tuple bt_tuple (ea_cons (ev_lc o (blkOk_by (own := [("spot", 1)]) (N := N_law_in_mirror) (sc := scope_law_in_mirror) (by decide +kernel)) (lcok o (ei_tup (ev_rev (ev_var 0))) (fun _ _ _ _ _ o => tg_name 1 o.nd) (fun _ _ _ _ _ o => ets_nil) (fun _ _ _ _ _ o => ev_un ud_neg (ev_var 1)) (by decide))) (ea_nil))))
theorem fs_law_head : FnScope N_law_head ["goods"] scope_law_head := ⟨rfl, rfl, rfl, by decide +kernel, rfl, by decide +kernel, by decide +kernel⟩
theorem ok_law_head {f : Addr} {fd : FuncData} (F : FunD K "_law_head" "_law_head" (defArgs (top 56)) (defBody (top 56)) scope_law_head [] [] f fd) (T : Fx K mg) : FnOk P wd K mg base (L2.CX P wd) 1 f fd ["goods"] (spM K mg 1 (fnD 2 0 b_law_head)) :=
  fn_body (N := N_law_head) (k := 0) (nx := 0) (m := b_law_head) F fs_law_head fun _ _ _ _ _ _ os o => ess_cons (es_set 1 o.nd (ev_if (et_cmp (od_eq o.units) (ev_callB cd_len (by rfl) T.b_len bt_len (ea_cons (ev_var 0) (ea_nil))) (ev_int) (nomark _)) (ev_bin od_add (ev_str) (ev_callTy cd_str (by rfl) T.b_str bt_str (ea_cons (ev_ix (ev_var 0) (ev_int) (fun _ _ => rfl)) (ea_nil)))) (ev_str))) (ess_one (es_ret (ev_bin od_add (ev_bin od_add (ev_bin od_add (ev_bin od_add (ev_str) (ev_callTy cd_str (by rfl) T.b_str bt_str (ea_cons (ev_ix (ev_var 0) (ev_int) (fun _ _ => rfl)) (ea_nil)))) (ev_str)) (ev_callTy cd_str (by rfl) T.b_str bt_str (ea_cons (ev_ix (ev_var 0) (ev_int) (fun _ _ => rfl)) (ea_nil)))) (ev_var 1))))
theorem fs_law_line : FnScope N_law_line ["step"] scope_law_line := ⟨rfl, rfl, rfl, by decide +kernel, rfl, by decide +kernel, by decide +kernel⟩
theorem ok_law_line {f : Addr} {fd : FuncData} (F : FunD K "_law_line" "_law_line" (defArgs (top 55)) (defBody (top 55)) scope_law_line [] [] f fd) (T : Fx K mg) : FnOk P wd K mg base (L2.CX P wd) 1 f fd ["step"] (spM K mg 1 (fnD 4 0 b_law_line)) :=
  fn_body (N := N_law_line) (k := 0) (nx := 0) (m := b_law_line) F fs_law_line fun _ _ _ _ _ _ os o => ess_cons (es_tg (ev_var 0) (tg_tup o.calm (tgs_cons 1 o.nd (tgs_cons 2 o.nd (tgs_cons 3 o.nd (tgs_nil)))))) (ess_cons (es_if (et_cmp od_in (ev_var 1) (ev_lst (ea_cons (ev_str) (ea_cons (ev_str) (ea_nil)))) rfl) (ess_one (es_ret (ev_bin od_add (ev_bin od_add (ev_bin od_add (ev_bin od_add (ev_var 1) (ev_str)) (ev_callTy cd_str (by rfl) T.b_str bt_str (ea_cons (ev_var 2) (ea_nil)))) (ev_str)) (ev_callTy cd_str (by rfl) T.b_str bt_str (ea_cons (ev_var 3) (ea_nil)))))) (ess_nil)) (ess_cons (es_if (et_cmp (od_eq o.units) (ev_var 1) (ev_str) (nomark _)) (ess_one (es_ret (ev_bin od_add (ev_str) (ev_var 2)))) (ess_nil)) (ess_one (es_ret (ev_if (et_cmp (od_eq o.units) (ev_var 1) (ev_str) (nomark _)) (ev_bin od_add (ev_str) (ev_callTy cd_str (by rfl) T.b_str bt_str (ea_cons (ev_var 3) (ea_nil)))) (ev_bin od_add (ev_bin od_add (ev_bin od_add (ev_bin od_add (ev_var 1) (ev_str)) (ev_var 2)) (ev_str)) (ev_callTy cd_str (by rfl) T.b_str bt_str (ea_cons (ev_var 3) (ea_nil)))))))))
theorem fs_law_rows : FnScope N_law_rows ["goods", "steps"] scope_law_rows := ⟨rfl, rfl, rfl, by decide +kernel, rfl, by decide +kernel, by decide +kernel⟩
theorem ok_law_rows {f : Addr} {fd : FuncData} (F : FunD K "_law_rows" "_law_rows" (defArgs (top 57)) (defBody (top 57)) scope_law_rows [] [] f fd) (T : Fx K mg) (h_law_head : Cal P wd K mg base 1 "_law_head" ["goods"] f_law_head) (h_law_line : Cal P wd K mg base 1 "_law_line" ["step"] f_law_line) : FnOk P wd K mg base (L2.CX P wd) 2 f fd ["goods", "steps"] (spM K mg 2 (fnD 3 0 b_law_rows)) :=
  fn_body (N := N_law_rows) (k := 1) (nx := 0) (m := b_law_rows) F fs_law_rows fun _ _ _ _ _ _ os o => ess_one (es_ret (ev_bin od_add (ev_lst (ea_cons (ev_call h_law_head o.room o.px (by rfl) (ea_cons (ev_var 0) (ea_nil))) (ea_nil))) (ev_lc o (blkOk_by (own := [("step", 2)]) (N := N_law_rows) (sc := scope_law_rows) (by decide +kernel)) (lcok o (ei_list (ev_var 1)) (fun _ _ _ _ _ o => tg_name 2 o.nd) (fun _ _ _ _ _ o => ets_nil) (fun _ _ _ _ _ o => ev_call h_law_line o.room o.px (by rfl) (ea_cons (ev_var 2) (ea_nil))) (by decide)))))
theorem fs_is_integer : FnScope N_is_integer ["value"] scope_is_integer := ⟨rfl, rfl, rfl, by decide +kernel, rfl, by decide +kernel, by decide +kernel⟩
theorem ok_is_integer {f : Addr} {fd : FuncData} (F : FunD K "is_integer" "is_integer" (defArgs (top 21)) (defBody (top 21)) scope_is_integer [] [] f fd) (T : Fx K mg) : FnOk P wd K mg base (L2.CX P wd) 1 f fd ["value"] (spM K mg 1 (fnD 1 0 b_is_integer)) :=
  fn_body (N := N_is_integer) (k := 0) (nx := 0) (m := b_is_integer) F fs_is_integer fun _ _ _ _ _ _ os o => ess_one (es_ret (ev_andV (ev_callB cd_isi (by rfl) T.b_isinstance bt_isinstance (ea_cons (ev_var 0) (ea_cons ((ev_bltn (d := .ty "int") (v := .ty "int") (by rfl) T.b_int bt_int (by rfl) (fun _ => rfl))) (ea_nil)))) (ev_one (ev_notV (ev_callB cd_isi (by rfl) T.b_isinstance bt_isinstance (ea_cons (ev_var 0) (ea_cons ((ev_bltn (d := .ty "bool") (v := .ty "bool") (by rfl) T.b_bool bt_bool (by rfl) (fun _ => rfl))) (ea_nil))))))))
theorem fs_is_cloth : FnScope N_is_cloth ["value"] scope_is_cloth := ⟨rfl, rfl, rfl, by decide +kernel, rfl, by decide +kernel, by decide +kernel⟩
theorem ok_is_cloth {f : Addr} {fd : FuncData} (F : FunD K "is_cloth" "is_cloth" (defArgs (top 25)) (defBody (top 25)) scope_is_cloth [] [] f fd) (T : Fx K mg) (h_is_integer : Cal P wd K mg base 1 "is_integer" ["value"] f_is_integer) : FnOk P wd K mg base (L2.CX P wd) 2 f fd ["value"] (spM K mg 1 (fnD 2 0 b_is_cloth)) :=
  fn_body (N := N_is_cloth) (k := 1) (nx := 0) (m := b_is_cloth) F fs_is_cloth fun _ _ _ _ _ _ os o => ess_cons (es_if ((ew_or (et_not (et_tru (ev_callB cd_isi (by rfl) T.b_isinstance bt_isinstance (ea_cons (ev_var 0) (ea_cons ((ev_bltn (d := .ty "tuple") (v := .ty "tuple") (by rfl) T.b_tuple bt_tuple (by rfl) (fun _ => rfl))) (ea_nil)))))) (ew_or (et_cmp od_notin (ev_callB cd_len (by rfl) T.b_len bt_len (ea_cons (ev_var 0) (ea_nil))) (ev_tup (ea_cons (ev_int) (ea_cons (ev_int) (ea_nil)))) rfl) (ew_or1 (et_not (et_tru (ev_callB (cd_all o.calm) (by rfl) T.b_all bt_all (ea_cons (ev_lc o (blkOk_by (own := [("part", 1)]) (N := N_is_cloth) (sc := scope_is_cloth) (by decide +kernel)) (lcok o (ei_tup (ev_var 0)) (fun _ _ _ _ _ o => tg_name 1 o.nd) (fun _ _ _ _ _ o => ets_nil) (fun _ _ _ _ _ o => ev_call h_is_integer o.room o.px (by rfl) (ea_cons (ev_var 1) (ea_nil))) (by decide))) (ea_nil)))))))).et) (ess_one (es_ret (ev_bl))) (ess_nil)) (ess_cons (es_if (et_not (et_chain3 od_le od_lt od_le (ev_int) (ev_ix (ev_var 0) (ev_int) (fun _ _ => rfl)) (ev_ix (ev_var 0) (ev_int) (fun _ _ => rfl)) (ev_glob (by rfl) T.g_MOST_CLOTH))) (ess_one (es_ret (ev_bl))) (ess_nil)) (ess_one (es_ret (ev_orV (ev_cmp (od_eq o.units) (ev_callB cd_len (by rfl) T.b_len bt_len (ea_cons (ev_var 0) (ea_nil))) (ev_int) (nomark _)) (ev_one (ev_chain od_le od_le (ev_un ud_neg (ev_glob (by rfl) T.g_MOST_PLACE)) (ev_ix (ev_var 0) (ev_int) (fun _ _ => rfl)) (ev_glob (by rfl) T.g_MOST_PLACE)))))))
theorem fs_number_in : FnScope N_number_in ["word"] scope_number_in := ⟨rfl, rfl, rfl, by decide +kernel, rfl, by decide +kernel, by decide +kernel⟩
theorem ok_number_in {f : Addr} {fd : FuncData} (F : FunD K "number_in" "number_in" (defArgs (top 23)) (defBody (top 23)) scope_number_in [] [] f fd) (T : Fx K mg) : FnOk P wd K mg base (L2.CX P wd) 1 f fd ["word"] (spM K mg 1 (fnD 3 0 b_number_in)) :=
  fn_body (N := N_number_in) (k := 0) (nx := 0) (m := b_number_in) F fs_number_in fun _ _ _ _ _ _ os o => ess_cons (es_set 1 o.nd (ev_if (et_cmp (od_eq o.units) (ev_slice (ev_var 0) (eo_none) (eo_some (ev_int))) (ev_str) (nomark _)) (ev_slice (ev_var 0) (eo_some (ev_int)) (eo_none)) (ev_var 0))) (ess_cons (es_if ((ew_or (et_cmp (od_eq o.units) (ev_var 1) (ev_str) (nomark _)) (ew_or1 (et_not (et_tru (ev_callB (cd_all o.calm) (by rfl) T.b_all bt_all (ea_cons (ev_lc o (blkOk_by (own := [("sign", 2)]) (N := N_number_in) (sc := scope_number_in) (by decide +kernel)) (lcok o (ei_str (ev_var 1)) (fun _ _ _ _ _ o => tg_name 2 o.nd) (fun _ _ _ _ _ o => ets_nil) (fun _ _ _ _ _ o => ev_cmp od_in (ev_var 2) (ev_glob (by rfl) T.g_FIGURES) rfl) (by decide))) (ea_nil))))))).et) (ess_one (es_ret (ev_non))) (ess_nil)) (ess_cons (es_if ((ew_and (et_cmp (od_eq o.units) (ev_ix (ev_var 1) (ev_int) (fun _ _ => rfl)) (ev_str) (nomark _)) (ew_and1 (et_cmp (od_ne o.units) (ev_var 0) (ev_str) (nomark _)))).et) (ess_one (es_ret (ev_non))) (ess_nil)) (ess_one (es_ret (ev_callTy cd_int (by rfl) T.b_int bt_int (ea_cons (ev_var 0) (ea_nil)))))))
theorem fs_cloth_in : FnScope N_cloth_in ["row"] scope_cloth_in := ⟨rfl, rfl, rfl, by decide +kernel, rfl, by decide +kernel, by decide +kernel⟩
theorem ok_cloth_in {f : Addr} {fd : FuncData} (F : FunD K "cloth_in" "cloth_in" (defArgs (top 26)) (defBody (top 26)) scope_cloth_in [] [] f fd) (T : Fx K mg) (h_is_cloth : Cal P wd K mg base 2 "is_cloth" ["value"] f_is_cloth) (h_number_in : Cal P wd K mg base 1 "number_in" ["word"] f_number_in) : FnOk P wd K mg base (L2.CX P wd) 3 f fd ["row"] (spM K mg 1 (fnD 4 0 b_cloth_in)) :=
  fn_body (N := N_cloth_in) (k := 2) (nx := 0) (m := b_cloth_in) F fs_cloth_in fun _ _ _ _ _ _ os o => ess_cons (es_set 1 o.nd (ev_if (et_tru (ev_callB cd_isi (by rfl) T.b_isinstance bt_isinstance (ea_cons (ev_var 0) (ea_cons ((ev_bltn (d := .ty "str") (v := .ty "str") (by rfl) T.b_str bt_str (by rfl) (fun _ => rfl))) (ea_nil))))) (ev_split (ev_var 0) (ev_str)) (ev_lst (ea_nil)))) (ess_cons (es_if ((ew_or (et_cmp od_notin (ev_callB cd_len (by rfl) T.b_len bt_len (ea_cons (ev_var 1) (ea_nil))) (ev_tup (ea_cons (ev_int) (ea_cons (ev_int) (ea_nil)))) rfl) (ew_or (et_cmp (od_ne o.units) (ev_ix (ev_var 1) (ev_int) (fun _ _ => rfl)) (ev_str) (nomark _)) (ew_or1 ((ew_and (et_cmp (od_eq o.units) (ev_callB cd_len (by rfl) T.b_len bt_len (ea_cons (ev_var 1) (ea_nil))) (ev_int) (nomark _)) (ew_and1 (et_cmp (od_ne o.units) (ev_ix (ev_var 1) (ev_int) (fun _ _ => rfl)) (ev_str) (nomark _)))).et)))).et) (ess_one (es_ret (ev_non))) (ess_nil)) (ess_cons (es_set 2 o.nd (ev_callTy cd_tuple (by rfl) T.b_tuple bt_tuple (ea_cons (ev_lc o (blkOk_by (own := [("word", 3)]) (N := N_cloth_in) (sc := scope_cloth_in) (by decide +kernel)) (lcok o (ei_list (ev_lst (ea_star (ev_slice (ev_var 1) (eo_some (ev_int)) (eo_some (ev_int))) (ea_star (ev_slice (ev_var 1) (eo_some (ev_int)) (eo_none)) (ea_nil))))) (fun _ _ _ _ _ o => tg_name 3 o.nd) (fun _ _ _ _ _ o => ets_nil) (fun _ _ _ _ _ o => ev_call h_number_in o.room o.px (by rfl) (ea_cons (ev_var 3) (ea_nil))) (by decide))) (ea_nil)))) (ess_one (es_ret (ev_if ((ew_and (et_cmp od_notin (ev_non) (ev_var 2) rfl) (ew_and1 (et_tru (ev_call h_is_cloth o.room o.px (by rfl) (ea_cons (ev_var 2) (ea_nil)))))).et) (ev_var 2) (ev_non))))))
theorem fs_asked_by : FnScope N_asked_by ["step"] scope_asked_by := ⟨rfl, rfl, rfl, by decide +kernel, rfl, by decide +kernel, by decide +kernel⟩
theorem ok_asked_by {f : Addr} {fd : FuncData} (F : FunD K "asked_by" "asked_by" (defArgs (top 30)) (defBody (top 30)) scope_asked_by [] [] f fd) (T : Fx K mg) : FnOk P wd K mg base (L2.CX P wd) 1 f fd ["step"] (spM K mg 1 (fnD 1 0 b_asked_by)) :=
  fn_body (N := N_asked_by) (k := 0) (nx := 0) (m := b_asked_by) F fs_asked_by fun _ _ _ _ _ _ os o => ess_cons (es_if (et_cmp od_in (ev_ix (ev_var 0) (ev_int) (fun _ _ => rfl)) (ev_glob (by rfl) T.g_SIDES) rfl) (ess_one (es_ret (ev_ix (ev_var 0) (ev_int) (fun _ _ => rfl)))) (ess_nil)) (ess_one (es_ret (ev_if (et_cmp (od_eq o.units) (ev_ix (ev_var 0) (ev_int) (fun _ _ => rfl)) (ev_str) (nomark _)) (ev_int) (ev_int))))
theorem fs_more_by : FnScope N_more_by ["step"] scope_more_by := ⟨rfl, rfl, rfl, by decide +kernel, rfl, by decide +kernel, by decide +kernel⟩
theorem ok_more_by {f : Addr} {fd : FuncData} (F : FunD K "more_by" "more_by" (defArgs (top 29)) (defBody (top 29)) scope_more_by [] [] f fd) (T : Fx K mg) : FnOk P wd K mg base (L2.CX P wd) 1 f fd ["step"] (spM K mg 1 (fnD 1 0 b_more_by)) :=
  fn_body (N := N_more_by) (k := 0) (nx := 0) (m := b_more_by) F fs_more_by fun _ _ _ _ _ _ os o => ess_one (es_ret (ev_if (et_cmp (od_eq o.units) (ev_ix (ev_var 0) (ev_int) (fun _ _ => rfl)) (ev_str) (nomark _)) (ev_int) (ev_if (et_cmp (od_eq o.units) (ev_ix (ev_var 0) (ev_int) (fun _ _ => rfl)) (ev_str) (nomark _)) (ev_un ud_neg (ev_int)) (ev_int))))
theorem fs_least_for : FnScope N_least_for ["steps"] scope_least_for := ⟨rfl, rfl, rfl, by decide +kernel, rfl, by decide +kernel, by decide +kernel⟩
theorem ok_least_for {f : Addr} {fd : FuncData} (F : FunD K "least_for" "least_for" (defArgs (top 31)) (defBody (top 31)) scope_least_for [] [] f fd) (T : Fx K mg) (h_asked_by : Cal P wd K mg base 1 "asked_by" ["step"] f_asked_by) (h_more_by : Cal P wd K mg base 1 "more_by" ["step"] f_more_by) : FnOk P wd K mg base (L2.CX P wd) 2 f fd ["steps"] (spM K mg 1 (fnD 4 0 b_least_for)) :=
  fn_body (N := N_least_for) (k := 1) (nx := 0) (m := b_least_for) F fs_least_for fun _ _ _ _ _ _ os o => ess_cons (es_tg (ev_tup (ea_cons (ev_int) (ea_cons (ev_int) (ea_nil)))) (tg_tup o.calm (tgs_cons 2 o.nd (tgs_cons 3 o.nd (tgs_nil))))) (ess_cons (es_for os (ei_tup (ev_var 0)) (tg_name 1 o.nd) (ess_cons (es_set 2 o.nd (ev_callB (cd_max o.calm) (by rfl) T.b_max bt_max (ea_cons (ev_var 2) (ea_cons (ev_bin od_sub (ev_call h_asked_by o.room o.px (by rfl) (ea_cons (ev_var 1) (ea_nil))) (ev_var 3)) (ea_nil))))) (ess_one (es_augA 3 o.nd (ev_call h_more_by o.room o.px (by rfl) (ea_cons (ev_var 1) (ea_nil))))))) (ess_one (es_ret (ev_var 2))))
theorem fs_bounded : FnScope N_bounded ["word", "least", "most"] scope_bounded := ⟨rfl, rfl, rfl, by decide +kernel, rfl, by decide +kernel, by decide +kernel⟩
theorem ok_bounded {f : Addr} {fd : FuncData} (F : FunD K "bounded" "bounded" (defArgs (top 24)) (defBody (top 24)) scope_bounded [] [] f fd) (T : Fx K mg) (h_number_in : Cal P wd K mg base 1 "number_in" ["word"] f_number_in) : FnOk P wd K mg base (L2.CX P wd) 2 f fd ["word", "least", "most"] (spM K mg 3 (fnD 4 0 b_bounded)) :=
  fn_body (N := N_bounded) (k := 1) (nx := 0) (m := b_bounded) F fs_bounded fun _ _ _ _ _ _ os o => ess_cons (es_set 3 o.nd (ev_call h_number_in o.room o.px (by rfl) (ea_cons (ev_var 0) (ea_nil)))) (ess_one (es_ret (ev_if ((ew_and (et_cmp od_isnot (ev_var 3) (ev_non) (nomark _)) (ew_and1 (et_chain od_le od_le (ev_var 1) (ev_var 3) (ev_var 2)))).et) (ev_var 3) (ev_non))))
theorem fs_move_in : FnScope N_move_in ["row"] scope_move_in := ⟨rfl, rfl, rfl, by decide +kernel, rfl, by decide +kernel, by decide +kernel⟩
theorem ok_move_in {f : Addr} {fd : FuncData} (F : FunD K "move_in" "move_in" (defArgs (top 27)) (defBody (top 27)) scope_move_in [] [] f fd) (T : Fx K mg) (h_bounded : Cal P wd K mg base 2 "bounded" ["word", "least", "most"] f_bounded) : FnOk P wd K mg base (L2.CX P wd) 3 f fd ["row"] (spM K mg 1 (fnD 4 0 b_move_in)) :=
  fn_body (N := N_move_in) (k := 2) (nx := 0) (m := b_move_in) F fs_move_in fun _ _ _ _ _ _ os o => ess_cons (es_set 1 o.nd (ev_if (et_tru (ev_callB cd_isi (by rfl) T.b_isinstance bt_isinstance (ea_cons (ev_var 0) (ea_cons ((ev_bltn (d := .ty "str") (v := .ty "str") (by rfl) T.b_str bt_str (by rfl) (fun _ => rfl))) (ea_nil))))) (ev_split (ev_var 0) (ev_str)) (ev_lst (ea_cons (ev_str) (ea_nil))))) (ess_cons (es_if ((ew_and (et_cmp (od_eq o.units) (ev_callB cd_len (by rfl) T.b_len bt_len (ea_cons (ev_var 1) (ea_nil))) (ev_int) (nomark _)) (ew_and (et_cmp od_in (ev_ix (ev_var 1) (ev_int) (fun _ _ => rfl)) (ev_glob (by rfl) T.g_SIDES) rfl) (ew_and1 (et_cmp (od_eq o.units) (ev_ix (ev_var 1) (ev_int) (fun _ _ => rfl)) (ev_str) (nomark _))))).et) (ess_cons (es_par 3 2 o (ea_cons (ev_call h_bounded o.room o.px (by rfl) (ea_cons (ev_ix (ev_var 1) (ev_int) (fun _ _ => rfl)) (ea_cons (ev_int) (ea_cons (ev_glob (by rfl) T.g_MOST_NAMED) (ea_nil))))) (ea_cons (ev_call h_bounded o.room o.px (by rfl) (ea_cons (ev_ix (ev_var 1) (ev_int) (fun _ _ => rfl)) (ea_cons (ev_un ud_neg (ev_glob (by rfl) T.g_MOST_PLACE)) (ea_cons (ev_glob (by rfl) T.g_MOST_PLACE) (ea_nil))))) (ea_nil)))) (ess_one (es_ret (ev_if ((ew_or (et_cmp od_is (ev_var 3) (ev_non) (nomark _)) (ew_or1 (et_cmp od_is (ev_var 2) (ev_non) (nomark _)))).et) (ev_non) (ev_tup (ea_cons (ev_ix (ev_var 1) (ev_int) (fun _ _ => rfl)) (ea_cons (ev_var 3) (ea_cons (ev_var 2) (ea_nil))))))))) (ess_nil)) (ess_cons (es_if ((ew_and (et_cmp (od_eq o.units) (ev_callB cd_len (by rfl) T.b_len bt_len (ea_cons (ev_var 1) (ea_nil))) (ev_int) (nomark _)) (ew_and1 ((ew_or (et_cmp (od_eq o.units) (ev_slice (ev_var 1) (eo_none) (eo_some (ev_int))) (ev_lst (ea_cons (ev_str) (ea_cons (ev_str) (ea_nil)))) (nomark _)) (ew_or1 ((ew_and (et_cmp (od_eq o.units) (ev_ix (ev_var 1) (ev_int) (fun _ _ => rfl)) (ev_str) (nomark _)) (ew_and1 (et_cmp od_in (ev_ix (ev_var 1) (ev_int) (fun _ _ => rfl)) (ev_glob (by rfl) T.g_SIDES) rfl))).et))).et))).et) (ess_cons (es_set 2 o.nd (ev_call h_bounded o.room o.px (by rfl) (ea_cons (ev_ix (ev_var 1) (ev_int) (fun _ _ => rfl)) (ea_cons (ev_un ud_neg (ev_glob (by rfl) T.g_MOST_PLACE)) (ea_cons (ev_glob (by rfl) T.g_MOST_PLACE) (ea_nil)))))) (ess_one (es_ret (ev_if (et_cmp od_is (ev_var 2) (ev_non) (nomark _)) (ev_non) (ev_tup (ea_cons (ev_ix (ev_var 1) (ev_int) (fun _ _ => rfl)) (ea_cons (ev_ix (ev_var 1) (ev_int) (fun _ _ => rfl)) (ea_cons (ev_var 2) (ea_nil))))))))) (ess_nil)) (ess_cons (es_if ((ew_and (et_cmp (od_eq o.units) (ev_callB cd_len (by rfl) T.b_len bt_len (ea_cons (ev_var 1) (ea_nil))) (ev_int) (nomark _)) (ew_and1 (et_cmp (od_eq o.units) (ev_ix (ev_var 1) (ev_int) (fun _ _ => rfl)) (ev_str) (nomark _)))).et) (ess_cons (es_set 2 o.nd (ev_call h_bounded o.room o.px (by rfl) (ea_cons (ev_ix (ev_var 1) (ev_int) (fun _ _ => rfl)) (ea_cons (ev_un ud_neg (ev_glob (by rfl) T.g_MOST_PLACE)) (ea_cons (ev_glob (by rfl) T.g_MOST_PLACE) (ea_nil)))))) (ess_one (es_ret (ev_if (et_cmp od_is (ev_var 2) (ev_non) (nomark _)) (ev_non) (ev_tup (ea_cons (ev_str) (ea_cons (ev_str) (ea_cons (ev_var 2) (ea_nil))))))))) (ess_nil)) (ess_cons (es_if ((ew_and (et_cmp (od_eq o.units) (ev_callB cd_len (by rfl) T.b_len bt_len (ea_cons (ev_var 1) (ea_nil))) (ev_int) (nomark _)) (ew_and (et_cmp (od_eq o.units) (ev_ix (ev_var 1) (ev_int) (fun _ _ => rfl)) (ev_str) (nomark _)) (ew_and1 (et_cmp od_in (ev_ix (ev_var 1) (ev_int) (fun _ _ => rfl)) (ev_glob (by rfl) T.g_SIDES) rfl)))).et) (ess_one (es_ret (ev_tup (ea_cons (ev_str) (ea_cons (ev_ix (ev_var 1) (ev_int) (fun _ _ => rfl)) (ea_cons (ev_int) (ea_nil))))))) (ess_nil)) (ess_one (es_ret (ev_non)))))))
theorem fs_wrong_rows : FnScope N_wrong_rows ["rows"] scope_wrong_rows := ⟨rfl, rfl, rfl, by decide +kernel, rfl, by decide +kernel, by decide +kernel⟩
theorem ok_wrong_rows {f : Addr} {fd : FuncData} (F : FunD K "wrong_rows" "wrong_rows" (defArgs (top 28)) (defBody (top 28)) scope_wrong_rows [] [] f fd) (T : Fx K mg) (h_cloth_in : Cal P wd K mg base 3 "cloth_in" ["row"] f_cloth_in) (h_move_in : Cal P wd K mg base 3 "move_in" ["row"] f_move_in) : FnOk P wd K mg base (L2.CX P wd) 4 f fd ["rows"] (spM K mg 1 (fnD 3 0 b_wrong_rows)) :=
  fn_body (N := N_wrong_rows) (k := 3) (nx := 0) (m := b_wrong_rows) F fs_wrong_rows fun _ _ _ _ _ _ os o => ess_cons (es_if (et_not (et_chain od_le od_le (ev_int) (ev_callB cd_len (by rfl) T.b_len bt_len (ea_cons (ev_var 0) (ea_nil))) (ev_bin od_add (ev_glob (by rfl) T.g_MOST_MOVES) (ev_int)))) (ess_one (es_ret (ev_tup (ea_cons (ev_non) (ea_nil))))) (ess_nil)) (ess_cons (es_if (et_cmp od_is (ev_call h_cloth_in o.room o.px (by rfl) (ea_cons (ev_ix (ev_var 0) (ev_int) (fun _ _ => rfl)) (ea_nil))) (ev_non) (nomark _)) (ess_one (es_ret (ev_tup (ea_cons (ev_int) (ea_nil))))) (ess_nil)) (ess_cons (es_for os (ei_or (ei_enumL (by rfl) T.b_enumerate (ea_cons (ev_var 0) (ea_nil))) (ei_enumT (by rfl) T.b_enumerate (ea_cons (ev_var 0) (ea_nil)))) (tg_tup o.calm (tgs_cons 1 o.nd (tgs_cons 2 o.nd (tgs_nil)))) (ess_one (es_if ((ew_and (et_cmp od_gt (ev_var 1) (ev_int) (nomark _)) (ew_and1 (et_cmp od_is (ev_call h_move_in o.room o.px (by rfl) (ea_cons (ev_var 2) (ea_nil))) (ev_non) (nomark _)))).et) (ess_one (es_ret (ev_tup (ea_cons (ev_var 1) (ea_nil))))) (ess_nil)))) (ess_one (es_ret (ev_tup (ea_nil))))))
theorem fs_Script___init__ : FnScope N_Script___init__ ["self", "rows"] scope_Script___init__ := ⟨rfl, rfl, rfl, by decide +kernel, rfl, by decide +kernel, by decide +kernel⟩
theorem ok_Script___init__ {f : Addr} {fd : FuncData} (F : FunD K "__init__" "Script.__init__" (defArgs (inClass (top 32) 0)) (defBody (inClass (top 32) 0)) scope_Script___init__ [] [] f fd) (T : Fx K mg) (h_cloth_in : Cal P wd K mg base 3 "cloth_in" ["row"] f_cloth_in) (h_least_for : Cal P wd K mg base 2 "least_for" ["steps"] f_least_for) (h_move_in : Cal P wd K mg base 3 "move_in" ["row"] f_move_in) (h_wrong_rows : Cal P wd K mg base 4 "wrong_rows" ["rows"] f_wrong_rows) : FnR P wd K mg base (L2.CX P wd) 5 f (spR K mg f_Script___init__) :=
  fn_bodyV (ps := ["self"]) (pv := "rows") (N := N_Script___init__) (k := 4) (nx := 0) (m := b_Script___init__) F fs_Script___init__ (fun _ _ _ _ _ _ us rest hl => match us, rest, hl with | [_], [], _ => rfl | [_], _ :: _, _ => rfl) fun _ _ _ _ _ _ os o => ess_cons (es_set 2 o.nd (ev_call h_wrong_rows o.room o.px (by rfl) (ea_cons (ev_var 1) (ea_nil)))) (ess_cons (es_if (et_tru (ev_var 2)) (ess_one (es_never)) (ess_nil)) (ess_cons (es_setFld T.k_Script T.a_Script_told (ev_var 0) (ev_var 1)) (ess_cons (es_setFld T.k_Script T.a_Script_goods (ev_var 0) (ev_call h_cloth_in o.room o.px (by rfl) (ea_cons (ev_ix (ev_var 1) (ev_int) (fun _ _ => rfl)) (ea_nil)))) (ess_cons (es_setFld T.k_Script T.a_Script_steps (ev_var 0) (ev_callTy cd_tuple (by rfl) T.b_tuple bt_tuple (ea_cons (ev_lc o (blkOk_by (own := [("row", 3)]) (N := N_Script___init__) (sc := scope_Script___init__) (by decide +kernel)) (lcok o (ei_tup (ev_slice (ev_var 1) (eo_some (ev_int)) (eo_none))) (fun _ _ _ _ _ o => tg_name 3 o.nd) (fun _ _ _ _ _ o => ets_nil) (fun _ _ _ _ _ o => ev_call h_move_in o.room o.px (by rfl) (ea_cons (ev_var 3) (ea_nil))) (by decide))) (ea_nil)))) (ess_one (es_setFld T.k_Script T.a_Script_floor (ev_var 0) (ev_call h_least_for o.room o.px (by rfl) (ea_cons (ev_fld T.k_Script T.a_Script_steps (ev_var 0)) (ea_nil)))))))))
theorem fs_Script_read : FnScope N_Script_read ["cls", "text"] scope_Script_read := ⟨rfl, rfl, rfl, by decide +kernel, rfl, by decide +kernel, by decide +kernel⟩
theorem ok_Script_read {f : Addr} {fd : FuncData} (F : FunD K "read" "Script.read" (defArgs (inClass (top 32) 1)) (defBody (inClass (top 32) 1)) scope_Script_read [] [] f fd) (T : Fx K mg) (h_Script : Mak P wd K mg base 5 "Script" f_Script___init__) (h_wrong_rows : Cal P wd K mg base 4 "wrong_rows" ["rows"] f_wrong_rows) : FnOk P wd K mg base (L2.CX P wd) 7 f fd ["cls", "text"] (spM K mg 2 (fnD 3 0 b_Script_read)) :=
  fn_body (N := N_Script_read) (k := 6) (nx := 0) (m := b_Script_read) F fs_Script_read fun _ _ _ _ _ _ os o => ess_cons (es_set 2 o.nd (ev_if (et_tru (ev_callB cd_isi (by rfl) T.b_isinstance bt_isinstance (ea_cons (ev_var 1) (ea_cons ((ev_bltn (d := .ty "str") (v := .ty "str") (by rfl) T.b_str bt_str (by rfl) (fun _ => rfl))) (ea_nil))))) (ev_split (ev_var 1) (ev_str)) (ev_lst (ea_nil)))) (ess_cons (es_if (et_tru (ev_call h_wrong_rows o.room o.px (by rfl) (ea_cons (ev_var 2) (ea_nil)))) (ess_one (es_never)) (ess_nil)) (ess_one (es_ret (ev_frzLast (ev_makeS h_Script o.room o.px (by rfl) (ev_var 2))))))
theorem fs_law_made : FnScope N_law_made ["goods", "steps"] scope_law_made := ⟨rfl, rfl, rfl, by decide +kernel, rfl, by decide +kernel, by decide +kernel⟩
theorem ok_law_made {f : Addr} {fd : FuncData} (F : FunD K "_law_made" "_law_made" (defArgs (top 58)) (defBody (top 58)) scope_law_made [] [] f fd) (T : Fx K mg) (h_law_rows : Cal P wd K mg base 2 "_law_rows" ["goods", "steps"] f_law_rows) (h_Script_read : CMt P wd K mg base 7 "Script" "read" 2 f_Script_read) : FnOk P wd K mg base (L2.CX P wd) 8 f fd ["goods", "steps"] (spM K mg 2 (fnD 2 0 b_law_made)) :=
  fn_body (N := N_law_made) (k := 7) (nx := 0) (m := b_law_made) F fs_law_made fun _ _ _ _ _ _ os o => ess_one (es_ret (ev_cmeth h_Script_read o.room o.px (by rfl) (ea_cons (ev_join (ev_str) (ev_call h_law_rows o.room o.px (by rfl) (ea_cons (ev_var 0) (ea_cons (ev_var 1) (ea_nil))))) (ea_nil))))
theorem fs_law_mirrored : FnScope N_law_mirrored ["step"] scope_law_mirrored := ⟨rfl, rfl, rfl, by decide +kernel, rfl, by decide +kernel, by decide +kernel⟩
theorem ok_law_mirrored {f : Addr} {fd : FuncData} (F : FunD K "_law_mirrored" "_law_mirrored" (defArgs (top 66)) (defBody (top 66)) scope_law_mirrored [] [] f fd) (T : Fx K mg) : FnOk P wd K mg base (L2.CX P wd) 1 f fd ["step"] (spM K mg 1 (fnD 4 0 b_law_mirrored)) :=
  fn_body (N := N_law_mirrored) (k := 0) (nx := 0) (m := b_law_mirrored) F fs_law_mirrored fun _ _ _ _ _ _ os o => ess_cons (es_tg (ev_var 0) (tg_tup o.calm (tgs_cons 1 o.nd (tgs_cons 2 o.nd (tgs_cons 3 o.nd (tgs_nil)))))) (ess_cons (es_if (et_cmp od_in (ev_var 1) (ev_lst (ea_cons (ev_str) (ea_cons (ev_str) (ea_nil)))) rfl) (ess_one (es_ret (ev_tup (ea_cons (ev_if (et_cmp (od_eq o.units) (ev_var 1) (ev_str) (nomark _)) (ev_str) (ev_str)) (ea_cons (ev_var 2) (ea_cons (ev_un ud_neg (ev_var 3)) (ea_nil))))))) (ess_nil)) (ess_cons (es_if (et_cmp od_in (ev_var 1) (ev_lst (ea_cons (ev_str) (ea_cons (ev_str) (ea_nil)))) rfl) (ess_one (es_ret (ev_tup (ea_cons (ev_var 1) (ea_cons (ev_if (et_cmp (od_eq o.units) (ev_var 2) (ev_str) (nomark _)) (ev_str) (ev_str)) (ea_cons (ev_un ud_neg (ev_var 3)) (ea_nil))))))) (ess_nil)) (ess_one (es_ret (ev_tup (ea_cons (ev_var 1) (ea_cons (ev_var 2) (ea_cons (ev_un ud_neg (ev_var 3)) (ea_nil)))))))))
theorem fs_check_cloth : FnScope N_check_cloth ["value"] scope_check_cloth := ⟨rfl, rfl, rfl, by decide +kernel, rfl, by decide +kernel, by decide +kernel⟩
theorem ok_check_cloth {f : Addr} {fd : FuncData} (F : FunD K "check_cloth" "check_cloth" (defArgs (top 36)) (defBody (top 36)) scope_check_cloth [] [] f fd) (T : Fx K mg) (h_is_cloth : Cal P wd K mg base 2 "is_cloth" ["value"] f_is_cloth) : FnOk P wd K mg base (L2.CX P wd) 3 f fd ["value"] (spM K mg 1 (fnD 1 0 b_check_cloth)) :=
  fn_body (N := N_check_cloth) (k := 2) (nx := 0) (m := b_check_cloth) F fs_check_cloth fun _ _ _ _ _ _ os o => ess_one (es_if (et_not (et_tru (ev_call h_is_cloth o.room o.px (by rfl) (ea_cons (ev_var 0) (ea_nil))))) (ess_one (es_never)) (ess_nil))
theorem fs_wrong_place : FnScope N_wrong_place ["cloth", "places"] scope_wrong_place := ⟨rfl, rfl, rfl, by decide +kernel, rfl, by decide +kernel, by decide +kernel⟩
theorem ok_wrong_place {f : Addr} {fd : FuncData} (F : FunD K "wrong_place" "wrong_place" (defArgs (top 37)) (defBody (top 37)) scope_wrong_place [] [] f fd) (T : Fx K mg) (h_is_integer : Cal P wd K mg base 1 "is_integer" ["value"] f_is_integer) : FnOk P wd K mg base (L2.CX P wd) 2 f fd ["cloth", "places"] (spM K mg 2 (fnD 4 0 b_wrong_place)) :=
  fn_body (N := N_wrong_place) (k := 1) (nx := 0) (m := b_wrong_place) F fs_wrong_place fun _ _ _ _ _ _ os o => ess_cons (es_for os (ei_enumT (by rfl) T.b_enumerate (ea_cons (ev_var 1) (ea_nil))) (tg_tup o.calm (tgs_cons 2 o.nd (tgs_cons 3 o.nd (tgs_nil)))) (ess_cons (es_if ((ew_or (et_not (et_tru (ev_call h_is_integer o.room o.px (by rfl) (ea_cons (ev_var 3) (ea_nil))))) (ew_or1 ((ew_and (et_cmp (od_eq o.units) (ev_var 2) (ev_int) (nomark _)) (ew_and (et_cmp (od_eq o.units) (ev_callB cd_len (by rfl) T.b_len bt_len (ea_cons (ev_var 0) (ea_nil))) (ev_int) (nomark _)) (ew_and1 (et_cmp od_lt (ev_var 3) (ev_ix (ev_var 0) (ev_int) (fun _ _ => rfl)) (nomark _))))).et))).et) (ess_one (es_ret (ev_var 2))) (ess_nil)) (ess_one (es_if ((ew_and (et_cmp od_gt (ev_var 2) (ev_int) (nomark _)) (ew_and1 (et_not (et_chain od_le od_le (ev_ix (ev_var 0) (ev_int) (fun _ _ => rfl)) (ev_bin od_sub (ev_var 3) (ev_ix (ev_var 1) (ev_bin od_sub (ev_var 2) (ev_int)) (fun _ _ => rfl))) (ev_ix (ev_var 0) (ev_int) (fun _ _ => rfl)))))).et) (ess_one (es_ret (ev_var 2))) (ess_nil))))) (ess_one (es_ret (ev_non)))
theorem fs_check_standing : FnScope N_check_standing ["cloth", "places"] scope_check_standing := ⟨rfl, rfl, rfl, by decide +kernel, rfl, by decide +kernel, by decide +kernel⟩
theorem ok_check_standing {f : Addr} {fd : FuncData} (F : FunD K "check_standing" "check_standing" (defArgs (top 38)) (defBody (top 38)) scope_check_standing [] [] f fd) (T : Fx K mg) (h_wrong_place : Cal P wd K mg base 2 "wrong_place" ["cloth", "places"] f_wrong_place) : FnOk P wd K mg base (L2.CX P wd) 3 f fd ["cloth", "places"] (spM K mg 2 (fnD 3 0 b_check_standing)) :=
  fn_body (N := N_check_standing) (k := 2) (nx := 0) (m := b_check_standing) F fs_check_standing fun _ _ _ _ _ _ os o => ess_cons (es_if ((ew_or (et_not (et_tru (ev_callB cd_isi (by rfl) T.b_isinstance bt_isinstance (ea_cons (ev_var 1) (ea_cons ((ev_bltn (d := .ty "tuple") (v := .ty "tuple") (by rfl) T.b_tuple bt_tuple (by rfl) (fun _ => rfl))) (ea_nil)))))) (ew_or1 (et_cmp (od_eq o.units) (ev_var 1) (ev_tup (ea_nil)) (nomark _)))).et) (ess_one (es_never)) (ess_nil)) (ess_cons (es_set 2 o.nd (ev_call h_wrong_place o.room o.px (by rfl) (ea_cons (ev_var 0) (ea_cons (ev_var 1) (ea_nil))))) (ess_one (es_if (et_cmp od_isnot (ev_var 2) (ev_non) (nomark _)) (ess_one (es_never)) (ess_nil))))
theorem fs_Rail___init__ : FnScope N_Rail___init__ ["self", "cloth", "places"] scope_Rail___init__ := ⟨rfl, rfl, rfl, by decide +kernel, rfl, by decide +kernel, by decide +kernel⟩
theorem ok_Rail___init__ {f : Addr} {fd : FuncData} (F : FunD K "__init__" "Rail.__init__" (defArgs (inClass (top 45) 0)) (defBody (inClass (top 45) 0)) scope_Rail___init__ [] [] f fd) (T : Fx K mg) (h_check_cloth : Cal P wd K mg base 3 "check_cloth" ["value"] f_check_cloth) (h_check_standing : Cal P wd K mg base 3 "check_standing" ["cloth", "places"] f_check_standing) : FnOk P wd K mg base (L2.CX P wd) 4 f fd ["self", "cloth", "places"] (spM K mg 3 (fnD 3 0 b_Rail___init__)) :=
  fn_body (N := N_Rail___init__) (k := 3) (nx := 0) (m := b_Rail___init__) F fs_Rail___init__ fun _ _ _ _ _ _ os o => ess_cons (es_expr (ev_call h_check_cloth o.room o.px (by rfl) (ea_cons (ev_var 1) (ea_nil)))) (ess_cons (es_expr (ev_call h_check_standing o.room o.px (by rfl) (ea_cons (ev_var 1) (ea_cons (ev_var 2) (ea_nil))))) (ess_one (es_setFld T.k_Rail T.a_Rail_held (ev_var 0) (ev_tup (ea_cons (ev_var 1) (ea_cons (ev_var 2) (ea_cons (ev_non) (ea_cons (ev_int) (ea_nil)))))))))
theorem fs_Rail___len__ : FnScope N_Rail___len__ ["self"] scope_Rail___len__ := ⟨rfl, rfl, rfl, by decide +kernel, rfl, by decide +kernel, by decide +kernel⟩
theorem ok_Rail___len__ {f : Addr} {fd : FuncData} (F : FunD K "__len__" "Rail.__len__" (defArgs (inClass (top 45) 9)) (defBody (inClass (top 45) 9)) scope_Rail___len__ [] [] f fd) (T : Fx K mg) : FnOk P wd K mg base (L2.CX P wd) 1 f fd ["self"] (spM K mg 1 (fnD 1 0 b_Rail___len__)) :=
  fn_body (N := N_Rail___len__) (k := 0) (nx := 0) (m := b_Rail___len__) F fs_Rail___len__ fun _ _ _ _ _ _ os o => ess_one (es_ret (ev_callB cd_len (by rfl) T.b_len bt_len (ea_cons (ev_ix (ev_fld T.k_Rail T.a_Rail_held (ev_var 0)) (ev_int) (fun _ _ => rfl)) (ea_nil))))
theorem fs_law_spot : FnScope N_law_spot ["can"] scope_law_spot := ⟨rfl, rfl, rfl, by decide +kernel, rfl, by decide +kernel, by decide +kernel⟩
theorem ok_law_spot {f : Addr} {fd : FuncData} (F : FunD K "_law_spot" "_law_spot" (defArgs (top 51)) (defBody (top 51)) scope_law_spot [] [] f fd) (T : Fx K mg) (h_law_one : Cal P wd K mg base 2 "_law_one" ["can", "things"] f_law_one) (h_law_pour : Cal P wd K mg base 1 "_law_pour" ["can", "top"] f_law_pour) : FnOk P wd K mg base (L2.CX P wd) 3 f fd ["can"] (spM K mg 1 (fnD 1 0 b_law_spot)) :=
  fn_body (N := N_law_spot) (k := 2) (nx := 0) (m := b_law_spot) F fs_law_spot fun _ _ _ _ _ _ os o => ess_one (es_ret (ev_call h_law_one o.room o.px (by rfl) (ea_cons (ev_var 0) (ea_cons (ev_lst (ea_cons (ev_int) (ea_cons (ev_int) (ea_cons (ev_int) (ea_cons (ev_un ud_neg (ev_int)) (ea_cons (ev_int) (ea_cons (ev_un ud_neg (ev_int)) (ea_cons (ev_int) (ea_cons (ev_un ud_neg (ev_int)) (ea_cons (ev_bin od_sub (ev_call h_law_pour o.room o.px (by rfl) (ea_cons (ev_var 0) (ea_cons (ev_int) (ea_nil)))) (ev_int)) (ea_cons (ev_bin od_sub (ev_call h_law_pour o.room o.px (by rfl) (ea_cons (ev_var 0) (ea_cons (ev_int) (ea_nil)))) (ev_int)) (ea_nil)))))))))))) (ea_nil)))))
theorem fs_law_target : FnScope N_law_target ["step", "many"] scope_law_target := ⟨rfl, rfl, rfl, by decide +kernel, rfl, by decide +kernel, by decide +kernel⟩
theorem ok_law_target {f : Addr} {fd : FuncData} (F : FunD K "_law_target" "_law_target" (defArgs (top 62)) (defBody (top 62)) scope_law_target [] [] f fd) (T : Fx K mg) : FnOk P wd K mg base (L2.CX P wd) 1 f fd ["step", "many"] (spM K mg 2 (fnD 2 0 b_law_target)) :=
  fn_body (N := N_law_target) (k := 0) (nx := 0) (m := b_law_target) F fs_law_target fun _ _ _ _ _ _ os o => ess_cons (es_if (et_cmp (od_eq o.units) (ev_ix (ev_var 0) (ev_int) (fun _ _ => rfl)) (ev_str) (nomark _)) (ess_one (es_ret (ev_bin od_sub (ev_ix (ev_var 0) (ev_int) (fun _ _ => rfl)) (ev_int)))) (ess_nil)) (ess_cons (es_if (et_cmp (od_eq o.units) (ev_ix (ev_var 0) (ev_int) (fun _ _ => rfl)) (ev_str) (nomark _)) (ess_one (es_ret (ev_bin od_sub (ev_var 1) (ev_ix (ev_var 0) (ev_int) (fun _ _ => rfl))))) (ess_nil)) (ess_one (es_ret (ev_if (et_cmp (od_ne o.units) (ev_ix (ev_var 0) (ev_int) (fun _ _ => rfl)) (ev_str) (nomark _)) (ev_un ud_neg (ev_int)) (ev_if (et_cmp (od_eq o.units) (ev_ix (ev_var 0) (ev_int) (fun _ _ => rfl)) (ev_str) (nomark _)) (ev_int) (ev_bin od_sub (ev_var 1) (ev_int)))))))
theorem fs_Rail_change_to : FnScope N_Rail_change_to ["self", "cloth", "places"] scope_Rail_change_to := ⟨rfl, rfl, rfl, by decide +kernel, rfl, by decide +kernel, by decide +kernel⟩
theorem ok_Rail_change_to {f : Addr} {fd : FuncData} (F : FunD K "change_to" "Rail.change_to" (defArgs (inClass (top 45) 1)) (defBody (inClass (top 45) 1)) scope_Rail_change_to [] [] f fd) (T : Fx K mg) : FnOk P wd K mg base (L2.CX P wd) 1 f fd ["self", "cloth", "places"] (spM K mg 3 (fnD 3 0 b_Rail_change_to)) :=
  fn_body (N := N_Rail_change_to) (k := 0) (nx := 0) (m := b_Rail_change_to) F fs_Rail_change_to fun _ _ _ _ _ _ os o => ess_cons (es_setFld T.k_Rail T.a_Rail_held (ev_var 0) (ev_tup (ea_cons (ev_var 1) (ea_cons (ev_var 2) (ea_cons (ev_fld T.k_Rail T.a_Rail_held (ev_var 0)) (ea_cons (ev_bin od_add (ev_ix (ev_fld T.k_Rail T.a_Rail_held (ev_var 0)) (ev_int) (fun _ _ => rfl)) (ev_int)) (ea_nil))))))) (ess_one (es_ret (ev_var 2)))
theorem fs_clamped : FnScope N_clamped ["value", "one", "two"] scope_clamped := ⟨rfl, rfl, rfl, by decide +kernel, rfl, by decide +kernel, by decide +kernel⟩
theorem ok_clamped {f : Addr} {fd : FuncData} (F : FunD K "clamped" "clamped" (defArgs (top 39)) (defBody (top 39)) scope_clamped [] [] f fd) (T : Fx K mg) : FnOk P wd K mg base (L2.CX P wd) 1 f fd ["value", "one", "two"] (spM K mg 3 (fnD 3 0 b_clamped)) :=
  fn_body (N := N_clamped) (k := 0) (nx := 0) (m := b_clamped) F fs_clamped fun _ _ _ _ _ _ os o => ess_one (es_ret (ev_callB (cd_min o.calm) (by rfl) T.b_min bt_min (ea_cons (ev_callB (cd_max o.calm) (by rfl) T.b_max bt_max (ea_cons (ev_var 0) (ea_cons (ev_callB (cd_min o.calm) (by rfl) T.b_min bt_min (ea_cons (ev_var 1) (ea_cons (ev_var 2) (ea_nil)))) (ea_nil)))) (ea_cons (ev_callB (cd_max o.calm) (by rfl) T.b_max bt_max (ea_cons (ev_var 1) (ea_cons (ev_var 2) (ea_nil)))) (ea_nil)))))
theorem fs_goal_of : FnScope N_goal_of ["cloth", "index", "place"] scope_goal_of := ⟨rfl, rfl, rfl, by decide +kernel, rfl, by decide +kernel, by decide +kernel⟩
theorem ok_goal_of {f : Addr} {fd : FuncData} (F : FunD K "goal_of" "goal_of" (defArgs (top 40)) (defBody (top 40)) scope_goal_of [] [] f fd) (T : Fx K mg) : FnOk P wd K mg base (L2.CX P wd) 1 f fd ["cloth", "index", "place"] (spM K mg 3 (fnD 3 0 b_goal_of)) :=
  fn_body (N := N_goal_of) (k := 0) (nx := 0) (m := b_goal_of) F fs_goal_of fun _ _ _ _ _ _ os o => ess_one (es_ret (ev_if (et_cmp (od_eq o.units) (ev_callB cd_len (by rfl) T.b_len bt_len (ea_cons (ev_var 0) (ea_nil))) (ev_int) (nomark _)) (ev_var 2) (ev_callB (cd_max o.calm) (by rfl) T.b_max bt_max (ea_cons (ev_var 2) (ea_cons (ev_bin od_add (ev_ix (ev_var 0) (ev_int) (fun _ _ => rfl)) (ev_bin od_mul (ev_var 1) (ev_ix (ev_var 0) (ev_int) (fun _ _ => rfl)))) (ea_nil))))))
theorem fs_drawn : FnScope N_drawn ["cloth", "places", "index", "place"] scope_drawn := ⟨rfl, rfl, rfl, by decide +kernel, rfl, by decide +kernel, by decide +kernel⟩
theorem ok_drawn {f : Addr} {fd : FuncData} (F : FunD K "drawn" "drawn" (defArgs (top 41)) (defBody (top 41)) scope_drawn [] [] f fd) (T : Fx K mg) (h_clamped : Cal P wd K mg base 1 "clamped" ["value", "one", "two"] f_clamped) (h_goal_of : Cal P wd K mg base 1 "goal_of" ["cloth", "index", "place"] f_goal_of) : FnOk P wd K mg base (L2.CX P wd) 2 f fd ["cloth", "places", "index", "place"] (spM K mg 4 (fnD 9 0 b_drawn)) :=
  fn_body (N := N_drawn) (k := 1) (nx := 0) (m := b_drawn) F fs_drawn fun _ _ _ _ _ _ os o => ess_cons (es_par 4 5 o (ea_cons (ev_call h_goal_of o.room o.px (by rfl) (ea_cons (ev_var 0) (ea_cons (ev_var 2) (ea_cons (ev_var 3) (ea_nil))))) (ea_cons (ev_cell (ea_nil)) (ea_nil)))) (ess_cons (es_for os (ei_enumT (by rfl) T.b_enumerate (ea_cons (ev_var 1) (ea_nil))) (tg_tup o.calm (tgs_cons 6 o.nd (tgs_cons 7 o.nd (tgs_nil)))) (ess_cons (es_set 8 o.nd (ev_bin od_sub (ev_var 6) (ev_var 2))) (ess_one (es_expr (ev_append (ev_var 5) (ea_cons (ev_call h_clamped o.room o.px (by rfl) (ea_cons (ev_var 7) (ea_cons (ev_bin od_add (ev_var 4) (ev_bin od_mul (ev_var 8) (ev_ix (ev_var 0) (ev_int) (fun _ _ => rfl)))) (ea_cons (ev_bin od_add (ev_var 4) (ev_bin od_mul (ev_var 8) (ev_ix (ev_var 0) (ev_int) (fun _ _ => rfl)))) (ea_nil))))) (ea_nil))))))) (ess_one (es_ret (ev_callTy cd_tuple (by rfl) T.b_tuple bt_tuple (ea_cons (ev_var 5) ea_nil)))))
theorem fs_is_between : FnScope N_is_between ["value", "least", "most"] scope_is_between := ⟨rfl, rfl, rfl, by decide +kernel, rfl, by decide +kernel, by decide +kernel⟩
theorem ok_is_between {f : Addr} {fd : FuncData} (F : FunD K "is_between" "is_between" (defArgs (top 22)) (defBody (top 22)) scope_is_between [] [] f fd) (T : Fx K mg) (h_is_integer : Cal P wd K mg base 1 "is_integer" ["value"] f_is_integer) : FnOk P wd K mg base (L2.CX P wd) 2 f fd ["value", "least", "most"] (spM K mg 3 (fnD 3 0 b_is_between)) :=
  fn_body (N := N_is_between) (k := 1) (nx := 0) (m := b_is_between) F fs_is_between fun _ _ _ _ _ _ os o => ess_one (es_ret (ev_andV (ev_call h_is_integer o.room o.px (by rfl) (ea_cons (ev_var 0) (ea_nil))) (ev_one (ev_chain od_le od_le (ev_var 1) (ev_var 0) (ev_var 2)))))
theorem fs_Rail_draw : FnScope N_Rail_draw ["self", "index", "place"] scope_Rail_draw := ⟨rfl, rfl, rfl, by decide +kernel, rfl, by decide +kernel, by decide +kernel⟩
theorem ok_Rail_draw {f : Addr} {fd : FuncData} (F : FunD K "draw" "Rail.draw" (defArgs (inClass (top 45) 3)) (defBody (inClass (top 45) 3)) scope_Rail_draw [] [] f fd) (T : Fx K mg) (h_Rail_change_to : Met P wd K mg base 1 "Rail" "change_to" ["self", "cloth", "places"] f_Rail_change_to) (h_drawn : Cal P wd K mg base 2 "drawn" ["cloth", "places", "index", "place"] f_drawn) (h_is_between : Cal P wd K mg base 2 "is_between" ["value", "least", "most"] f_is_between) (h_is_integer : Cal P wd K mg base 1 "is_integer" ["value"] f_is_integer) : FnOk P wd K mg base (L2.CX P wd) 3 f fd ["self", "index", "place"] (spM K mg 3 (fnD 3 0 b_Rail_draw)) :=
  fn_body (N := N_Rail_draw) (k := 2) (nx := 0) (m := b_Rail_draw) F fs_Rail_draw fun _ _ _ _ _ _ os o => ess_cons (es_if (et_not (et_tru (ev_call h_is_between o.room o.px (by rfl) (ea_cons (ev_var 1) (ea_cons (ev_int) (ea_cons (ev_bin od_sub (ev_callB cd_len (by rfl) T.b_len bt_len (ea_cons (ev_ix (ev_fld T.k_Rail T.a_Rail_held (ev_var 0)) (ev_int) (fun _ _ => rfl)) (ea_nil))) (ev_int)) (ea_nil))))))) (ess_one (es_never)) (ess_nil)) (ess_cons (es_if (et_not (et_tru (ev_call h_is_integer o.room o.px (by rfl) (ea_cons (ev_var 2) (ea_nil))))) (ess_one (es_never)) (ess_nil)) (ess_one (es_ret (ev_meth h_Rail_change_to o.room o.px (ev_var 0) (ea_cons (ev_ix (ev_fld T.k_Rail T.a_Rail_held (ev_var 0)) (ev_int) (fun _ _ => rfl)) (ea_cons (ev_call h_drawn o.room o.px (by rfl) (ea_cons (ev_ix (ev_fld T.k_Rail T.a_Rail_held (ev_var 0)) (ev_int) (fun _ _ => rfl)) (ea_cons (ev_ix (ev_fld T.k_Rail T.a_Rail_held (ev_var 0)) (ev_int) (fun _ _ => rfl)) (ea_cons (ev_var 1) (ea_cons (ev_var 2) (ea_nil)))))) (ea_nil)))))))
theorem fs_carried : FnScope N_carried ["cloth", "by"] scope_carried := ⟨rfl, rfl, rfl, by decide +kernel, rfl, by decide +kernel, by decide +kernel⟩
theorem ok_carried {f : Addr} {fd : FuncData} (F : FunD K "carried" "carried" (defArgs (top 42)) (defBody (top 42)) scope_carried [] [] f fd) (T : Fx K mg) : FnOk P wd K mg base (L2.CX P wd) 1 f fd ["cloth", "by"] (spM K mg 2 (fnD 2 0 b_carried)) :=
  fn_body (N := N_carried) (k := 0) (nx := 0) (m := b_carried) F fs_carried fun _ _ _ _ _ _ os o => ess_one (es_ret (ev_if (et_cmp (od_eq o.units) (ev_callB cd_len (by rfl) T.b_len bt_len (ea_cons (ev_var 0) (ea_nil))) (ev_int) (nomark _)) (ev_var 0) (ev_tup (ea_cons (ev_ix (ev_var 0) (ev_int) (fun _ _ => rfl)) (ea_cons (ev_ix (ev_var 0) (ev_int) (fun _ _ => rfl)) (ea_cons (ev_bin od_add (ev_ix (ev_var 0) (ev_int) (fun _ _ => rfl)) (ev_var 1)) (ea_nil)))))))
theorem fs_moved : FnScope N_moved ["cloth", "places", "step"] scope_moved := ⟨rfl, rfl, rfl, by decide +kernel, rfl, by decide +kernel, by decide +kernel⟩
theorem ok_moved {f : Addr} {fd : FuncData} (F : FunD K "moved" "moved" (defArgs (top 43)) (defBody (top 43)) scope_moved [] [] f fd) (T : Fx K mg) (h_carried : Cal P wd K mg base 1 "carried" ["cloth", "by"] f_carried) (h_drawn : Cal P wd K mg base 2 "drawn" ["cloth", "places", "index", "place"] f_drawn) : FnOk P wd K mg base (L2.CX P wd) 3 f fd ["cloth", "places", "step"] (spM K mg 3 (fnD 7 0 b_moved)) :=
  fn_body (N := N_moved) (k := 2) (nx := 0) (m := b_moved) F fs_moved fun _ _ _ _ _ _ os o => ess_cons (es_tg (ev_var 2) (tg_tup o.calm (tgs_cons 3 o.nd (tgs_cons 4 o.nd (tgs_cons 5 o.nd (tgs_nil)))))) (ess_cons (es_if (et_cmp (od_eq o.units) (ev_var 3) (ev_str) (nomark _)) (ess_one (es_ret (ev_tup (ea_cons (ev_call h_carried o.room o.px (by rfl) (ea_cons (ev_var 0) (ea_cons (ev_var 5) (ea_nil)))) (ea_cons (ev_callTy cd_tuple (by rfl) T.b_tuple bt_tuple (ea_cons (ev_lc o (blkOk_by (own := [("old", 6)]) (N := N_moved) (sc := scope_moved) (by decide +kernel)) (lcok o (ei_tup (ev_var 1)) (fun _ _ _ _ _ o => tg_name 6 o.nd) (fun _ _ _ _ _ o => ets_nil) (fun _ _ _ _ _ o => ev_bin od_add (ev_var 6) (ev_var 5)) (by decide))) (ea_nil))) (ea_nil)))))) (ess_nil)) (ess_cons (es_if (et_cmp (od_eq o.units) (ev_var 3) (ev_str) (nomark _)) (ess_one (es_ret (ev_tup (ea_cons (ev_var 0) (ea_cons (ev_if (et_cmp (od_eq o.units) (ev_var 4) (ev_str) (nomark _)) (ev_slice (ev_var 1) (eo_some (ev_int)) (eo_none)) (ev_slice (ev_var 1) (eo_none) (eo_some (ev_un ud_neg (ev_int))))) (ea_nil)))))) (ess_nil)) (ess_cons (es_if (et_cmp (od_eq o.units) (ev_var 3) (ev_str) (nomark _)) (ess_cons (es_set 1 o.nd (ev_if (et_cmp (od_eq o.units) (ev_var 4) (ev_str) (nomark _)) (ev_tup (ea_cons (ev_var 5) (ea_star (ev_var 1) (ea_nil)))) (ev_tup (ea_star (ev_var 1) (ea_cons (ev_var 5) (ea_nil)))))) (ess_one (es_ret (ev_tup (ea_cons (ev_var 0) (ea_cons (ev_call h_drawn o.room o.px (by rfl) (ea_cons (ev_var 0) (ea_cons (ev_var 1) (ea_cons (ev_if (et_cmp (od_eq o.units) (ev_var 4) (ev_str) (nomark _)) (ev_int) (ev_bin od_sub (ev_callB cd_len (by rfl) T.b_len bt_len (ea_cons (ev_var 1) (ea_nil))) (ev_int))) (ea_cons (ev_var 5) (ea_nil)))))) (ea_nil))))))) (ess_nil)) (ess_one (es_ret (ev_tup (ea_cons (ev_var 0) (ea_cons (ev_call h_drawn o.room o.px (by rfl) (ea_cons (ev_var 0) (ea_cons (ev_var 1) (ea_cons (ev_if (et_cmp (od_eq o.units) (ev_var 3) (ev_str) (nomark _)) (ev_bin od_sub (ev_var 4) (ev_int)) (ev_bin od_sub (ev_callB cd_len (by rfl) T.b_len bt_len (ea_cons (ev_var 1) (ea_nil))) (ev_var 4))) (ea_cons (ev_var 5) (ea_nil)))))) (ea_nil)))))))))
theorem fs_Rail_move : FnScope N_Rail_move ["self", "move"] scope_Rail_move := ⟨rfl, rfl, rfl, by decide +kernel, rfl, by decide +kernel, by decide +kernel⟩
theorem ok_Rail_move {f : Addr} {fd : FuncData} (F : FunD K "move" "Rail.move" (defArgs (inClass (top 45) 2)) (defBody (inClass (top 45) 2)) scope_Rail_move [] [] f fd) (T : Fx K mg) (h_asked_by : Cal P wd K mg base 1 "asked_by" ["step"] f_asked_by) (h_Rail_change_to : Met P wd K mg base 1 "Rail" "change_to" ["self", "cloth", "places"] f_Rail_change_to) (h_move_in : Cal P wd K mg base 3 "move_in" ["row"] f_move_in) (h_moved : Cal P wd K mg base 3 "moved" ["cloth", "places", "step"] f_moved) : FnOk P wd K mg base (L2.CX P wd) 4 f fd ["self", "move"] (spM K mg 2 (fnD 5 0 b_Rail_move)) :=
  fn_body (N := N_Rail_move) (k := 3) (nx := 0) (m := b_Rail_move) F fs_Rail_move fun _ _ _ _ _ _ os o => ess_cons (es_set 2 o.nd (ev_call h_move_in o.room o.px (by rfl) (ea_cons (ev_var 1) (ea_nil)))) (ess_cons (es_if ((ew_or (et_cmp od_is (ev_var 2) (ev_non) (nomark _)) (ew_or1 (et_cmp (od_eq o.units) (ev_ix (ev_var 2) (ev_int) (fun _ _ => rfl)) (ev_str) (nomark _)))).et) (ess_one (es_never)) (ess_nil)) (ess_cons (es_if (et_cmp od_lt (ev_callB cd_len (by rfl) T.b_len bt_len (ea_cons (ev_ix (ev_fld T.k_Rail T.a_Rail_held (ev_var 0)) (ev_int) (fun _ _ => rfl)) (ea_nil))) (ev_call h_asked_by o.room o.px (by rfl) (ea_cons (ev_var 2) (ea_nil))) (nomark _)) (ess_one (es_never)) (ess_nil)) (ess_cons (es_tg (ev_call h_moved o.room o.px (by rfl) (ea_cons (ev_ix (ev_fld T.k_Rail T.a_Rail_held (ev_var 0)) (ev_int) (fun _ _ => rfl)) (ea_cons (ev_ix (ev_fld T.k_Rail T.a_Rail_held (ev_var 0)) (ev_int) (fun _ _ => rfl)) (ea_cons (ev_var 2) (ea_nil))))) (tg_tup o.calm (tgs_cons 3 o.nd (tgs_cons 4 o.nd (tgs_nil))))) (ess_one (es_ret (ev_meth h_Rail_change_to o.room o.px (ev_var 0) (ea_cons (ev_var 3) (ea_cons (ev_var 4) (ea_nil)))))))))
theorem fs_Rail_places : FnScope N_Rail_places ["self"] scope_Rail_places := ⟨rfl, rfl, rfl, by decide +kernel, rfl, by decide +kernel, by decide +kernel⟩
theorem ok_Rail_places {f : Addr} {fd : FuncData} (F : FunD K "places" "Rail.places" (defArgs (inClass (top 45) 7)) (defBody (inClass (top 45) 7)) scope_Rail_places [] [] f fd) (T : Fx K mg) : FnOk P wd K mg base (L2.CX P wd) 1 f fd ["self"] (spM K mg 1 (fnD 1 0 b_Rail_places)) :=
  fn_body (N := N_Rail_places) (k := 0) (nx := 0) (m := b_Rail_places) F fs_Rail_places fun _ _ _ _ _ _ os o => ess_one (es_ret (ev_ix (ev_fld T.k_Rail T.a_Rail_held (ev_var 0)) (ev_int) (fun _ _ => rfl)))
theorem fs_law_shifted_right : FnScope N_law_shifted_right ["can", "goods", "steps", "spots", "behind"] scope_law_shifted_right := ⟨rfl, rfl, rfl, by decide +kernel, rfl, by decide +kernel, by decide +kernel⟩
theorem ok_law_shifted_right {f : Addr} {fd : FuncData} (F : FunD K "_law_shifted_right" "_law_shifted_right" (defArgs (top 68)) (defBody (top 68)) scope_law_shifted_right [] [] f fd) (T : Fx K mg) (h_Rail : Mak P wd K mg base 4 "Rail" f_Rail___init__) (h_Rail___len__ : LnO P wd K mg base 1 "Rail" f_Rail___len__) (h_law_line : Cal P wd K mg base 1 "_law_line" ["step"] f_law_line) (h_law_one : Cal P wd K mg base 2 "_law_one" ["can", "things"] f_law_one) (h_law_spot : Cal P wd K mg base 3 "_law_spot" ["can"] f_law_spot) (h_law_target : Cal P wd K mg base 1 "_law_target" ["step", "many"] f_law_target) (h_Rail_draw : Met P wd K mg base 3 "Rail" "draw" ["self", "index", "place"] f_Rail_draw) (h_Rail_move : Met P wd K mg base 4 "Rail" "move" ["self", "move"] f_Rail_move) (h_Rail_places : Prp P wd K mg base 1 "Rail" "places" f_Rail_places) : FnOk P wd K mg base (L2.CX P wd) 6 f fd ["can", "goods", "steps", "spots", "behind"] (spM K mg 5 (fnD 9 0 b_law_shifted_right)) :=
  fn_body (N := N_law_shifted_right) (k := 5) (nx := 0) (m := b_law_shifted_right) F fs_law_shifted_right fun _ _ _ _ _ _ os o => ess_cons (es_set 5 o.nd (ev_call h_law_one o.room o.px (by rfl) (ea_cons (ev_var 0) (ea_cons (ev_lst (ea_cons (ev_int) (ea_cons (ev_un ud_neg (ev_int)) (ea_cons (ev_int) (ea_cons (ev_un ud_neg (ev_bin od_pow (ev_int) (ev_int))) (ea_cons (ev_call h_law_spot o.room o.px (by rfl) (ea_cons (ev_var 0) (ea_nil))) (ea_nil))))))) (ea_nil))))) (ess_cons (es_set 6 o.nd (ev_make h_Rail o.room o.px (by rfl) (ea_cons (ev_var 1) (ea_cons (ev_callTy cd_tuple (by rfl) T.b_tuple bt_tuple (ea_cons (ev_lc o (blkOk_by (own := [("spot", 8)]) (N := N_law_shifted_right) (sc := scope_law_shifted_right) (by decide +kernel)) (lcok o (ei_tup (ev_var 3)) (fun _ _ _ _ _ o => tg_name 8 o.nd) (fun _ _ _ _ _ o => ets_nil) (fun _ _ _ _ _ o => ev_bin od_add (ev_var 8) (ev_var 5)) (by decide))) (ea_nil))) (ea_nil))))) (ess_cons (es_for os (ei_list (ev_var 2)) (tg_name 7 o.nd) (ess_one (es_if (et_cmp od_in (ev_ix (ev_var 7) (ev_int) (fun _ _ => rfl)) (ev_lst (ea_cons (ev_str) (ea_cons (ev_str) (ea_nil)))) rfl) (ess_one (es_expr (ev_meth h_Rail_draw o.room o.px (ev_var 6) (ea_cons (ev_call h_law_target o.room o.px (by rfl) (ea_cons (ev_var 7) (ea_cons (ev_lenOwn h_Rail___len__ o.room o.px (by rfl) T.b_len (ea_cons (ev_var 6) (ea_nil))) (ea_nil)))) (ea_cons (ev_bin od_add (ev_ix (ev_var 7) (ev_int) (fun _ _ => rfl)) (ev_var 5)) (ea_nil)))))) (ess_one (es_if (et_cmp (od_eq o.units) (ev_ix (ev_var 7) (ev_int) (fun _ _ => rfl)) (ev_str) (nomark _)) (ess_cons (es_expr (ev_meth h_Rail_move o.room o.px (ev_var 6) (ea_cons (ev_call h_law_line o.room o.px (by rfl) (ea_cons (ev_var 7) (ea_nil))) (ea_nil)))) (ess_one (es_expr (ev_meth h_Rail_draw o.room o.px (ev_var 6) (ea_cons (ev_if (et_cmp (od_eq o.units) (ev_ix (ev_var 7) (ev_int) (fun _ _ => rfl)) (ev_str) (nomark _)) (ev_int) (ev_bin od_sub (ev_lenOwn h_Rail___len__ o.room o.px (by rfl) T.b_len (ea_cons (ev_var 6) (ea_nil))) (ev_int))) (ea_cons (ev_bin od_add (ev_ix (ev_var 7) (ev_int) (fun _ _ => rfl)) (ev_var 5)) (ea_nil))))))) (ess_one (es_expr (ev_meth h_Rail_move o.room o.px (ev_var 6) (ea_cons (ev_call h_law_line o.room o.px (by rfl) (ea_cons (ev_var 7) (ea_nil))) (ea_nil)))))))))) (ess_cons (es_if (et_cmp (od_ne o.units) (ev_lc o (blkOk_by (own := [("step", 7)]) (N := N_law_shifted_right) (sc := scope_law_shifted_right) (by decide +kernel)) (lcok o (ei_list (ev_var 2)) (fun _ _ _ _ _ o => tg_name 7 o.nd) (fun _ _ _ _ _ o => ets_one (et_cmp (od_eq o.units) (ev_ix (ev_var 7) (ev_int) (fun _ _ => rfl)) (ev_str) (nomark _))) (fun _ _ _ _ _ o => ev_var 7) (by decide))) (ev_lst (ea_nil)) (nomark _)) (ess_one (es_ret (ev_cmp (od_eq o.units) (ev_callB cd_len (by rfl) T.b_len bt_len (ea_cons (ev_prop h_Rail_places o.room (ev_var 6)) (ea_nil))) (ev_callB cd_len (by rfl) T.b_len bt_len (ea_cons (ev_var 4) (ea_nil))) (nomark _)))) (ess_nil)) (ess_one (es_ret (ev_cmp (od_eq o.units) (ev_prop h_Rail_places o.room (ev_var 6)) (ev_callTy cd_tuple (by rfl) T.b_tuple bt_tuple (ea_cons (ev_lc o (blkOk_by (own := [("spot", 8)]) (N := N_law_shifted_right) (sc := scope_law_shifted_right) (by decide +kernel)) (lcok o (ei_tup (ev_var 4)) (fun _ _ _ _ _ o => tg_name 8 o.nd) (fun _ _ _ _ _ o => ets_nil) (fun _ _ _ _ _ o => ev_bin od_add (ev_var 8) (ev_var 5)) (by decide))) (ea_nil))) (nomark _)))))))
theorem fs_law_asked : FnScope N_law_asked ["step"] scope_law_asked := ⟨rfl, rfl, rfl, by decide +kernel, rfl, by decide +kernel, by decide +kernel⟩
theorem ok_law_asked {f : Addr} {fd : FuncData} (F : FunD K "_law_asked" "_law_asked" (defArgs (top 60)) (defBody (top 60)) scope_law_asked [] [] f fd) (T : Fx K mg) : FnOk P wd K mg base (L2.CX P wd) 1 f fd ["step"] (spM K mg 1 (fnD 1 0 b_law_asked)) :=
  fn_body (N := N_law_asked) (k := 0) (nx := 0) (m := b_law_asked) F fs_law_asked fun _ _ _ _ _ _ os o => ess_cons (es_if (et_cmp od_in (ev_ix (ev_var 0) (ev_int) (fun _ _ => rfl)) (ev_lst (ea_cons (ev_str) (ea_cons (ev_str) (ea_nil)))) rfl) (ess_one (es_ret (ev_ix (ev_var 0) (ev_int) (fun _ _ => rfl)))) (ess_nil)) (ess_one (es_ret (ev_if (et_cmp (od_eq o.units) (ev_ix (ev_var 0) (ev_int) (fun _ _ => rfl)) (ev_str) (nomark _)) (ev_int) (ev_int))))
theorem fs_law_more : FnScope N_law_more ["step"] scope_law_more := ⟨rfl, rfl, rfl, by decide +kernel, rfl, by decide +kernel, by decide +kernel⟩
theorem ok_law_more {f : Addr} {fd : FuncData} (F : FunD K "_law_more" "_law_more" (defArgs (top 59)) (defBody (top 59)) scope_law_more [] [] f fd) (T : Fx K mg) : FnOk P wd K mg base (L2.CX P wd) 1 f fd ["step"] (spM K mg 1 (fnD 1 0 b_law_more)) :=
  fn_body (N := N_law_more) (k := 0) (nx := 0) (m := b_law_more) F fs_law_more fun _ _ _ _ _ _ os o => ess_one (es_ret (ev_if (et_cmp (od_eq o.units) (ev_ix (ev_var 0) (ev_int) (fun _ _ => rfl)) (ev_str) (nomark _)) (ev_int) (ev_if (et_cmp (od_eq o.units) (ev_ix (ev_var 0) (ev_int) (fun _ _ => rfl)) (ev_str) (nomark _)) (ev_un ud_neg (ev_int)) (ev_int))))
theorem fs_law_fewest : FnScope N_law_fewest ["steps"] scope_law_fewest := ⟨rfl, rfl, rfl, by decide +kernel, rfl, by decide +kernel, by decide +kernel⟩
theorem ok_law_fewest {f : Addr} {fd : FuncData} (F : FunD K "_law_fewest" "_law_fewest" (defArgs (top 61)) (defBody (top 61)) scope_law_fewest [] [] f fd) (T : Fx K mg) (h_law_asked : Cal P wd K mg base 1 "_law_asked" ["step"] f_law_asked) (h_law_more : Cal P wd K mg base 1 "_law_more" ["step"] f_law_more) : FnOk P wd K mg base (L2.CX P wd) 2 f fd ["steps"] (spM K mg 1 (fnD 4 0 b_law_fewest)) :=
  fn_body (N := N_law_fewest) (k := 1) (nx := 0) (m := b_law_fewest) F fs_law_fewest fun _ _ _ _ _ _ os o => ess_cons (es_tg (ev_tup (ea_cons (ev_int) (ea_cons (ev_int) (ea_nil)))) (tg_tup o.calm (tgs_cons 2 o.nd (tgs_cons 3 o.nd (tgs_nil))))) (ess_cons (es_for os (ei_list (ev_var 0)) (tg_name 1 o.nd) (ess_one (es_par 2 3 o (ea_cons (ev_callB (cd_max o.calm) (by rfl) T.b_max bt_max (ea_cons (ev_var 2) (ea_cons (ev_bin od_sub (ev_call h_law_asked o.room o.px (by rfl) (ea_cons (ev_var 1) (ea_nil))) (ev_var 3)) (ea_nil)))) (ea_cons (ev_bin od_add (ev_var 3) (ev_call h_law_more o.room o.px (by rfl) (ea_cons (ev_var 1) (ea_nil)))) (ea_nil)))))) (ess_one (es_ret (ev_var 2))))
theorem fs_law_goods : FnScope N_law_goods ["can"] scope_law_goods := ⟨rfl, rfl, rfl, by decide +kernel, rfl, by decide +kernel, by decide +kernel⟩
theorem ok_law_goods {f : Addr} {fd : FuncData} (F : FunD K "_law_goods" "_law_goods" (defArgs (top 52)) (defBody (top 52)) scope_law_goods [] [] f fd) (T : Fx K mg) (h_law_one : Cal P wd K mg base 2 "_law_one" ["can", "things"] f_law_one) (h_law_pour : Cal P wd K mg base 1 "_law_pour" ["can", "top"] f_law_pour) (h_law_spot : Cal P wd K mg base 3 "_law_spot" ["can"] f_law_spot) : FnOk P wd K mg base (L2.CX P wd) 4 f fd ["can"] (spM K mg 1 (fnD 3 0 b_law_goods)) :=
  fn_body (N := N_law_goods) (k := 3) (nx := 0) (m := b_law_goods) F fs_law_goods fun _ _ _ _ _ _ os o => ess_cons (es_set 1 o.nd (ev_call h_law_one o.room o.px (by rfl) (ea_cons (ev_var 0) (ea_cons (ev_lst (ea_cons (ev_int) (ea_cons (ev_int) (ea_cons (ev_int) (ea_cons (ev_int) (ea_cons (ev_bin od_add (ev_int) (ev_call h_law_pour o.room o.px (by rfl) (ea_cons (ev_var 0) (ea_cons (ev_int) (ea_nil))))) (ea_nil))))))) (ea_nil))))) (ess_cons (es_set 2 o.nd (ev_bin od_add (ev_bin od_add (ev_var 1) (ev_int)) (ev_call h_law_pour o.room o.px (by rfl) (ea_cons (ev_var 0) (ea_cons (ev_bin od_sub (ev_int) (ev_var 1)) (ea_nil)))))) (ess_one (es_ret (ev_if (et_cmp od_gt (ev_call h_law_pour o.room o.px (by rfl) (ea_cons (ev_var 0) (ea_cons (ev_int) (ea_nil)))) (ev_int) (nomark _)) (ev_tup (ea_cons (ev_var 1) (ea_cons (ev_var 2) (ea_nil)))) (ev_tup (ea_cons (ev_var 1) (ea_cons (ev_var 2) (ea_cons (ev_call h_law_spot o.room o.px (by rfl) (ea_cons (ev_var 0) (ea_nil))) (ea_nil)))))))))
theorem fs_law_step : FnScope N_law_step ["can", "words"] scope_law_step := ⟨rfl, rfl, rfl, by decide +kernel, rfl, by decide +kernel, by decide +kernel⟩
theorem ok_law_step {f : Addr} {fd : FuncData} (F : FunD K "_law_step" "_law_step" (defArgs (top 53)) (defBody (top 53)) scope_law_step [] [] f fd) (T : Fx K mg) (h_law_one : Cal P wd K mg base 2 "_law_one" ["can", "things"] f_law_one) (h_law_pour : Cal P wd K mg base 1 "_law_pour" ["can", "top"] f_law_pour) (h_law_spot : Cal P wd K mg base 3 "_law_spot" ["can"] f_law_spot) : FnOk P wd K mg base (L2.CX P wd) 4 f fd ["can", "words"] (spM K mg 2 (fnD 3 0 b_law_step)) :=
  fn_body (N := N_law_step) (k := 3) (nx := 0) (m := b_law_step) F fs_law_step fun _ _ _ _ _ _ os o => ess_cons (es_set 2 o.nd (ev_call h_law_one o.room o.px (by rfl) (ea_cons (ev_var 0) (ea_cons (ev_var 1) (ea_nil))))) (ess_cons (es_if (et_cmp od_in (ev_var 2) (ev_lst (ea_cons (ev_str) (ea_cons (ev_str) (ea_nil)))) rfl) (ess_one (es_ret (ev_tup (ea_cons (ev_var 2) (ea_cons (ev_call h_law_one o.room o.px (by rfl) (ea_cons (ev_var 0) (ea_cons (ev_lst (ea_cons (ev_int) (ea_cons (ev_int) (ea_cons (ev_int) (ea_cons (ev_int) (ea_cons (ev_int) (ea_cons (ev_bin od_add (ev_int) (ev_call h_law_pour o.room o.px (by rfl) (ea_cons (ev_var 0) (ea_cons (ev_int) (ea_nil))))) (ea_nil)))))))) (ea_nil)))) (ea_cons (ev_call h_law_spot o.room o.px (by rfl) (ea_cons (ev_var 0) (ea_nil))) (ea_nil))))))) (ess_nil)) (ess_cons (es_if (et_cmp od_in (ev_var 2) (ev_lst (ea_cons (ev_str) (ea_cons (ev_str) (ea_nil)))) rfl) (ess_one (es_ret (ev_tup (ea_cons (ev_var 2) (ea_cons (ev_call h_law_one o.room o.px (by rfl) (ea_cons (ev_var 0) (ea_cons (ev_lst (ea_cons (ev_str) (ea_cons (ev_str) (ea_nil)))) (ea_nil)))) (ea_cons (ev_if (et_cmp (od_eq o.units) (ev_var 2) (ev_str) (nomark _)) (ev_call h_law_spot o.room o.px (by rfl) (ea_cons (ev_var 0) (ea_nil))) (ev_int)) (ea_nil))))))) (ess_nil)) (ess_one (es_ret (ev_tup (ea_cons (ev_var 2) (ea_cons (ev_if (et_cmp (od_eq o.units) (ev_var 2) (ev_str) (nomark _)) (ev_str) (ev_str)) (ea_cons (ev_call h_law_spot o.room o.px (by rfl) (ea_cons (ev_var 0) (ea_nil))) (ea_nil)))))))))
theorem fs_law_steps : FnScope N_law_steps ["can", "most", "words"] scope_law_steps := ⟨rfl, rfl, rfl, by decide +kernel, rfl, by decide +kernel, by decide +kernel⟩
theorem ok_law_steps {f : Addr} {fd : FuncData} (F : FunD K "_law_steps" "_law_steps" (defArgs (top 54)) (defBody (top 54)) scope_law_steps [] [] f fd) (T : Fx K mg) (h_law_pour : Cal P wd K mg base 1 "_law_pour" ["can", "top"] f_law_pour) (h_law_step : Cal P wd K mg base 4 "_law_step" ["can", "words"] f_law_step) : FnOk P wd K mg base (L2.CX P wd) 5 f fd ["can", "most", "words"] (spM K mg 3 (fnD 4 0 b_law_steps)) :=
  fn_body (N := N_law_steps) (k := 4) (nx := 0) (m := b_law_steps) F fs_law_steps fun _ _ _ _ _ _ os o => ess_one (es_ret (ev_lc o (blkOk_by (own := [("k", 3)]) (N := N_law_steps) (sc := scope_law_steps) (by decide +kernel)) (lcok o (ei_range1 (by rfl) T.b_range (ea_cons (ev_call h_law_pour o.room o.px (by rfl) (ea_cons (ev_var 0) (ea_cons (ev_bin od_add (ev_var 1) (ev_int)) (ea_nil)))) (ea_nil))) (fun _ _ _ _ _ o => tg_name 3 o.nd) (fun _ _ _ _ _ o => ets_nil) (fun _ _ _ _ _ o => ev_call h_law_step o.room o.px (by rfl) (ea_cons (ev_var 0) (ea_cons (ev_var 2) (ea_nil)))) (by decide))))
theorem fs_law_sketch : FnScope N_law_sketch ["can", "most", "words"] scope_law_sketch := ⟨rfl, rfl, rfl, by decide +kernel, rfl, by decide +kernel, by decide +kernel⟩
theorem ok_law_sketch {f : Addr} {fd : FuncData} (F : FunD K "_law_sketch" "_law_sketch" (defArgs (top 65)) (defBody (top 65)) scope_law_sketch [] [] f fd) (T : Fx K mg) (h_law_fewest : Cal P wd K mg base 2 "_law_fewest" ["steps"] f_law_fewest) (h_law_goods : Cal P wd K mg base 4 "_law_goods" ["can"] f_law_goods) (h_law_one : Cal P wd K mg base 2 "_law_one" ["can", "things"] f_law_one) (h_law_steps : Cal P wd K mg base 5 "_law_steps" ["can", "most", "words"] f_law_steps) : FnOk P wd K mg base (L2.CX P wd) 6 f fd ["can", "most", "words"] (spM K mg 3 (fnD 5 0 b_law_sketch)) :=
  fn_body (N := N_law_sketch) (k := 5) (nx := 0) (m := b_law_sketch) F fs_law_sketch fun _ _ _ _ _ _ os o => ess_cons (es_par 3 4 o (ea_cons (ev_call h_law_goods o.room o.px (by rfl) (ea_cons (ev_var 0) (ea_nil))) (ea_cons (ev_call h_law_steps o.room o.px (by rfl) (ea_cons (ev_var 0) (ea_cons (ev_var 1) (ea_cons (ev_var 2) (ea_nil))))) (ea_nil)))) (ess_one (es_ret (ev_tup (ea_cons (ev_var 3) (ea_cons (ev_var 4) (ea_cons (ev_bin od_add (ev_call h_law_fewest o.room o.px (by rfl) (ea_cons (ev_var 4) (ea_nil))) (ev_call h_law_one o.room o.px (by rfl) (ea_cons (ev_var 0) (ea_cons (ev_lst (ea_cons (ev_int) (ea_cons (ev_int) (ea_cons (ev_int) (ea_cons (ev_int) (ea_cons (ev_int) (ea_nil))))))) (ea_nil))))) (ea_nil)))))))
theorem fs_law_standing : FnScope N_law_standing ["can", "goods", "many"] scope_law_standing := ⟨rfl, rfl, rfl, by decide +kernel, rfl, by decide +kernel, by decide +kernel⟩
theorem ok_law_standing {f : Addr} {fd : FuncData} (F : FunD K "_law_standing" "_law_standing" (defArgs (top 63)) (defBody (top 63)) scope_law_standing [] [] f fd) (T : Fx K mg) (h_law_one : Cal P wd K mg base 2 "_law_one" ["can", "things"] f_law_one) (h_law_pour : Cal P wd K mg base 1 "_law_pour" ["can", "top"] f_law_pour) : FnOk P wd K mg base (L2.CX P wd) 3 f fd ["can", "goods", "many"] (spM K mg 3 (fnD 7 0 b_law_standing)) :=
  fn_body (N := N_law_standing) (k := 2) (nx := 0) (m := b_law_standing) F fs_law_standing fun _ _ _ _ _ _ os o => ess_cons (es_set 3 o.nd (ev_call h_law_one o.room o.px (by rfl) (ea_cons (ev_var 0) (ea_cons (ev_lst (ea_cons (ev_int) (ea_cons (ev_int) (ea_cons (ev_bin od_sub (ev_call h_law_pour o.room o.px (by rfl) (ea_cons (ev_var 0) (ea_cons (ev_int) (ea_nil)))) (ev_int)) (ea_cons (ev_call h_law_pour o.room o.px (by rfl) (ea_cons (ev_var 0) (ea_cons (ev_int) (ea_nil)))) (ea_nil)))))) (ea_nil))))) (ess_cons (es_set 4 o.nd (ev_cell (ea_cons (ev_if (et_cmp (od_eq o.units) (ev_callB cd_len (by rfl) T.b_len bt_len (ea_cons (ev_var 1) (ea_nil))) (ev_int) (nomark _)) (ev_var 3) (ev_bin od_add (ev_ix (ev_var 1) (ev_int) (fun _ _ => rfl)) (ev_callB cd_abs (by rfl) T.b_abs bt_abs (ea_cons (ev_var 3) (ea_nil))))) (ea_nil)))) (ess_cons (es_for os (ei_range1 (by rfl) T.b_range (ea_cons (ev_bin od_sub (ev_var 2) (ev_int)) (ea_nil))) (tg_name 5 o.nd) (ess_cons (es_set 6 o.nd (ev_call h_law_one o.room o.px (by rfl) (ea_cons (ev_var 0) (ea_cons (ev_lst (ea_cons (ev_ix (ev_var 1) (ev_int) (fun _ _ => rfl)) (ea_cons (ev_ix (ev_var 1) (ev_int) (fun _ _ => rfl)) (ea_cons (ev_bin od_add (ev_ix (ev_var 1) (ev_int) (fun _ _ => rfl)) (ev_call h_law_pour o.room o.px (by rfl) (ea_cons (ev_var 0) (ea_cons (ev_bin od_add (ev_bin od_sub (ev_ix (ev_var 1) (ev_int) (fun _ _ => rfl)) (ev_ix (ev_var 1) (ev_int) (fun _ _ => rfl))) (ev_int)) (ea_nil))))) (ea_nil))))) (ea_nil))))) (ess_one (es_expr (ev_append (ev_var 4) (ea_cons (ev_bin od_add (ev_ix (ev_var 4) (ev_un ud_neg (ev_int)) (fun _ _ => rfl)) (ev_var 6)) (ea_nil))))))) (ess_one (es_ret (ev_freeze (ev_var 4))))))
theorem fs_check_known : FnScope N_check_known ["script"] scope_check_known := ⟨rfl, rfl, rfl, by decide +kernel, rfl, by decide +kernel, by decide +kernel⟩
theorem ok_check_known {f : Addr} {fd : FuncData} (F : FunD K "check_known" "check_known" (defArgs (top 34)) (defBody (top 34)) scope_check_known [] [] f fd) (T : Fx K mg) : FnOk P wd K mg base (L2.CX P wd) 1 f fd ["script"] (spM K mg 1 (fnD 3 0 b_check_known)) :=
  fn_body (N := N_check_known) (k := 0) (nx := 0) (m := b_check_known) F fs_check_known fun _ _ _ _ _ _ os o => ess_one (es_for os (ei_enumT (by rfl) T.b_enumerate (ea_cons (ev_fld T.k_Script T.a_Script_steps (ev_var 0)) (ea_nil))) (tg_tup o.calm (tgs_cons 1 o.nd (tgs_cons 2 o.nd (tgs_nil)))) (ess_one (es_if (et_cmp (od_eq o.units) (ev_ix (ev_var 2) (ev_int) (fun _ _ => rfl)) (ev_str) (nomark _)) (ess_one (es_never)) (ess_nil))))
theorem fs_check_script : FnScope N_check_script ["value"] scope_check_script := ⟨rfl, rfl, rfl, by decide +kernel, rfl, by decide +kernel, by decide +kernel⟩
theorem ok_check_script {f : Addr} {fd : FuncData} (F : FunD K "check_script" "check_script" (defArgs (top 33)) (defBody (top 33)) scope_check_script [] [] f fd) (T : Fx K mg) : FnOk P wd K mg base (L2.CX P wd) 1 f fd ["value"] (spM K mg 1 (fnD 1 0 b_check_script)) :=
  fn_body (N := N_check_script) (k := 0) (nx := 0) (m := b_check_script) F fs_check_script fun _ _ _ _ _ _ os o => ess_one (es_if (et_not (et_tru (ev_callB (cd_isiC T.i_Script) (by rfl) T.b_isinstance bt_isinstance (ea_cons (ev_var 0) (ea_cons (ev_glob (by rfl) T.n_Script) (ea_nil)))))) (ess_one (es_never)) (ess_nil))
theorem fs_Script_cloth : FnScope N_Script_cloth ["self"] scope_Script_cloth := ⟨rfl, rfl, rfl, by decide +kernel, rfl, by decide +kernel, by decide +kernel⟩
theorem ok_Script_cloth {f : Addr} {fd : FuncData} (F : FunD K "cloth" "Script.cloth" (defArgs (inClass (top 32) 4)) (defBody (inClass (top 32) 4)) scope_Script_cloth [] [] f fd) (T : Fx K mg) : FnOk P wd K mg base (L2.CX P wd) 1 f fd ["self"] (spM K mg 1 (fnD 1 0 b_Script_cloth)) :=
  fn_body (N := N_Script_cloth) (k := 0) (nx := 0) (m := b_Script_cloth) F fs_Script_cloth fun _ _ _ _ _ _ os o => ess_one (es_ret (ev_fld T.k_Script T.a_Script_goods (ev_var 0)))
theorem fs_first_too_few : FnScope N_first_too_few ["script", "count"] scope_first_too_few := ⟨rfl, rfl, rfl, by decide +kernel, rfl, by decide +kernel, by decide +kernel⟩
theorem ok_first_too_few {f : Addr} {fd : FuncData} (F : FunD K "first_too_few" "first_too_few" (defArgs (top 44)) (defBody (top 44)) scope_first_too_few [] [] f fd) (T : Fx K mg) (h_asked_by : Cal P wd K mg base 1 "asked_by" ["step"] f_asked_by) (h_more_by : Cal P wd K mg base 1 "more_by" ["step"] f_more_by) : FnOk P wd K mg base (L2.CX P wd) 2 f fd ["script", "count"] (spM K mg 2 (fnD 4 0 b_first_too_few)) :=
  fn_body (N := N_first_too_few) (k := 1) (nx := 0) (m := b_first_too_few) F fs_first_too_few fun _ _ _ _ _ _ os o => ess_cons (es_for os (ei_enumT (by rfl) T.b_enumerate (ea_cons (ev_fld T.k_Script T.a_Script_steps (ev_var 0)) (ea_nil))) (tg_tup o.calm (tgs_cons 2 o.nd (tgs_cons 3 o.nd (tgs_nil)))) (ess_cons (es_if (et_cmp od_lt (ev_var 1) (ev_call h_asked_by o.room o.px (by rfl) (ea_cons (ev_var 3) (ea_nil))) (nomark _)) (ess_one (es_ret (ev_var 2))) (ess_nil)) (ess_one (es_augA 1 o.nd (ev_call h_more_by o.room o.px (by rfl) (ea_cons (ev_var 3) (ea_nil))))))) (ess_one (es_ret (ev_non)))
theorem fs_led : FnScope N_led ["script", "places"] scope_led := ⟨rfl, rfl, rfl, by decide +kernel, rfl, by decide +kernel, by decide +kernel⟩
theorem ok_led {f : Addr} {fd : FuncData} (F : FunD K "led" "led" (defArgs (top 46)) (defBody (top 46)) scope_led [] [] f fd) (T : Fx K mg) (h_check_known : Cal P wd K mg base 1 "check_known" ["script"] f_check_known) (h_check_script : Cal P wd K mg base 1 "check_script" ["value"] f_check_script) (h_check_standing : Cal P wd K mg base 3 "check_standing" ["cloth", "places"] f_check_standing) (h_Script_cloth : Prp P wd K mg base 1 "Script" "cloth" f_Script_cloth) (h_first_too_few : Cal P wd K mg base 2 "first_too_few" ["script", "count"] f_first_too_few) (h_moved : Cal P wd K mg base 3 "moved" ["cloth", "places", "step"] f_moved) : FnOk P wd K mg base (L2.CX P wd) 4 f fd ["script", "places"] (spM K mg 2 (fnD 5 0 b_led)) :=
  fn_body (N := N_led) (k := 3) (nx := 0) (m := b_led) F fs_led fun _ _ _ _ _ _ os o => ess_cons (es_expr (ev_call h_check_script o.room o.px (by rfl) (ea_cons (ev_var 0) (ea_nil)))) (ess_cons (es_expr (ev_call h_check_known o.room o.px (by rfl) (ea_cons (ev_var 0) (ea_nil)))) (ess_cons (es_expr (ev_call h_check_standing o.room o.px (by rfl) (ea_cons (ev_prop h_Script_cloth o.room (ev_var 0)) (ea_cons (ev_var 1) (ea_nil))))) (ess_cons (es_set 2 o.nd (ev_call h_first_too_few o.room o.px (by rfl) (ea_cons (ev_var 0) (ea_cons (ev_callB cd_len (by rfl) T.b_len bt_len (ea_cons (ev_var 1) (ea_nil))) (ea_nil))))) (ess_cons (es_if (et_cmp od_isnot (ev_var 2) (ev_non) (nomark _)) (ess_one (es_never)) (ess_nil)) (ess_cons (es_set 3 o.nd (ev_prop h_Script_cloth o.room (ev_var 0))) (ess_cons (es_for os (ei_tup (ev_fld T.k_Script T.a_Script_steps (ev_var 0))) (tg_name 4 o.nd) (ess_one (es_tg (ev_call h_moved o.room o.px (by rfl) (ea_cons (ev_var 3) (ea_cons (ev_var 1) (ea_cons (ev_var 4) (ea_nil))))) (tg_tup o.calm (tgs_cons 3 o.nd (tgs_cons 1 o.nd (tgs_nil))))))) (ess_one (es_ret (ev_var 1)))))))))
theorem fs_law_right : FnScope N_law_right ["can"] scope_law_right := ⟨rfl, rfl, rfl, by decide +kernel, rfl, by decide +kernel, by decide +kernel⟩
theorem ok_law_right {f : Addr} {fd : FuncData} (F : FunD K "_law_right" "_law_right" (defArgs (top 70)) (defBody (top 70)) scope_law_right [] [] f fd) (T : Fx K mg) (h_law_all_words : Cal P wd K mg base 1 "_law_all_words" [] f_law_all_words) (h_law_further : Cal P wd K mg base 3 "_law_further" ["can", "goods", "spots"] f_law_further) (h_law_in_mirror : Cal P wd K mg base 1 "_law_in_mirror" ["spots"] f_law_in_mirror) (h_law_made : Cal P wd K mg base 8 "_law_made" ["goods", "steps"] f_law_made) (h_law_mirrored : Cal P wd K mg base 1 "_law_mirrored" ["step"] f_law_mirrored) (h_law_one : Cal P wd K mg base 2 "_law_one" ["can", "things"] f_law_one) (h_law_shifted_right : Cal P wd K mg base 6 "_law_shifted_right" ["can", "goods", "steps", "spots", "behind"] f_law_shifted_right) (h_law_sketch : Cal P wd K mg base 6 "_law_sketch" ["can", "most", "words"] f_law_sketch) (h_law_spot : Cal P wd K mg base 3 "_law_spot" ["can"] f_law_spot) (h_law_standing : Cal P wd K mg base 3 "_law_standing" ["can", "goods", "many"] f_law_standing) (h_led : Cal P wd K mg base 4 "led" ["script", "places"] f_led) (hk_led_script_places : CalK P wd K mg base 4 "led" ["script", "places"] ["script", "places"] [0, 1] f_led) : FnOk P wd K mg base (L2.CX P wd) 9 f fd ["can"] (spM K mg 1 (fnD 16 0 b_law_right)) :=
  fn_body (N := N_law_right) (k := 8) (nx := 0) (m := b_law_right) F fs_law_right fun _ _ _ _ _ _ os o => ess_cons (es_tg (ev_call h_law_sketch o.room o.px (by rfl) (ea_cons (ev_var 0) (ea_cons (ev_int) (ea_cons (ev_call0 h_law_all_words o.room o.px (by rfl)) (ea_nil))))) (tg_tup o.calm (tgs_cons 7 o.nd (tgs_cons 8 o.nd (tgs_cons 9 o.nd (tgs_nil)))))) (ess_cons (es_set 1 o.nd (ev_call h_law_one o.room o.px (by rfl) (ea_cons (ev_var 0) (ea_cons (ev_lst (ea_cons (ev_call h_law_spot o.room o.px (by rfl) (ea_cons (ev_var 0) (ea_nil))) (ea_cons (ev_un ud_neg (ev_int)) (ea_nil)))) (ea_nil))))) (ess_cons (es_par 7 10 o (ea_cons (ev_slice (ev_var 7) (eo_none) (eo_some (ev_int))) (ea_cons (ev_bin od_add (ev_slice (ev_var 7) (eo_none) (eo_some (ev_int))) (ev_tup (ea_cons (ev_var 1) (ea_nil)))) (ea_nil)))) (ess_cons (es_par 11 12 o (ea_cons (ev_call h_law_made o.room o.px (by rfl) (ea_cons (ev_var 7) (ea_cons (ev_var 8) (ea_nil)))) (ea_cons (ev_callTy cd_tuple (by rfl) T.b_tuple bt_tuple (ea_cons (ev_call h_law_standing o.room o.px (by rfl) (ea_cons (ev_var 0) (ea_cons (ev_var 7) (ea_cons (ev_var 9) (ea_nil))))) (ea_nil))) (ea_nil)))) (ess_cons (es_set 2 o.nd (ev_call h_led o.room o.px (by rfl) (ea_cons (ev_var 11) (ea_cons (ev_var 12) (ea_nil))))) (ess_cons (es_set 3 o.nd (ev_call h_law_made o.room o.px (by rfl) (ea_cons (ev_var 7) (ea_cons (ev_lc o (blkOk_by (own := [("step", 14)]) (N := N_law_right) (sc := scope_law_right) (by decide +kernel)) (lcok o (ei_list (ev_var 8)) (fun _ _ _ _ _ o => tg_name 14 o.nd) (fun _ _ _ _ _ o => ets_nil) (fun _ _ _ _ _ o => ev_call h_law_mirrored o.room o.px (by rfl) (ea_cons (ev_var 14) (ea_nil))) (by decide))) (ea_nil))))) (ess_cons (es_if (et_cmp (od_ne o.units) (ev_call h_led o.room o.px (by rfl) (ea_cons (ev_var 3) (ea_cons (ev_call h_law_in_mirror o.room o.px (by rfl) (ea_cons (ev_var 12) (ea_nil))) (ea_nil)))) (ev_call h_law_in_mirror o.room o.px (by rfl) (ea_cons (ev_var 2) (ea_nil))) (nomark _)) (ess_one (es_ret (ev_bl))) (ess_nil)) (ess_cons (es_if (et_not (et_tru (ev_call h_law_shifted_right o.room o.px (by rfl) (ea_cons (ev_var 0) (ea_cons (ev_var 7) (ea_cons (ev_var 8) (ea_cons (ev_var 12) (ea_cons (ev_var 2) (ea_nil))))))))) (ess_one (es_ret (ev_bl))) (ess_nil)) (ess_cons (es_set 4 o.nd (ev_call h_led o.room o.px (by rfl) (ea_cons (ev_var 11) (ea_cons (ev_callTy cd_tuple (by rfl) T.b_tuple bt_tuple (ea_cons (ev_call h_law_further o.room o.px (by rfl) (ea_cons (ev_var 0) (ea_cons (ev_var 7) (ea_cons (ev_var 12) (ea_nil))))) (ea_nil))) (ea_nil))))) (ess_cons (es_if ((ew_or (et_cmp (od_ne o.units) (ev_callB cd_len (by rfl) T.b_len bt_len (ea_cons (ev_var 4) (ea_nil))) (ev_callB cd_len (by rfl) T.b_len bt_len (ea_cons (ev_var 2) (ea_nil))) (nomark _)) (ew_or1 (et_cmp (od_ne o.units) (ev_lc o (blkOk_by (own := [("k", 15)]) (N := N_law_right) (sc := scope_law_right) (by decide +kernel)) (lcok o (ei_range1 (by rfl) T.b_range (ea_cons (ev_callB cd_len (by rfl) T.b_len bt_len (ea_cons (ev_var 4) (ea_nil))) (ea_nil))) (fun _ _ _ _ _ o => tg_name 15 o.nd) (fun _ _ _ _ _ o => ets_one (et_cmp od_lt (ev_ix (ev_var 4) (ev_var 15) (fun _ _ => rfl)) (ev_ix (ev_var 2) (ev_var 15) (fun _ _ => rfl)) (nomark _))) (fun _ _ _ _ _ o => ev_var 15) (by decide))) (ev_lst (ea_nil)) (nomark _)))).et) (ess_one (es_ret (ev_bl))) (ess_nil)) (ess_cons (es_set 5 o.nd (ev_call h_law_standing o.room o.px (by rfl) (ea_cons (ev_var 0) (ea_cons (ev_var 10) (ea_cons (ev_var 9) (ea_nil)))))) (ess_cons (es_tg (ev_tup (ea_cons (ev_call h_led o.room o.px (by rfl) (ea_cons (ev_call h_law_made o.room o.px (by rfl) (ea_cons (ev_var 10) (ea_cons (ev_var 8) (ea_nil)))) (ea_cons (ev_callTy cd_tuple (by rfl) T.b_tuple bt_tuple (ea_cons (ev_var 5) (ea_nil))) (ea_nil)))) (ea_cons (ev_callTy cd_tuple (by rfl) T.b_tuple bt_tuple (ea_cons (ev_call h_law_further o.room o.px (by rfl) (ea_cons (ev_var 0) (ea_cons (ev_var 7) (ea_cons (ev_var 5) (ea_nil))))) (ea_nil))) (ea_nil)))) (tg_tup o.calm (tgs_cons 13 o.nd (tgs_cons 6 o.nd (tgs_nil))))) (ess_cons (es_set 6 o.nd (ev_callK0 hk_led_script_places o.room o.px (by rfl) (ea_nil) (ek_cons (ev_call h_law_made o.room o.px (by rfl) (ea_cons (ev_var 10) (ea_cons (ev_var 8) (ea_nil)))) (ek_cons (ev_var 6) (ek_nil))))) (ess_one (es_ret (ev_andV (ev_cmp (od_eq o.units) (ev_callB cd_len (by rfl) T.b_len bt_len (ea_cons (ev_var 13) (ea_nil))) (ev_callB cd_len (by rfl) T.b_len bt_len (ea_cons (ev_var 6) (ea_nil))) (nomark _)) (ev_one (ev_cmp (od_eq o.units) (ev_lc o (blkOk_by (own := [("k", 15)]) (N := N_law_right) (sc := scope_law_right) (by decide +kernel)) (lcok o (ei_range1 (by rfl) T.b_range (ea_cons (ev_callB cd_len (by rfl) T.b_len bt_len (ea_cons (ev_var 13) (ea_nil))) (ea_nil))) (fun _ _ _ _ _ o => tg_name 15 o.nd) (fun _ _ _ _ _ o => ets_one (et_cmp od_lt (ev_ix (ev_var 6) (ev_var 15) (fun _ _ => rfl)) (ev_ix (ev_var 13) (ev_var 15) (fun _ _ => rfl)) (nomark _))) (fun _ _ _ _ _ o => ev_var 15) (by decide))) (ev_lst (ea_nil)) (nomark _))))))))))))))))))
theorem fs_law : FnScope N_law ["cells"] scope_law := ⟨rfl, rfl, rfl, by decide +kernel, rfl, by decide +kernel, by decide +kernel⟩
theorem ok_law {f : Addr} {fd : FuncData} (F : FunD K "law" "law" (defArgs (top 71)) (defBody (top 71)) scope_law [] [] f fd) (T : Fx K mg) (h_law_can : Cal P wd K mg base 1 "_law_can" ["cells", "turn"] f_law_can) (h_law_right : Cal P wd K mg base 9 "_law_right" ["can"] f_law_right) : FnOk P wd K mg base (L2.CX P wd) 10 f fd ["cells"] (spM K mg 1 (fnD 2 0 b_law)) :=
  fn_body (N := N_law) (k := 9) (nx := 0) (m := b_law) F fs_law fun _ _ _ _ _ _ os o => ess_one (es_ret (ev_callB (cd_all o.calm) (by rfl) T.b_all bt_all (ea_cons (ev_lc o (blkOk_by (own := [("turn", 1)]) (N := N_law) (sc := scope_law) (by decide +kernel)) (lcok o (ei_range1 (by rfl) T.b_range (ea_cons (ev_callB (cd_max o.calm) (by rfl) T.b_max bt_max (ea_cons (ev_int) (ea_cons (ev_callB (cd_min o.calm) (by rfl) T.b_min bt_min (ea_cons (ev_callB cd_len (by rfl) T.b_len bt_len (ea_cons (ev_var 0) (ea_nil))) (ea_cons (ev_int) (ea_nil)))) (ea_nil)))) (ea_nil))) (fun _ _ _ _ _ o => tg_name 1 o.nd) (fun _ _ _ _ _ o => ets_nil) (fun _ _ _ _ _ o => ev_call h_law_right o.room o.px (by rfl) (ea_cons (ev_call h_law_can o.room o.px (by rfl) (ea_cons (ev_var 0) (ea_cons (ev_var 1) (ea_nil)))) (ea_nil))) (by decide))) (ea_nil))))
end
end K51

namespace K51
open PySem PySem.Spec PyProof.Rows L2 He Gn
theorem facts {P : Program} {w : World} {K : PySem.W.Frag} {h : Heap} {mg : Str → Option Value} {f : Addr} (X : K.In h) (G : h.Ns mainGlobals mg) (hfa : mg ("law" : Str) = some (.ref f)) (c : SaysX fa exB fn K) :
    ∃ fd : FuncData, (∀ (s : Shared) (v : Value), BindsTo s fd ⟨[v], []⟩ [("cells", v)]) ∧ ∀ base : Heap, K.In base → base.Ns mainGlobals mg → FnOk P w K mg base (L2.CX P w) 10 f fd ["cells"] (spM K mg 1 f_law) := by
  have T : Fx K mg := {
    a_Rail_held := noat_ok (c.fact 0 (f := .noat "Rail" "held") rfl)
    a_Script_floor := noat_ok (c.fact 1 (f := .noat "Script" "floor") rfl)
    a_Script_goods := noat_ok (c.fact 2 (f := .noat "Script" "goods") rfl)
    a_Script_steps := noat_ok (c.fact 3 (f := .noat "Script" "steps") rfl)
    a_Script_told := noat_ok (c.fact 4 (f := .noat "Script" "told") rfl)
    b_abs := free_ok X G (c.fact 5 (f := .free "abs") rfl)
    b_all := free_ok X G (c.fact 6 (f := .free "all") rfl)
    b_bool := free_ok X G (c.fact 7 (f := .free "bool") rfl)
    b_divmod := free_ok X G (c.fact 8 (f := .free "divmod") rfl)
    b_enumerate := free_ok X G (c.fact 9 (f := .free "enumerate") rfl)
    b_int := free_ok X G (c.fact 10 (f := .free "int") rfl)
    b_isinstance := free_ok X G (c.fact 11 (f := .free "isinstance") rfl)
    b_len := free_ok X G (c.fact 12 (f := .free "len") rfl)
    b_max := free_ok X G (c.fact 13 (f := .free "max") rfl)
    b_min := free_ok X G (c.fact 14 (f := .free "min") rfl)
    b_range := free_ok X G (c.fact 15 (f := .free "range") rfl)
    b_str := free_ok X G (c.fact 16 (f := .free "str") rfl)
    b_tuple := free_ok X G (c.fact 17 (f := .free "tuple") rfl)
    g_FIGURES := gl_str X G (c.fact 18 (f := .str "FIGURES" "0123456789") rfl)
    g_MOST_CLOTH := gl_int X G (c.fact 19 (f := .int "MOST_CLOTH" 9) rfl)
    g_MOST_MOVES := gl_int X G (c.fact 20 (f := .int "MOST_MOVES" 10) rfl)
    g_MOST_NAMED := gl_int X G (c.fact 21 (f := .int "MOST_NAMED" 5) rfl)
    g_MOST_PLACE := gl_int X G (c.fact 22 (f := .int "MOST_PLACE" 99) rfl)
    g_SIDES := gl_tup X G (c.fact 23 (f := .glo "SIDES") rfl) (exAt c.extra 0 (b := tupB K "SIDES" [.str "left", .str "right"]) rfl) (fun w => ⟨_, _, rfl, rfl, ⟨_, _, rfl, rfl, rfl⟩⟩)
    i_Script := isiB_ok (exAt c.extra 1 (b := isiB K "Script") rfl) (cls_at X G (c.fact 24 (f := .glo "Script") rfl) (c.fact 25 (f := .cls "Script") rfl))
    k_Rail := (cls_at X G (c.fact 26 (f := .glo "Rail") rfl) (c.fact 27 (f := .cls "Rail") rfl))
    k_Script := (cls_at X G (c.fact 24 (f := .glo "Script") rfl) (c.fact 25 (f := .cls "Script") rfl))
    n_Script := gl_nm X G (c.fact 24 (f := .glo "Script") rfl)
    }
  obtain ⟨fd0, F0⟩ := c.def_ 0 (d := x_law_can) rfl
  obtain ⟨fd1, F1⟩ := c.def_ 1 (d := x_law_all_words) rfl
  obtain ⟨fd2, F2⟩ := c.def_ 2 (d := x_law_pour) rfl
  obtain ⟨fd3, F3⟩ := c.def_ 3 (d := x_law_one) rfl
  obtain ⟨fd4, F4⟩ := c.def_ 4 (d := x_law_further) rfl
  obtain ⟨fd5, F5⟩ := c.def_ 5 (d := x_law_in_mirror) rfl
  obtain ⟨fd6, F6⟩ := c.def_ 6 (d := x_law_head) rfl
  obtain ⟨fd7, F7⟩ := c.def_ 7 (d := x_law_line) rfl
  obtain ⟨fd8, F8⟩ := c.def_ 8 (d := x_law_rows) rfl
  obtain ⟨fd9, F9⟩ := c.def_ 9 (d := x_is_integer) rfl
  obtain ⟨fd10, F10⟩ := c.def_ 10 (d := x_is_cloth) rfl
  obtain ⟨fd11, F11⟩ := c.def_ 11 (d := x_number_in) rfl
  obtain ⟨fd12, F12⟩ := c.def_ 12 (d := x_cloth_in) rfl
  obtain ⟨fd13, F13⟩ := c.def_ 13 (d := x_asked_by) rfl
  obtain ⟨fd14, F14⟩ := c.def_ 14 (d := x_more_by) rfl
  obtain ⟨fd15, F15⟩ := c.def_ 15 (d := x_least_for) rfl
  obtain ⟨fd16, F16⟩ := c.def_ 16 (d := x_bounded) rfl
  obtain ⟨fd17, F17⟩ := c.def_ 17 (d := x_move_in) rfl
  obtain ⟨fd18, F18⟩ := c.def_ 18 (d := x_wrong_rows) rfl
  obtain ⟨fd19, F19⟩ := c.def_ 19 (d := x_Script___init__) rfl
  obtain ⟨fd20, F20⟩ := c.def_ 20 (d := x_Script_read) rfl
  obtain ⟨fd21, F21⟩ := c.def_ 21 (d := x_law_made) rfl
  obtain ⟨fd22, F22⟩ := c.def_ 22 (d := x_law_mirrored) rfl
  obtain ⟨fd23, F23⟩ := c.def_ 23 (d := x_check_cloth) rfl
  obtain ⟨fd24, F24⟩ := c.def_ 24 (d := x_wrong_place) rfl
  obtain ⟨fd25, F25⟩ := c.def_ 25 (d := x_check_standing) rfl
  obtain ⟨fd26, F26⟩ := c.def_ 26 (d := x_Rail___init__) rfl
  obtain ⟨fd27, F27⟩ := c.def_ 27 (d := x_Rail___len__) rfl
  obtain ⟨fd28, F28⟩ := c.def_ 28 (d := x_law_spot) rfl
  obtain ⟨fd29, F29⟩ := c.def_ 29 (d := x_law_target) rfl
  obtain ⟨fd30, F30⟩ := c.def_ 30 (d := x_Rail_change_to) rfl
  obtain ⟨fd31, F31⟩ := c.def_ 31 (d := x_clamped) rfl
  obtain ⟨fd32, F32⟩ := c.def_ 32 (d := x_goal_of) rfl
  obtain ⟨fd33, F33⟩ := c.def_ 33 (d := x_drawn) rfl
  obtain ⟨fd34, F34⟩ := c.def_ 34 (d := x_is_between) rfl
  obtain ⟨fd35, F35⟩ := c.def_ 35 (d := x_Rail_draw) rfl
  obtain ⟨fd36, F36⟩ := c.def_ 36 (d := x_carried) rfl
  obtain ⟨fd37, F37⟩ := c.def_ 37 (d := x_moved) rfl
  obtain ⟨fd38, F38⟩ := c.def_ 38 (d := x_Rail_move) rfl
  obtain ⟨fd39, F39⟩ := c.def_ 39 (d := x_Rail_places) rfl
  obtain ⟨fd40, F40⟩ := c.def_ 40 (d := x_law_shifted_right) rfl
  obtain ⟨fd41, F41⟩ := c.def_ 41 (d := x_law_asked) rfl
  obtain ⟨fd42, F42⟩ := c.def_ 42 (d := x_law_more) rfl
  obtain ⟨fd43, F43⟩ := c.def_ 43 (d := x_law_fewest) rfl
  obtain ⟨fd44, F44⟩ := c.def_ 44 (d := x_law_goods) rfl
  obtain ⟨fd45, F45⟩ := c.def_ 45 (d := x_law_step) rfl
  obtain ⟨fd46, F46⟩ := c.def_ 46 (d := x_law_steps) rfl
  obtain ⟨fd47, F47⟩ := c.def_ 47 (d := x_law_sketch) rfl
  obtain ⟨fd48, F48⟩ := c.def_ 48 (d := x_law_standing) rfl
  obtain ⟨fd49, F49⟩ := c.def_ 49 (d := x_check_known) rfl
  obtain ⟨fd50, F50⟩ := c.def_ 50 (d := x_check_script) rfl
  obtain ⟨fd51, F51⟩ := c.def_ 51 (d := x_Script_cloth) rfl
  obtain ⟨fd52, F52⟩ := c.def_ 52 (d := x_first_too_few) rfl
  obtain ⟨fd53, F53⟩ := c.def_ 53 (d := x_led) rfl
  obtain ⟨fd54, F54⟩ := c.def_ 54 (d := x_law_right) rfl
  obtain ⟨fd55, F55⟩ := c.def_ 55 (d := x_law) rfl
  have e := hfa.symm.trans (glo_ok X G (c.fact 74 (f := .glo "law") rfl))
  cases e
  have b := FunD.bindsA (ps := ["cells"]) F55 (fun _ _ _ _ _ _ us hl => match us, hl with | [_], _ => rfl)
  refine ⟨fd55, fun s v => b s [v] rfl, fun base _ _ => ?_⟩
  have o0 : FnOk P w K mg base (L2.CX P w) 1 (x_law_can.loc K) fd0 ["cells", "turn"] (spM K mg 2 (fnD 5 1 b_law_can)) := ok_law_can F0 T 
  have h_law_can : Cal P w K mg base 1 "_law_can" ["cells", "turn"] f_law_can := cal_mk X G (c.fact 28 (f := .glo "_law_can") rfl) F0 (fun _ _ _ _ _ _ us hl => match us, hl with | [_, _], _ => rfl) o0
  have o1 : FnOk P w K mg base (L2.CX P w) 1 (x_law_all_words.loc K) fd1 [] (spM K mg 0 (fnD 0 0 b_law_all_words)) := ok_law_all_words F1 T 
  have h_law_all_words : Cal P w K mg base 1 "_law_all_words" [] f_law_all_words := cal_mk X G (c.fact 29 (f := .glo "_law_all_words") rfl) F1 (fun _ _ _ _ _ _ us hl => match us, hl with | [], _ => rfl) o1
  have o2 : FnOk P w K mg base (L2.CX P w) 1 (x_law_pour.loc K) fd2 ["can", "top"] (spM K mg 2 (fnD 3 0 b_law_pour)) := ok_law_pour F2 T 
  have h_law_pour : Cal P w K mg base 1 "_law_pour" ["can", "top"] f_law_pour := cal_mk X G (c.fact 30 (f := .glo "_law_pour") rfl) F2 (fun _ _ _ _ _ _ us hl => match us, hl with | [_, _], _ => rfl) o2
  have o3 : FnOk P w K mg base (L2.CX P w) 2 (x_law_one.loc K) fd3 ["can", "things"] (spM K mg 2 (fnD 2 0 b_law_one)) := ok_law_one F3 T h_law_pour
  have h_law_one : Cal P w K mg base 2 "_law_one" ["can", "things"] f_law_one := cal_mk X G (c.fact 31 (f := .glo "_law_one") rfl) F3 (fun _ _ _ _ _ _ us hl => match us, hl with | [_, _], _ => rfl) o3
  have o4 : FnOk P w K mg base (L2.CX P w) 3 (x_law_further.loc K) fd4 ["can", "goods", "spots"] (spM K mg 3 (fnD 6 0 b_law_further)) := ok_law_further F4 T h_law_one h_law_pour
  have h_law_further : Cal P w K mg base 3 "_law_further" ["can", "goods", "spots"] f_law_further := cal_mk X G (c.fact 32 (f := .glo "_law_further") rfl) F4 (fun _ _ _ _ _ _ us hl => match us, hl with | [_, _, _], _ => rfl) o4
  have o5 : FnOk P w K mg base (L2.CX P w) 1 (x_law_in_mirror.loc K) fd5 ["spots"] (spM K mg 1 (fnD 2 0 b_law_in_mirror)) := ok_law_in_mirror F5 T 
  have h_law_in_mirror : Cal P w K mg base 1 "_law_in_mirror" ["spots"] f_law_in_mirror := cal_mk X G (c.fact 33 (f := .glo "_law_in_mirror") rfl) F5 (fun _ _ _ _ _ _ us hl => match us, hl with | [_], _ => rfl) o5
  have o6 : FnOk P w K mg base (L2.CX P w) 1 (x_law_head.loc K) fd6 ["goods"] (spM K mg 1 (fnD 2 0 b_law_head)) := ok_law_head F6 T 
  have h_law_head : Cal P w K mg base 1 "_law_head" ["goods"] f_law_head := cal_mk X G (c.fact 34 (f := .glo "_law_head") rfl) F6 (fun _ _ _ _ _ _ us hl => match us, hl with | [_], _ => rfl) o6
  have o7 : FnOk P w K mg base (L2.CX P w) 1 (x_law_line.loc K) fd7 ["step"] (spM K mg 1 (fnD 4 0 b_law_line)) := ok_law_line F7 T 
  have h_law_line : Cal P w K mg base 1 "_law_line" ["step"] f_law_line := cal_mk X G (c.fact 35 (f := .glo "_law_line") rfl) F7 (fun _ _ _ _ _ _ us hl => match us, hl with | [_], _ => rfl) o7
  have o8 : FnOk P w K mg base (L2.CX P w) 2 (x_law_rows.loc K) fd8 ["goods", "steps"] (spM K mg 2 (fnD 3 0 b_law_rows)) := ok_law_rows F8 T h_law_head h_law_line
  have h_law_rows : Cal P w K mg base 2 "_law_rows" ["goods", "steps"] f_law_rows := cal_mk X G (c.fact 36 (f := .glo "_law_rows") rfl) F8 (fun _ _ _ _ _ _ us hl => match us, hl with | [_, _], _ => rfl) o8
  have o9 : FnOk P w K mg base (L2.CX P w) 1 (x_is_integer.loc K) fd9 ["value"] (spM K mg 1 (fnD 1 0 b_is_integer)) := ok_is_integer F9 T 
  have h_is_integer : Cal P w K mg base 1 "is_integer" ["value"] f_is_integer := cal_mk X G (c.fact 37 (f := .glo "is_integer") rfl) F9 (fun _ _ _ _ _ _ us hl => match us, hl with | [_], _ => rfl) o9
  have o10 : FnOk P w K mg base (L2.CX P w) 2 (x_is_cloth.loc K) fd10 ["value"] (spM K mg 1 (fnD 2 0 b_is_cloth)) := ok_is_cloth F10 T h_is_integer
  have h_is_cloth : Cal P w K mg base 2 "is_cloth" ["value"] f_is_cloth := cal_mk X G (c.fact 38 (f := .glo "is_cloth") rfl) F10 (fun _ _ _ _ _ _ us hl => match us, hl with | [_], _ => rfl) o10
  have o11 : FnOk P w K mg base (L2.CX P w) 1 (x_number_in.loc K) fd11 ["word"] (spM K mg 1 (fnD 3 0 b_number_in)) := ok_number_in F11 T 
  have h_number_in : Cal P w K mg base 1 "number_in" ["word"] f_number_in := cal_mk X G (c.fact 39 (f := .glo "number_in") rfl) F11 (fun _ _ _ _ _ _ us hl => match us, hl with | [_], _ => rfl) o11
  have o12 : FnOk P w K mg base (L2.CX P w) 3 (x_cloth_in.loc K) fd12 ["row"] (spM K mg 1 (fnD 4 0 b_cloth_in)) := ok_cloth_in F12 T h_is_cloth h_number_in
  have h_cloth_in : Cal P w K mg base 3 "cloth_in" ["row"] f_cloth_in := cal_mk X G (c.fact 40 (f := .glo "cloth_in") rfl) F12 (fun _ _ _ _ _ _ us hl => match us, hl with | [_], _ => rfl) o12
  have o13 : FnOk P w K mg base (L2.CX P w) 1 (x_asked_by.loc K) fd13 ["step"] (spM K mg 1 (fnD 1 0 b_asked_by)) := ok_asked_by F13 T 
  have h_asked_by : Cal P w K mg base 1 "asked_by" ["step"] f_asked_by := cal_mk X G (c.fact 41 (f := .glo "asked_by") rfl) F13 (fun _ _ _ _ _ _ us hl => match us, hl with | [_], _ => rfl) o13
  have o14 : FnOk P w K mg base (L2.CX P w) 1 (x_more_by.loc K) fd14 ["step"] (spM K mg 1 (fnD 1 0 b_more_by)) := ok_more_by F14 T 
  have h_more_by : Cal P w K mg base 1 "more_by" ["step"] f_more_by := cal_mk X G (c.fact 42 (f := .glo "more_by") rfl) F14 (fun _ _ _ _ _ _ us hl => match us, hl with | [_], _ => rfl) o14
  have o15 : FnOk P w K mg base (L2.CX P w) 2 (x_least_for.loc K) fd15 ["steps"] (spM K mg 1 (fnD 4 0 b_least_for)) := ok_least_for F15 T h_asked_by h_more_by
  have h_least_for : Cal P w K mg base 2 "least_for" ["steps"] f_least_for := cal_mk X G (c.fact 43 (f := .glo "least_for") rfl) F15 (fun _ _ _ _ _ _ us hl => match us, hl with | [_], _ => rfl) o15
  have o16 : FnOk P w K mg base (L2.CX P w) 2 (x_bounded.loc K) fd16 ["word", "least", "most"] (spM K mg 3 (fnD 4 0 b_bounded)) := ok_bounded F16 T h_number_in
  have h_bounded : Cal P w K mg base 2 "bounded" ["word", "least", "most"] f_bounded := cal_mk X G (c.fact 44 (f := .glo "bounded") rfl) F16 (fun _ _ _ _ _ _ us hl => match us, hl with | [_, _, _], _ => rfl) o16
  have o17 : FnOk P w K mg base (L2.CX P w) 3 (x_move_in.loc K) fd17 ["row"] (spM K mg 1 (fnD 4 0 b_move_in)) := ok_move_in F17 T h_bounded
  have h_move_in : Cal P w K mg base 3 "move_in" ["row"] f_move_in := cal_mk X G (c.fact 45 (f := .glo "move_in") rfl) F17 (fun _ _ _ _ _ _ us hl => match us, hl with | [_], _ => rfl) o17
  have o18 : FnOk P w K mg base (L2.CX P w) 4 (x_wrong_rows.loc K) fd18 ["rows"] (spM K mg 1 (fnD 3 0 b_wrong_rows)) := ok_wrong_rows F18 T h_cloth_in h_move_in
  have h_wrong_rows : Cal P w K mg base 4 "wrong_rows" ["rows"] f_wrong_rows := cal_mk X G (c.fact 46 (f := .glo "wrong_rows") rfl) F18 (fun _ _ _ _ _ _ us hl => match us, hl with | [_], _ => rfl) o18
  have o19 : FnR P w K mg base (L2.CX P w) 5 (x_Script___init__.loc K) (spR K mg f_Script___init__) := ok_Script___init__ F19 T h_cloth_in h_least_for h_move_in h_wrong_rows
  have h_Script : Mak P w K mg base 5 "Script" f_Script___init__ := ⟨_, _, (cls_at X G (c.fact 24 (f := .glo "Script") rfl) (c.fact 25 (f := .cls "Script") rfl)), mkr_ok (c.fact 75 (f := .mkr "Script") rfl), o19⟩
  have o20 : FnOk P w K mg base (L2.CX P w) 7 (x_Script_read.loc K) fd20 ["cls", "text"] (spM K mg 2 (fnD 3 0 b_Script_read)) := ok_Script_read F20 T h_Script h_wrong_rows
  obtain ⟨r20, p20, hp20⟩ := cmetB_ok (exAt c.extra 2 (b := cmetB K "Script" "read") rfl)
  have h_Script_read : CMt P w K mg base 7 "Script" "read" 2 f_Script_read := ⟨_, _, p20, _, glo_ok X G (c.fact 24 (f := .glo "Script") rfl), r20, hp20, fnR_of (F20.bindsN (fun _ _ _ _ _ _ us hl => match us, hl with | [_, _], _ => rfl)) o20⟩
  have o21 : FnOk P w K mg base (L2.CX P w) 8 (x_law_made.loc K) fd21 ["goods", "steps"] (spM K mg 2 (fnD 2 0 b_law_made)) := ok_law_made F21 T h_law_rows h_Script_read
  have h_law_made : Cal P w K mg base 8 "_law_made" ["goods", "steps"] f_law_made := cal_mk X G (c.fact 47 (f := .glo "_law_made") rfl) F21 (fun _ _ _ _ _ _ us hl => match us, hl with | [_, _], _ => rfl) o21
  have o22 : FnOk P w K mg base (L2.CX P w) 1 (x_law_mirrored.loc K) fd22 ["step"] (spM K mg 1 (fnD 4 0 b_law_mirrored)) := ok_law_mirrored F22 T 
  have h_law_mirrored : Cal P w K mg base 1 "_law_mirrored" ["step"] f_law_mirrored := cal_mk X G (c.fact 48 (f := .glo "_law_mirrored") rfl) F22 (fun _ _ _ _ _ _ us hl => match us, hl with | [_], _ => rfl) o22
  have o23 : FnOk P w K mg base (L2.CX P w) 3 (x_check_cloth.loc K) fd23 ["value"] (spM K mg 1 (fnD 1 0 b_check_cloth)) := ok_check_cloth F23 T h_is_cloth
  have h_check_cloth : Cal P w K mg base 3 "check_cloth" ["value"] f_check_cloth := cal_mk X G (c.fact 49 (f := .glo "check_cloth") rfl) F23 (fun _ _ _ _ _ _ us hl => match us, hl with | [_], _ => rfl) o23
  have o24 : FnOk P w K mg base (L2.CX P w) 2 (x_wrong_place.loc K) fd24 ["cloth", "places"] (spM K mg 2 (fnD 4 0 b_wrong_place)) := ok_wrong_place F24 T h_is_integer
  have h_wrong_place : Cal P w K mg base 2 "wrong_place" ["cloth", "places"] f_wrong_place := cal_mk X G (c.fact 50 (f := .glo "wrong_place") rfl) F24 (fun _ _ _ _ _ _ us hl => match us, hl with | [_, _], _ => rfl) o24
  have o25 : FnOk P w K mg base (L2.CX P w) 3 (x_check_standing.loc K) fd25 ["cloth", "places"] (spM K mg 2 (fnD 3 0 b_check_standing)) := ok_check_standing F25 T h_wrong_place
  have h_check_standing : Cal P w K mg base 3 "check_standing" ["cloth", "places"] f_check_standing := cal_mk X G (c.fact 51 (f := .glo "check_standing") rfl) F25 (fun _ _ _ _ _ _ us hl => match us, hl with | [_, _], _ => rfl) o25
  have o26 : FnOk P w K mg base (L2.CX P w) 4 (x_Rail___init__.loc K) fd26 ["self", "cloth", "places"] (spM K mg 3 (fnD 3 0 b_Rail___init__)) := ok_Rail___init__ F26 T h_check_cloth h_check_standing
  have h_Rail : Mak P w K mg base 4 "Rail" f_Rail___init__ := ⟨_, _, (cls_at X G (c.fact 26 (f := .glo "Rail") rfl) (c.fact 27 (f := .cls "Rail") rfl)), mkr_ok (c.fact 76 (f := .mkr "Rail") rfl), spR_of (fnR_of (F26.bindsN (fun _ _ _ _ _ _ us hl => match us, hl with | [_, _, _], _ => rfl)) o26)⟩
  have o27 : FnOk P w K mg base (L2.CX P w) 1 (x_Rail___len__.loc K) fd27 ["self"] (spM K mg 1 (fnD 1 0 b_Rail___len__)) := ok_Rail___len__ F27 T 
  have h_Rail___len__ : LnO P w K mg base 1 "Rail" f_Rail___len__ := ⟨_, _, (cls_at X G (c.fact 26 (f := .glo "Rail") rfl) (c.fact 27 (f := .cls "Rail") rfl)), eqO_ok (ba (exAt c.extra 3 (b := lenB K "Rail") rfl)).1, (ba (exAt c.extra 3 (b := lenB K "Rail") rfl)).2, fnR_of (F27.bindsN (fun _ _ _ _ _ _ us hl => match us, hl with | [_], _ => rfl)) o27⟩
  have o28 : FnOk P w K mg base (L2.CX P w) 3 (x_law_spot.loc K) fd28 ["can"] (spM K mg 1 (fnD 1 0 b_law_spot)) := ok_law_spot F28 T h_law_one h_law_pour
  have h_law_spot : Cal P w K mg base 3 "_law_spot" ["can"] f_law_spot := cal_mk X G (c.fact 52 (f := .glo "_law_spot") rfl) F28 (fun _ _ _ _ _ _ us hl => match us, hl with | [_], _ => rfl) o28
  have o29 : FnOk P w K mg base (L2.CX P w) 1 (x_law_target.loc K) fd29 ["step", "many"] (spM K mg 2 (fnD 2 0 b_law_target)) := ok_law_target F29 T 
  have h_law_target : Cal P w K mg base 1 "_law_target" ["step", "many"] f_law_target := cal_mk X G (c.fact 53 (f := .glo "_law_target") rfl) F29 (fun _ _ _ _ _ _ us hl => match us, hl with | [_, _], _ => rfl) o29
  have o30 : FnOk P w K mg base (L2.CX P w) 1 (x_Rail_change_to.loc K) fd30 ["self", "cloth", "places"] (spM K mg 3 (fnD 3 0 b_Rail_change_to)) := ok_Rail_change_to F30 T 
  have h_Rail_change_to : Met P w K mg base 1 "Rail" "change_to" ["self", "cloth", "places"] f_Rail_change_to := ⟨_, _, fd30, (cls_at X G (c.fact 26 (f := .glo "Rail") rfl) (c.fact 27 (f := .cls "Rail") rfl)), meth_ok (c.fact 77 (f := .meth "Rail" "change_to") rfl), F30.bindsN (fun _ _ _ _ _ _ us hl => match us, hl with | [_, _, _], _ => rfl), o30⟩
  have o31 : FnOk P w K mg base (L2.CX P w) 1 (x_clamped.loc K) fd31 ["value", "one", "two"] (spM K mg 3 (fnD 3 0 b_clamped)) := ok_clamped F31 T 
  have h_clamped : Cal P w K mg base 1 "clamped" ["value", "one", "two"] f_clamped := cal_mk X G (c.fact 54 (f := .glo "clamped") rfl) F31 (fun _ _ _ _ _ _ us hl => match us, hl with | [_, _, _], _ => rfl) o31
  have o32 : FnOk P w K mg base (L2.CX P w) 1 (x_goal_of.loc K) fd32 ["cloth", "index", "place"] (spM K mg 3 (fnD 3 0 b_goal_of)) := ok_goal_of F32 T 
  have h_goal_of : Cal P w K mg base 1 "goal_of" ["cloth", "index", "place"] f_goal_of := cal_mk X G (c.fact 55 (f := .glo "goal_of") rfl) F32 (fun _ _ _ _ _ _ us hl => match us, hl with | [_, _, _], _ => rfl) o32
  have o33 : FnOk P w K mg base (L2.CX P w) 2 (x_drawn.loc K) fd33 ["cloth", "places", "index", "place"] (spM K mg 4 (fnD 9 0 b_drawn)) := ok_drawn F33 T h_clamped h_goal_of
  have h_drawn : Cal P w K mg base 2 "drawn" ["cloth", "places", "index", "place"] f_drawn := cal_mk X G (c.fact 56 (f := .glo "drawn") rfl) F33 (fun _ _ _ _ _ _ us hl => match us, hl with | [_, _, _, _], _ => rfl) o33
  have o34 : FnOk P w K mg base (L2.CX P w) 2 (x_is_between.loc K) fd34 ["value", "least", "most"] (spM K mg 3 (fnD 3 0 b_is_between)) := ok_is_between F34 T h_is_integer
  have h_is_between : Cal P w K mg base 2 "is_between" ["value", "least", "most"] f_is_between := cal_mk X G (c.fact 57 (f := .glo "is_between") rfl) F34 (fun _ _ _ _ _ _ us hl => match us, hl with | [_, _, _], _ => rfl) o34
  have o35 : FnOk P w K mg base (L2.CX P w) 3 (x_Rail_draw.loc K) fd35 ["self", "index", "place"] (spM K mg 3 (fnD 3 0 b_Rail_draw)) := ok_Rail_draw F35 T h_Rail_change_to h_drawn h_is_between h_is_integer
  have h_Rail_draw : Met P w K mg base 3 "Rail" "draw" ["self", "index", "place"] f_Rail_draw := ⟨_, _, fd35, (cls_at X G (c.fact 26 (f := .glo "Rail") rfl) (c.fact 27 (f := .cls "Rail") rfl)), meth_ok (c.fact 78 (f := .meth "Rail" "draw") rfl), F35.bindsN (fun _ _ _ _ _ _ us hl => match us, hl with | [_, _, _], _ => rfl), o35⟩
  have o36 : FnOk P w K mg base (L2.CX P w) 1 (x_carried.loc K) fd36 ["cloth", "by"] (spM K mg 2 (fnD 2 0 b_carried)) := ok_carried F36 T 
  have h_carried : Cal P w K mg base 1 "carried" ["cloth", "by"] f_carried := cal_mk X G (c.fact 58 (f := .glo "carried") rfl) F36 (fun _ _ _ _ _ _ us hl => match us, hl with | [_, _], _ => rfl) o36
  have o37 : FnOk P w K mg base (L2.CX P w) 3 (x_moved.loc K) fd37 ["cloth", "places", "step"] (spM K mg 3 (fnD 7 0 b_moved)) := ok_moved F37 T h_carried h_drawn
  have h_moved : Cal P w K mg base 3 "moved" ["cloth", "places", "step"] f_moved := cal_mk X G (c.fact 59 (f := .glo "moved") rfl) F37 (fun _ _ _ _ _ _ us hl => match us, hl with | [_, _, _], _ => rfl) o37
  have o38 : FnOk P w K mg base (L2.CX P w) 4 (x_Rail_move.loc K) fd38 ["self", "move"] (spM K mg 2 (fnD 5 0 b_Rail_move)) := ok_Rail_move F38 T h_asked_by h_Rail_change_to h_move_in h_moved
  have h_Rail_move : Met P w K mg base 4 "Rail" "move" ["self", "move"] f_Rail_move := ⟨_, _, fd38, (cls_at X G (c.fact 26 (f := .glo "Rail") rfl) (c.fact 27 (f := .cls "Rail") rfl)), meth_ok (c.fact 79 (f := .meth "Rail" "move") rfl), F38.bindsN (fun _ _ _ _ _ _ us hl => match us, hl with | [_, _], _ => rfl), o38⟩
  have o39 : FnOk P w K mg base (L2.CX P w) 1 (x_Rail_places.loc K) fd39 ["self"] (spM K mg 1 (fnD 1 0 b_Rail_places)) := ok_Rail_places F39 T 
  obtain ⟨p39, hp39⟩ := propB_ok (exAt c.extra 4 (b := propB K "Rail" "places") rfl)
  have h_Rail_places : Prp P w K mg base 1 "Rail" "places" f_Rail_places := ⟨_, p39, _, fd39, ["self"], (cls_at X G (c.fact 26 (f := .glo "Rail") rfl) (c.fact 27 (f := .cls "Rail") rfl)), hp39, F39.bindsN (fun _ _ _ _ _ _ us hl => match us, hl with | [_], _ => rfl), rfl, o39⟩
  have o40 : FnOk P w K mg base (L2.CX P w) 6 (x_law_shifted_right.loc K) fd40 ["can", "goods", "steps", "spots", "behind"] (spM K mg 5 (fnD 9 0 b_law_shifted_right)) := ok_law_shifted_right F40 T h_Rail h_Rail___len__ h_law_line h_law_one h_law_spot h_law_target h_Rail_draw h_Rail_move h_Rail_places
  have h_law_shifted_right : Cal P w K mg base 6 "_law_shifted_right" ["can", "goods", "steps", "spots", "behind"] f_law_shifted_right := cal_mk X G (c.fact 60 (f := .glo "_law_shifted_right") rfl) F40 (fun _ _ _ _ _ _ us hl => match us, hl with | [_, _, _, _, _], _ => rfl) o40
  have o41 : FnOk P w K mg base (L2.CX P w) 1 (x_law_asked.loc K) fd41 ["step"] (spM K mg 1 (fnD 1 0 b_law_asked)) := ok_law_asked F41 T 
  have h_law_asked : Cal P w K mg base 1 "_law_asked" ["step"] f_law_asked := cal_mk X G (c.fact 61 (f := .glo "_law_asked") rfl) F41 (fun _ _ _ _ _ _ us hl => match us, hl with | [_], _ => rfl) o41
  have o42 : FnOk P w K mg base (L2.CX P w) 1 (x_law_more.loc K) fd42 ["step"] (spM K mg 1 (fnD 1 0 b_law_more)) := ok_law_more F42 T 
  have h_law_more : Cal P w K mg base 1 "_law_more" ["step"] f_law_more := cal_mk X G (c.fact 62 (f := .glo "_law_more") rfl) F42 (fun _ _ _ _ _ _ us hl => match us, hl with | [_], _ => rfl) o42
  have o43 : FnOk P w K mg base (L2.CX P w) 2 (x_law_fewest.loc K) fd43 ["steps"] (spM K mg 1 (fnD 4 0 b_law_fewest)) := ok_law_fewest F43 T h_law_asked h_law_more
  have h_law_fewest : Cal P w K mg base 2 "_law_fewest" ["steps"] f_law_fewest := cal_mk X G (c.fact 63 (f := .glo "_law_fewest") rfl) F43 (fun _ _ _ _ _ _ us hl => match us, hl with | [_], _ => rfl) o43
  have o44 : FnOk P w K mg base (L2.CX P w) 4 (x_law_goods.loc K) fd44 ["can"] (spM K mg 1 (fnD 3 0 b_law_goods)) := ok_law_goods F44 T h_law_one h_law_pour h_law_spot
  have h_law_goods : Cal P w K mg base 4 "_law_goods" ["can"] f_law_goods := cal_mk X G (c.fact 64 (f := .glo "_law_goods") rfl) F44 (fun _ _ _ _ _ _ us hl => match us, hl with | [_], _ => rfl) o44
  have o45 : FnOk P w K mg base (L2.CX P w) 4 (x_law_step.loc K) fd45 ["can", "words"] (spM K mg 2 (fnD 3 0 b_law_step)) := ok_law_step F45 T h_law_one h_law_pour h_law_spot
  have h_law_step : Cal P w K mg base 4 "_law_step" ["can", "words"] f_law_step := cal_mk X G (c.fact 65 (f := .glo "_law_step") rfl) F45 (fun _ _ _ _ _ _ us hl => match us, hl with | [_, _], _ => rfl) o45
  have o46 : FnOk P w K mg base (L2.CX P w) 5 (x_law_steps.loc K) fd46 ["can", "most", "words"] (spM K mg 3 (fnD 4 0 b_law_steps)) := ok_law_steps F46 T h_law_pour h_law_step
  have h_law_steps : Cal P w K mg base 5 "_law_steps" ["can", "most", "words"] f_law_steps := cal_mk X G (c.fact 66 (f := .glo "_law_steps") rfl) F46 (fun _ _ _ _ _ _ us hl => match us, hl with | [_, _, _], _ => rfl) o46
  have o47 : FnOk P w K mg base (L2.CX P w) 6 (x_law_sketch.loc K) fd47 ["can", "most", "words"] (spM K mg 3 (fnD 5 0 b_law_sketch)) := ok_law_sketch F47 T h_law_fewest h_law_goods h_law_one h_law_steps
  have h_law_sketch : Cal P w K mg base 6 "_law_sketch" ["can", "most", "words"] f_law_sketch := cal_mk X G (c.fact 67 (f := .glo "_law_sketch") rfl) F47 (fun _ _ _ _ _ _ us hl => match us, hl with | [_, _, _], _ => rfl) o47
  have o48 : FnOk P w K mg base (L2.CX P w) 3 (x_law_standing.loc K) fd48 ["can", "goods", "many"] (spM K mg 3 (fnD 7 0 b_law_standing)) := ok_law_standing F48 T h_law_one h_law_pour
  have h_law_standing : Cal P w K mg base 3 "_law_standing" ["can", "goods", "many"] f_law_standing := cal_mk X G (c.fact 68 (f := .glo "_law_standing") rfl) F48 (fun _ _ _ _ _ _ us hl => match us, hl with | [_, _, _], _ => rfl) o48
  have o49 : FnOk P w K mg base (L2.CX P w) 1 (x_check_known.loc K) fd49 ["script"] (spM K mg 1 (fnD 3 0 b_check_known)) := ok_check_known F49 T 
  have h_check_known : Cal P w K mg base 1 "check_known" ["script"] f_check_known := cal_mk X G (c.fact 69 (f := .glo "check_known") rfl) F49 (fun _ _ _ _ _ _ us hl => match us, hl with | [_], _ => rfl) o49
  have o50 : FnOk P w K mg base (L2.CX P w) 1 (x_check_script.loc K) fd50 ["value"] (spM K mg 1 (fnD 1 0 b_check_script)) := ok_check_script F50 T 
  have h_check_script : Cal P w K mg base 1 "check_script" ["value"] f_check_script := cal_mk X G (c.fact 70 (f := .glo "check_script") rfl) F50 (fun _ _ _ _ _ _ us hl => match us, hl with | [_], _ => rfl) o50
  have o51 : FnOk P w K mg base (L2.CX P w) 1 (x_Script_cloth.loc K) fd51 ["self"] (spM K mg 1 (fnD 1 0 b_Script_cloth)) := ok_Script_cloth F51 T 
  obtain ⟨p51, hp51⟩ := propB_ok (exAt c.extra 5 (b := propB K "Script" "cloth") rfl)
  have h_Script_cloth : Prp P w K mg base 1 "Script" "cloth" f_Script_cloth := ⟨_, p51, _, fd51, ["self"], (cls_at X G (c.fact 24 (f := .glo "Script") rfl) (c.fact 25 (f := .cls "Script") rfl)), hp51, F51.bindsN (fun _ _ _ _ _ _ us hl => match us, hl with | [_], _ => rfl), rfl, o51⟩
  have o52 : FnOk P w K mg base (L2.CX P w) 2 (x_first_too_few.loc K) fd52 ["script", "count"] (spM K mg 2 (fnD 4 0 b_first_too_few)) := ok_first_too_few F52 T h_asked_by h_more_by
  have h_first_too_few : Cal P w K mg base 2 "first_too_few" ["script", "count"] f_first_too_few := cal_mk X G (c.fact 71 (f := .glo "first_too_few") rfl) F52 (fun _ _ _ _ _ _ us hl => match us, hl with | [_, _], _ => rfl) o52
  have o53 : FnOk P w K mg base (L2.CX P w) 4 (x_led.loc K) fd53 ["script", "places"] (spM K mg 2 (fnD 5 0 b_led)) := ok_led F53 T h_check_known h_check_script h_check_standing h_Script_cloth h_first_too_few h_moved
  have h_led : Cal P w K mg base 4 "led" ["script", "places"] f_led := cal_mk X G (c.fact 72 (f := .glo "led") rfl) F53 (fun _ _ _ _ _ _ us hl => match us, hl with | [_, _], _ => rfl) o53
  have hk_led_script_places : CalK P w K mg base 4 "led" ["script", "places"] ["script", "places"] [0, 1] f_led := ⟨_, fd53, glo_ok X G (c.fact 72 (f := .glo "led") rfl), F53.kp, kbinds_mk F53 (by decide) (fun _ _ _ _ _ _ us ws h1 h2 => match us, ws, h1, h2 with | [], [_, _], _, _ => rfl), o53⟩
  have o54 : FnOk P w K mg base (L2.CX P w) 9 (x_law_right.loc K) fd54 ["can"] (spM K mg 1 (fnD 16 0 b_law_right)) := ok_law_right F54 T h_law_all_words h_law_further h_law_in_mirror h_law_made h_law_mirrored h_law_one h_law_shifted_right h_law_sketch h_law_spot h_law_standing h_led hk_led_script_places
  have h_law_right : Cal P w K mg base 9 "_law_right" ["can"] f_law_right := cal_mk X G (c.fact 73 (f := .glo "_law_right") rfl) F54 (fun _ _ _ _ _ _ us hl => match us, hl with | [_], _ => rfl) o54
  have o55 : FnOk P w K mg base (L2.CX P w) 10 (x_law.loc K) fd55 ["cells"] (spM K mg 1 (fnD 2 0 b_law)) := ok_law F55 T h_law_can h_law_right
  exact o55
end K51
open PySem PySem.W PySem.Calls PyProof.Rows
theorem K51_of (hp : ∀ ns : List Int, ns.length ≤ 63 → (∀ z ∈ ns, Builtin.Int.intBits z ≤ 1048576) → ∃ S, K51.f_law [.lsc (ns.map .int)] [] = .ok (.bl true) S) : PySem.Challenge.rw_drawnrings_k51_whole_rails_mirrored_and.Holds := by
  w_on; o_law
  refine HandSHeadRun.head_any (r := OpenLaw.row PySem.Challenge.rw_drawnrings_k51_whole_rails_mirrored_and) (q := view (OpenLaw.row PySem.Challenge.rw_drawnrings_k51_whole_rails_mirrored_and).prog [71]) (H := K51.hk) (ob := K51.ob) (M := 20000) (loose := K51.nm0 ++ K51.nm1 ++ K51.nm2) (d := HandSHeadRun.topDef (OpenLaw.row PySem.Challenge.rw_drawnrings_k51_whole_rails_mirrored_and).prog 71) (kwd := []) K51.ob_eq
    (by kernel_rfl) (fun s => by kernel_rfl) K51.run (by kernel_rfl) (by kernel_rfl) (by kernel_rfl) (by rfl) (by first | assumption | decide +kernel) (by decide +kernel) ⟨rfl, rfl, rfl, rfl, rfl, by decide +kernel⟩ ?hw ?hc
  case hw => w_witness2
  case hc =>
    refine Gn.walk_ofW (l := PySem.Challenge.rw_drawnrings_k51_whole_rails_mirrored_and) (n := 63) (k := 10) (x := "cells") (CX := fun w => L2.CX (PySem.Challenge.rw_drawnrings_k51_whole_rails_mirrored_and).prog w) rfl (by decide) (by kernel_rfl) ⟨rfl, by decide, by decide⟩ ?F ?x
    · intro w mg fa h Y G hmg0
      obtain ⟨K, KX, c⟩ := Y
      have hmg : mg ("law" : PySem.Str) = some (.ref fa) := by
        have e : (HandSHeadRun.topDef (OpenLaw.row PySem.Challenge.rw_drawnrings_k51_whole_rails_mirrored_and).prog 71).name = ("law" : PySem.Str) := by kernel_rfl
        rw [← e]
        exact hmg0
      obtain ⟨fd, hb, hF⟩ := K51.facts (P := (PySem.Challenge.rw_drawnrings_k51_whole_rails_mirrored_and).prog) (w := w) KX G hmg c
      refine ⟨K, fd, Gn.spM K mg 1 K51.f_law, KX, hb, fun H a ns hl hbits _ hS => ?_, hF⟩
      obtain ⟨S, e⟩ := hp ns hl hbits
      exact Gn.law_spM hS e
    · rintro w H s e s2 ⟨_, _, _, _, _, _, _, _, _, _, _, _, z⟩
      exact z

theorem PySem.Challenge.cw_drawnrings_k51_whole_rails_mirrored_and_holds : PySem.Challenge.rw_drawnrings_k51_whole_rails_mirrored_and.Holds := by
  exact K51_of fun ns hl _ => K51.law_true ns hl
