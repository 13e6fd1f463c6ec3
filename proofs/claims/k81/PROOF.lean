import PyProof.Rows.All
import Wide.All
import OpenK.AllK
import Wide.FinOn
import HandS.ForMost
import HandS.ForExc
import HandS.Wide
import HandS.IsInst
import HandS.Iter
import HandS.RevRange
import HandS.CallSlots
import HandS.Style
import HandS.EndBits
import HandS.ExcIs
import HandS.Defaults
import PyProof.Rows.ListMulArg
import PyProof.ListMulAny
import HandS.ExcInit
import HandS.ExcField
import HandS.Conv
import HandS.Rev
import PyProof.ListRange
import HandS.Flt
import HandS.WideBits
import HandS.FStr
import HandS.Text
import HandS.RaiseMore
import PySem.Challenge.RW_turnframe_k81_numbers_as_texts

/-! P1 -/
set_option Elab.async false
set_option linter.all false
set_option maxRecDepth 100000
set_option maxHeartbeats 4000000
/-! P1: data trees, how they stand in the heap, the state of a frame. -/
namespace PL
open PySem PySem.Spec L2

/-- a kind of numbers without polynomials: fractions, rests by p -/
inductive BK where | fr | rs (p : Int)
  deriving DecidableEq
inductive Kd where | b (k : BK) | po (k : BK)
  deriving DecidableEq
inductive Xn where | kind | number | fit | turn | inverse | text | name | row
  deriving DecidableEq
inductive Ex where
  | kind | number | fit | turn | inverse (r : Int) | text | name | row
def Ex.n : Ex → Xn
  | .kind => .kind | .number => .number | .fit => .fit | .turn => .turn | .inverse _ => .inverse | .text => .text | .name => .name | .row => .row
/-- frozen data: nothing of it is changed any more -/
inductive D where
  | non | bl (b : Bool) | int (i : Int) | str (s : Str) | tup (xs : List D) | lst (xs : List D) | kd (k : Kd) | scr (ns : List Int) | obj (v : V) | exn (e : Ex) | dic | lsa (a : Addr) (xs : List D)
/-- a value: frozen; borrowed (stands now); a list that is the frame's own; a tuple with such parts -/
inductive O where
  | im (d : D) | bo (d : D) | ls (xs : List O) | tp (xs : List O)
/-- an exception that was caught: its class, its dict -/
def exq (a C : Addr) (d : Option Addr) : HO := .ext fun h => ∃ o vs, h.get? a = some o ∧ o.cls = .ref C ∧ o.dict = d ∧ o.data = .fields vs
/-- its own field -/
def RankAt (H : Hp) (d : Option Addr) : Ex → Prop
  | .inverse r => ∃ dd, d = some dd ∧ H dd = some (.xd [("rank", .int r)])
  | _ => d = none
/-- the addresses of the classes -/
structure Gx where
  K : PySem.W.Frag
  CF : Addr
  CR : Addr
  CP : Addr
  xs : Xn → Addr
  CK : Addr
  FE : Addr
/-- the entry of a def: what is frozen there, the heap -/
structure Cc where
  G : Gx
  F0 : Hp
  H0 : Hp

def KindAt (G : Gx) (H : Hp) : Kd → V → Prop
  | .b .fr, v => ∃ p dx, v = .ref p ∧ H p = some (.ins G.CF dx [])
  | .b (.rs q), v => ∃ p dx, v = .ref p ∧ H p = some (.ins G.CR dx [("prime", .int q)])
  | .po b, v => ∃ p dx u, v = .ref p ∧ H p = some (.ins G.CP dx [("under", u)]) ∧ match b with
    | .fr => ∃ p dx, u = .ref p ∧ H p = some (.ins G.CF dx [])
    | .rs q => ∃ p dx, u = .ref p ∧ H p = some (.ins G.CR dx [("prime", .int q)])
/-- all that is no list stays -/
def Keep (H H' : Hp) : Prop := ∀ b o, H b = some o → (∀ xs, o ≠ .lst xs) → H' b = some o
theorem Keep.of {H H' : Hp} (h : Same H H') : Keep H H' := fun b o e _ => h b o e
theorem Keep.refl (H : Hp) : Keep H H := fun _ _ e _ => e
theorem Keep.trans {H H1 H2 : Hp} (a : Keep H H1) (b : Keep H1 H2) : Keep H H2 := fun c o e n => b c o (a c o e n) n
theorem KindAt.mono {G : Gx} {H H' : Hp} (k : Keep H H') {d : Kd} {v : V} (h : KindAt G H d v) : KindAt G H' d v := by
  match d, h with
  | .b .fr, ⟨p, dx, e, q⟩ => exact ⟨p, dx, e, k _ _ q (fun _ z => nomatch z)⟩
  | .b (.rs _), ⟨p, dx, e, q⟩ => exact ⟨p, dx, e, k _ _ q (fun _ z => nomatch z)⟩
  | .po .fr, ⟨p, dx, u, e, q, p2, d2, e2, q2⟩ => exact ⟨p, dx, u, e, k _ _ q (fun _ z => nomatch z), p2, d2, e2, k _ _ q2 (fun _ z => nomatch z)⟩
  | .po (.rs _), ⟨p, dx, u, e, q, p2, d2, e2, q2⟩ => exact ⟨p, dx, u, e, k _ _ q (fun _ z => nomatch z), p2, d2, e2, k _ _ q2 (fun _ z => nomatch z)⟩

theorem RankAt.mono {H H' : Hp} (k : Keep H H') {d : Option Addr} {e : Ex} (h : RankAt H d e) : RankAt H' d e := by
  match e, h with
  | .inverse r, ⟨dd, e, q⟩ => exact ⟨dd, e, k _ _ q (fun _ z => nomatch z)⟩
  | .kind, h => exact h
  | .number, h => exact h
  | .fit, h => exact h
  | .turn, h => exact h
  | .text, h => exact h
  | .name, h => exact h
  | .row, h => exact h
mutual
/-- frozen data d stands at v: lists in F, all else in H -/
def Re (G : Gx) (F H : Hp) : D → V → Prop
  | .non, v => v = .non
  | .bl b, v => v = .bl b
  | .int i, v => v = .int i
  | .str s, v => v = .str s
  | .tup ds, v => ∃ a vs, v = .ref a ∧ H a = some (.tup vs) ∧ ds.length ≤ sizeLine ∧ ReL G F H ds vs
  | .lst ds, v => ∃ a vs, v = .ref a ∧ F a = some (.lst vs) ∧ ds.length ≤ sizeLine ∧ ReL G F H ds vs
  | .kd k, v => KindAt G H k v
  | .scr ns, v => ∃ a, v = .ref a ∧ SqL G.K F a (ns.map V.int)
  | .obj u, v => v = u
  | .dic, v => ∃ a, v = .ref a ∧ H a = some (.dK [])
  | .lsa a ds, v => v = .ref a ∧ ∃ vs, F a = some (.lst vs) ∧ ds.length ≤ sizeLine ∧ ReL G F H ds vs
  | .exn e, v => ∃ a d, v = .ref a ∧ H a = some (exq a (G.xs e.n) d) ∧ RankAt H d e
def ReL (G : Gx) (F H : Hp) : List D → List V → Prop
  | [], vs => vs = []
  | d :: ds, vs => ∃ v vr, vs = v :: vr ∧ Re G F H d v ∧ ReL G F H ds vr
end
mutual
theorem Re.mono {G : Gx} {F F' H H' : Hp} (f : Same F F') (k : Keep H H') : ∀ (d : D) (v : V), Re G F H d v → Re G F' H' d v
  | .non, _, h => h
  | .bl _, _, h => h
  | .int _, _, h => h
  | .str _, _, h => h
  | .tup ds, v, ⟨a, vs, e, q, z, r⟩ => ⟨a, vs, e, k _ _ q (fun _ z => nomatch z), z, ReL.mono f k ds vs r⟩
  | .lst ds, v, ⟨a, vs, e, q, z, r⟩ => ⟨a, vs, e, f _ _ q, z, ReL.mono f k ds vs r⟩
  | .kd _, _, h => KindAt.mono k h
  | .scr _, _, ⟨a, e, q⟩ => ⟨a, e, f.seq q⟩
  | .obj _, _, h => h
  | .dic, _, ⟨a, e, q⟩ => ⟨a, e, k _ _ q (fun _ z => nomatch z)⟩
  | .lsa a ds, v, ⟨e, vs, q, z, r⟩ => ⟨e, vs, f _ _ q, z, ReL.mono f k ds vs r⟩
  | .exn _, _, ⟨a, d, e, q, r⟩ => ⟨a, d, e, k _ _ q (fun _ z => nomatch z), r.mono k⟩
theorem ReL.mono {G : Gx} {F F' H H' : Hp} (f : Same F F') (k : Keep H H') : ∀ (ds : List D) (vs : List V), ReL G F H ds vs → ReL G F' H' ds vs
  | [], _, h => h
  | d :: ds, _, ⟨v, vr, e, h, r⟩ => ⟨v, vr, e, Re.mono f k d v h, ReL.mono f k ds vr r⟩
end
theorem ReL.length {G : Gx} {F H : Hp} : ∀ {ds : List D} {vs : List V}, ReL G F H ds vs → ds.length = vs.length
  | [], _, h => by have e : _ = _ := h; subst e; rfl
  | _ :: _, _, ⟨_, _, e, _, r⟩ => by subst e; simp [ReL.length r]
theorem ReL.get {G : Gx} {F H : Hp} : ∀ {ds : List D} {vs : List V} {i : Nat} {v : V}, ReL G F H ds vs → vs[i]? = some v → ∃ d, ds[i]? = some d ∧ Re G F H d v
  | [], _, i, v, h, q => by have e : _ = _ := h; subst e; simp at q
  | d :: ds, _, 0, v, ⟨_, _, e, h, r⟩, q => by subst e; simp at q; subst q; exact ⟨d, rfl, h⟩
  | d :: ds, _, i + 1, v, ⟨_, _, e, h, r⟩, q => by subst e; simp at q; obtain ⟨d', a, b⟩ := r.get q; exact ⟨d', by simpa using a, b⟩
theorem ReL.get' {G : Gx} {F H : Hp} : ∀ {ds : List D} {vs : List V} {i : Nat} {d : D}, ReL G F H ds vs → ds[i]? = some d → ∃ v, vs[i]? = some v ∧ Re G F H d v
  | [], _, i, v, h, q => by simp at q
  | d :: ds, _, 0, v, ⟨w, _, e, h, r⟩, q => by subst e; simp at q; subst q; exact ⟨w, rfl, h⟩
  | d :: ds, _, i + 1, v, ⟨_, _, e, h, r⟩, q => by subst e; simp at q; obtain ⟨d', a, b⟩ := r.get' q; exact ⟨d', by simpa using a, b⟩
theorem ReL.append {G : Gx} {F H : Hp} : ∀ {ds es : List D} {vs us : List V}, ReL G F H ds vs → ReL G F H es us → ReL G F H (ds ++ es) (vs ++ us)
  | [], _, _, _, h, r => by have e : _ = _ := h; subst e; exact r
  | d :: ds, _, _, _, ⟨v, vr, e, h, t⟩, r => by subst e; exact ⟨v, _, rfl, h, t.append r⟩
theorem ReL.ints {G : Gx} {F H : Hp} : ∀ (ns : List Int), ReL G F H (ns.map D.int) (ns.map V.int)
  | [] => rfl
  | n :: ns => ⟨_, _, rfl, rfl, ReL.ints ns⟩

mutual
/-- what the frame owns: A the addresses of its lists -/
def Ow (G : Gx) (F H : Hp) : O → V → List Addr → Prop
  | .im d, v, A => A = [] ∧ Re G F H d v
  | .bo _, _, _ => False
  | .ls os, v, A => ∃ a vs B, v = .ref a ∧ A = a :: B ∧ F a = none ∧ H a = some (.lst vs) ∧ os.length ≤ sizeLine ∧ OwL G F H os vs B
  | .tp os, v, A => ∃ a vs, v = .ref a ∧ H a = some (.tup vs) ∧ os.length ≤ sizeLine ∧ OwL G F H os vs A
def OwL (G : Gx) (F H : Hp) : List O → List V → List Addr → Prop
  | [], vs, A => vs = [] ∧ A = []
  | o :: os, vs, A => ∃ v vr B C, vs = v :: vr ∧ A = B ++ C ∧ Ow G F H o v B ∧ OwL G F H os vr C
end
/-- what is frozen; what may be read besides (the slots' own lists) -/
structure Fz where
  F : Hp
  B : Hp
/-- a temporary: owned, or borrowed -/
def Vw (G : Gx) (F : Fz) (H : Hp) (o : O) (v : V) (A : List Addr) : Prop := match o with
  | .bo d => A = [] ∧ Re G F.B H d v
  | o => Ow G F.F H o v A
def TmL (G : Gx) (F : Fz) (H : Hp) : List O → List V → List Addr → Prop
  | [], vs, A => vs = [] ∧ A = []
  | o :: os, vs, A => ∃ v vr B C, vs = v :: vr ∧ A = B ++ C ∧ Vw G F H o v B ∧ TmL G F H os vr C
def SlL (G : Gx) (F H : Hp) : List (Option O) → St → List Addr → Prop
  | [], σ, A => σ = [] ∧ A = []
  | none :: S, σ, A => ∃ x τ, σ = x :: τ ∧ SlL G F H S τ A
  | some o :: S, σ, A => ∃ v τ B C, σ = some v :: τ ∧ A = B ++ C ∧ Ow G F H o v B ∧ SlL G F H S τ C
/-- lists at A stay as they are -/
def At (A : List Addr) (F H F' H' : Hp) : Prop := ∀ a ∈ A, F' a = none ∧ H' a = H a
mutual
theorem Ow.mono {G : Gx} {F F' H H' : Hp} (f : Same F F') (k : Keep H H') : ∀ (o : O) (v : V) (A : List Addr), At A F H F' H' → Ow G F H o v A → Ow G F' H' o v A
  | .im d, v, A, s, ⟨e, h⟩ => ⟨e, h.mono f k⟩
  | .bo _, _, _, _, h => h.elim
  | .ls os, v, A, s, ⟨a, vs, B, e, eA, n, q, z, r⟩ => by
    subst eA
    exact ⟨a, vs, B, e, rfl, (s a List.mem_cons_self).1, (s a List.mem_cons_self).2.trans q, z, OwL.mono f k os vs B (fun b hb => s b (List.mem_cons_of_mem _ hb)) r⟩
  | .tp os, v, A, s, ⟨a, vs, e, q, z, r⟩ => ⟨a, vs, e, k _ _ q (fun _ z => nomatch z), z, OwL.mono f k os vs A s r⟩
theorem OwL.mono {G : Gx} {F F' H H' : Hp} (f : Same F F') (k : Keep H H') : ∀ (os : List O) (vs : List V) (A : List Addr), At A F H F' H' → OwL G F H os vs A → OwL G F' H' os vs A
  | [], _, _, _, h => h
  | o :: os, _, _, s, ⟨v, vr, B, C, e, eA, h, r⟩ => by
    subst eA
    exact ⟨v, vr, B, C, e, rfl, Ow.mono f k o v B (fun b hb => s b (List.mem_append_left _ hb)) h, OwL.mono f k os vr C (fun b hb => s b (List.mem_append_right _ hb)) r⟩
end
/- what is owned stands in H, not in F -/
mutual
theorem Ow.own {G : Gx} {F H : Hp} : ∀ {o : O} {v : V} {A : List Addr}, Ow G F H o v A → ∀ a ∈ A, F a = none ∧ ∃ vs, H a = some (.lst vs)
  | .im d, v, A, ⟨e, h⟩, a, ha => by subst e; exact absurd ha (by simp)
  | .bo _, _, _, h, _, _ => h.elim
  | .ls os, v, A, ⟨a, vs, B, e, eA, n, q, z, r⟩, b, hb => by
    subst eA
    rcases List.mem_cons.mp hb with rfl | hb
    · exact ⟨n, vs, q⟩
    · exact OwL.own r b hb
  | .tp os, v, A, ⟨a, vs, e, q, z, r⟩, b, hb => OwL.own r b hb
theorem OwL.own {G : Gx} {F H : Hp} : ∀ {os : List O} {vs : List V} {A : List Addr}, OwL G F H os vs A → ∀ a ∈ A, F a = none ∧ ∃ vs, H a = some (.lst vs)
  | [], _, _, ⟨_, e⟩, a, ha => by subst e; exact absurd ha (by simp)
  | o :: os, _, _, ⟨v, vr, B, C, e, eA, h, r⟩, a, ha => by
    subst eA
    rcases List.mem_append.mp ha with ha | ha
    · exact Ow.own h a ha
    · exact OwL.own r a ha
end
theorem Vw.own {G : Gx} {F : Fz} {H : Hp} {o : O} {v : V} {A : List Addr} (h : Vw G F H o v A) : ∀ a ∈ A, F.F a = none ∧ ∃ vs, H a = some (.lst vs) := by
  match o, h with
  | .bo d, ⟨e, _⟩ => intro a ha; subst e; exact absurd ha (by simp)
  | .im d, h => exact Ow.own (o := .im d) h
  | .ls d, h => exact Ow.own (o := .ls d) h
  | .tp d, h => exact Ow.own (o := .tp d) h
theorem TmL.own {G : Gx} {F : Fz} {H : Hp} : ∀ {os : List O} {vs : List V} {A : List Addr}, TmL G F H os vs A → ∀ a ∈ A, F.F a = none ∧ ∃ vs, H a = some (.lst vs)
  | [], _, _, ⟨_, e⟩, a, ha => by subst e; exact absurd ha (by simp)
  | o :: os, _, _, ⟨v, vr, B, C, e, eA, h, r⟩, a, ha => by
    subst eA
    rcases List.mem_append.mp ha with ha | ha
    · exact h.own a ha
    · exact r.own a ha
theorem SlL.own {G : Gx} {F H : Hp} : ∀ {S : List (Option O)} {σ : St} {A : List Addr}, SlL G F H S σ A → ∀ a ∈ A, F a = none ∧ ∃ vs, H a = some (.lst vs)
  | [], _, _, ⟨_, e⟩, a, ha => by subst e; exact absurd ha (by simp)
  | none :: S, _, _, ⟨x, τ, e, r⟩, a, ha => r.own a ha
  | some o :: S, _, _, ⟨v, vr, B, C, e, eA, h, r⟩, a, ha => by
    subst eA
    rcases List.mem_append.mp ha with ha | ha
    · exact Ow.own h a ha
    · exact r.own a ha
/-- not borrowed -/
def O.nb : O → Bool
  | .bo _ => false
  | _ => true
theorem Vw.monoK {G : Gx} {F F' : Fz} {H H' : Hp} (f : Same F.F F'.F) (g : Same F.B F'.B) (k : Keep H H') {o : O} {v : V} {A : List Addr} (s : At A F.F H F'.F H') (h : Vw G F H o v A) : Vw G F' H' o v A := by
  match o, h with
  | .bo d, ⟨e, h⟩ => exact ⟨e, h.mono g k⟩
  | .im d, h => exact Ow.mono f k (.im d) v A s h
  | .ls d, h => exact Ow.mono f k (.ls d) v A s h
  | .tp d, h => exact Ow.mono f k (.tp d) v A s h
theorem Vw.ow {G : Gx} {F : Fz} {H : Hp} {o : O} {v : V} {A : List Addr} (nb : o.nb = true) (h : Vw G F H o v A) : Ow G F.F H o v A := by
  match o, h with
  | .bo d, ⟨e, h⟩ => cases nb
  | .im d, h => exact h
  | .ls d, h => exact h
  | .tp d, h => exact h
theorem Ow.vw {G : Gx} {F : Fz} {H : Hp} {o : O} {v : V} {A : List Addr} (h : Ow G F.F H o v A) : Vw G F H o v A := by
  match o, h with
  | .im d, h => exact h
  | .ls d, h => exact h
  | .tp d, h => exact h
theorem TmL.monoK {G : Gx} {F F' : Fz} {H H' : Hp} (f : Same F.F F'.F) (g : Same F.B F'.B) (k : Keep H H') : ∀ {os : List O} {vs : List V} {A : List Addr}, At A F.F H F'.F H' → TmL G F H os vs A → TmL G F' H' os vs A
  | [], _, _, _, h => h
  | o :: os, _, _, s, ⟨v, vr, B, C, e, eA, h, r⟩ => by
    subst eA
    exact ⟨v, vr, B, C, e, rfl, h.monoK f g k (fun b hb => s b (List.mem_append_left _ hb)), r.monoK f g k (fun b hb => s b (List.mem_append_right _ hb))⟩
theorem SlL.mono {G : Gx} {F F' H H' : Hp} (f : Same F F') (k : Keep H H') : ∀ {S : List (Option O)} {σ : St} {A : List Addr}, At A F H F' H' → SlL G F H S σ A → SlL G F' H' S σ A
  | [], _, _, _, h => h
  | none :: S, _, _, s, ⟨x, τ, e, r⟩ => ⟨x, τ, e, r.mono f k s⟩
  | some o :: S, _, _, s, ⟨v, vr, B, C, e, eA, h, r⟩ => by
    subst eA
    exact ⟨v, vr, B, C, e, rfl, Ow.mono f k o v B (fun b hb => s b (List.mem_append_left _ hb)) h, r.mono f k (fun b hb => s b (List.mem_append_right _ hb))⟩
theorem SlL.len {G : Gx} {F H : Hp} : ∀ {S : List (Option O)} {σ : St} {A : List Addr}, SlL G F H S σ A → S.length = σ.length
  | [], _, _, ⟨e, _⟩ => by subst e; rfl
  | none :: S, _, _, ⟨x, τ, e, r⟩ => by subst e; simp [r.len]
  | some o :: S, _, _, ⟨v, vr, B, C, e, eA, h, r⟩ => by subst e; simp [r.len]

/-- the state of a frame: temporaries, slots -/
structure Sv (c : Cc) (F : Fz) (H : Hp) (Ts : List O) (ts : List V) (S : List (Option O)) (σ : St) : Prop where
  ext : Same c.F0 F.F
  fb : Same F.F F.B
  bh : Same F.B H
  old : Same c.H0 H
  dom : ∀ a, c.H0 a ≠ none → F.F a = c.F0 a
  own : ∃ A C, TmL c.G F H Ts ts A ∧ SlL c.G F.F H S σ C ∧ (A ++ C).Nodup ∧ (∀ a ∈ A ++ C, c.H0 a = none) ∧ (∀ a ∈ A, F.B a = none) ∧ ∀ a ∈ C, F.B a = H a

section
variable {c : Cc} {F F' : Fz} {H H' : Hp} {Ts : List O} {ts : List V} {S : List (Option O)} {σ : St}
theorem Sv.sub (s : Sv c F H Ts ts S σ) : Same F.F H := s.fb.trans s.bh
/-- F' beside B -/
def joinB (F' B : Hp) : Hp := fun b => match F' b with
  | some o => some o
  | none => B b
/-- the heap grows -/
theorem Sv.grow (s : Sv c F H Ts ts S σ) {F' : Hp} (f : Same F.F F') (k : Same H H') (b : Same F' H') (d : ∀ a, H a ≠ none → F' a = F.F a) : Sv c ⟨F', joinB F' F.B⟩ H' Ts ts S σ := by
  obtain ⟨A, C, hA, hC, nd, no, nA, nC⟩ := s.own
  have st : ∀ a, (F.F a = none ∧ ∃ vs, H a = some (.lst vs)) → F' a = none ∧ H' a = H a := fun a ⟨h1, vs, h2⟩ => ⟨(d a (by rw [h2]; simp)).trans h1, (k a _ h2).trans h2.symm⟩
  have g : Same F.B (joinB F' F.B) := fun a o e => by
    unfold joinB
    have hH := s.bh a o e
    rw [d a (by rw [hH]; simp)]
    cases q : F.F a with
    | none => exact e
    | some o' => have := s.fb a o' q; rw [e] at this; exact this.symm
  refine ⟨fun a o e => f a o (s.ext a o e), fun a o e => ?_, fun a o e => ?_, fun a o e => k a o (s.old a o e), fun a ha => ?_, A, C, hA.monoK f g (.of k) (fun a ha => st a (hA.own a ha)), hC.mono f (.of k) (fun a ha => st a (hC.own a ha)), nd, no, fun a ha => ?_, fun a ha => ?_⟩
  · show joinB F' F.B a = some o
    unfold joinB; rw [show F' a = some o from e]
  · have e' : joinB F' F.B a = some o := e
    unfold joinB at e'
    split at e'
    · rename_i o' q; cases e'; exact b a _ q
    · exact k a o (s.bh a o e')
  · refine (d a ?_).trans (s.dom a ha)
    cases q : c.H0 a with
    | none => exact absurd q ha
    | some o => rw [s.old a o q]; simp
  · show joinB F' F.B a = none
    unfold joinB; rw [(st a (hA.own a ha)).1]; exact nA a ha
  · show joinB F' F.B a = H' a
    unfold joinB; rw [(st a (hC.own a ha)).1, (st a (hC.own a ha)).2]; exact nC a ha
theorem Sv.free (s : Sv c F H Ts ts S σ) {p : Addr} (n : H p = none) : F.F p = none ∧ F.B p = none ∧ c.H0 p = none := ⟨s.sub.free n, s.bh.free n, s.old.free n⟩
theorem upd_same_of {p : Addr} {o : HO} (n : H p = none) : Same H (upd H p o) := fun b u e => by rw [upd_ne (ne_of_none e n)]; exact e
theorem at_upd {F : Hp} {A : List Addr} (hA : ∀ a ∈ A, F a = none ∧ ∃ vs, H a = some (.lst vs)) {p : Addr} {o : HO} (n : H p = none) : At A F H F (upd H p o) := fun a ha =>
  ⟨(hA a ha).1, upd_ne (ne_of_none (hA a ha).2.choose_spec n)⟩
theorem Sv.alloc (s : Sv c F H Ts ts S σ) {p : Addr} {o : HO} (n : H p = none) : Sv c F (upd H p o) Ts ts S σ := by
  obtain ⟨A, C, hA, hC, nd, no, nA, nC⟩ := s.own
  have g := upd_same_of (o := o) n
  refine ⟨s.ext, s.fb, s.bh.trans g, s.old.trans g, s.dom, A, C, hA.monoK (Same.refl _) (Same.refl _) (.of g) (at_upd hA.own n), hC.mono (Same.refl _) (.of g) (at_upd hC.own n), nd, no, nA, fun a ha => ?_⟩
  rw [nC a ha, (at_upd hC.own n a ha).2]
theorem not_own {F : Hp} {A : List Addr} {p : Addr} (hA : ∀ a ∈ A, F a = none ∧ ∃ vs, H a = some (.lst vs)) (n : H p = none) : p ∉ A := fun h => by
  obtain ⟨_, vs, e⟩ := hA p h
  rw [n] at e; cases e
/-- a value that owns nothing is pushed -/
theorem Sv.push (s : Sv c F H Ts ts S σ) {o : O} {v : V} (h : Vw c.G F H o v []) : Sv c F H (o :: Ts) (v :: ts) S σ := by
  obtain ⟨A, C, hA, hC, nd, no, nA, nC⟩ := s.own
  exact ⟨s.ext, s.fb, s.bh, s.old, s.dom, A, C, ⟨v, ts, [], A, rfl, rfl, h, hA⟩, hC, nd, no, nA, nC⟩
theorem Sv.pushIm (s : Sv c F H Ts ts S σ) {d : D} {v : V} (h : Re c.G F.F H d v) : Sv c F H (.im d :: Ts) (v :: ts) S σ := s.push (o := .im d) ⟨rfl, h⟩
theorem Sv.pushBo (s : Sv c F H Ts ts S σ) {d : D} {v : V} (h : Re c.G F.B H d v) : Sv c F H (.bo d :: Ts) (v :: ts) S σ := s.push (o := .bo d) ⟨rfl, h⟩
theorem Sv.pop {o : O} {v : V} (s : Sv c F H (o :: Ts) (v :: ts) S σ) : Sv c F H Ts ts S σ := by
  obtain ⟨A, C, ⟨v', vr, A1, A2, e, eA, h, r⟩, hC, nd, no, nA, nC⟩ := s.own
  cases e
  subst eA
  rw [List.append_assoc] at nd no
  exact ⟨s.ext, s.fb, s.bh, s.old, s.dom, A2, C, r, hC, (List.nodup_append.mp nd).2.1, fun a ha => no a (List.mem_append_right _ ha), fun a ha => nA a (List.mem_append_right _ ha), nC⟩
theorem Sv.top {o : O} {v : V} (s : Sv c F H (o :: Ts) (v :: ts) S σ) : ∃ A, Vw c.G F H o v A := by
  obtain ⟨A, C, ⟨v', vr, A1, A2, e, eA, h, r⟩, _⟩ := s.own
  cases e
  exact ⟨A1, h⟩
theorem Sv.topIm {d : D} {v : V} (s : Sv c F H (.im d :: Ts) (v :: ts) S σ) : Re c.G F.F H d v := by
  obtain ⟨A, h⟩ := s.top
  exact (show _ ∧ _ from h).2
theorem Sv.topBo {d : D} {v : V} (s : Sv c F H (.bo d :: Ts) (v :: ts) S σ) : Re c.G F.B H d v := by
  obtain ⟨A, h⟩ := s.top
  exact (show _ ∧ _ from h).2
theorem TmL.len {G : Gx} {F : Fz} {H : Hp} : ∀ {os : List O} {vs : List V} {A : List Addr}, TmL G F H os vs A → os.length = vs.length
  | [], _, _, ⟨e, _⟩ => by subst e; rfl
  | _ :: _, _, _, ⟨_, _, _, _, e, _, _, r⟩ => by subst e; simp [r.len]
theorem Sv.tlen (s : Sv c F H Ts ts S σ) : Ts.length = ts.length := by
  obtain ⟨A, B, hA, _⟩ := s.own
  exact hA.len
theorem Sv.len (s : Sv c F H Ts ts S σ) : S.length = σ.length := by
  obtain ⟨A, B, _, hB, _⟩ := s.own
  exact hB.len
end

/-! ### what a value is, whoever owns it -/
mutual
def O.er : O → D
  | .im d => d
  | .bo d => d
  | .ls os => .lst (O.erL os)
  | .tp os => .tup (O.erL os)
def O.erL : List O → List D
  | [] => []
  | o :: os => O.er o :: O.erL os
end
theorem O.erL_length : ∀ os : List O, (O.erL os).length = os.length
  | [] => rfl
  | _ :: os => by simp [O.erL, O.erL_length os]
theorem O.erL_map : ∀ os : List O, O.erL os = os.map O.er
  | [] => rfl
  | _ :: os => by simp [O.erL, O.erL_map os]
/-! ### freezing -/
/-- F with the lists of H at A -/
def frz (F H : Hp) (A : List Addr) : Hp := fun b => if b ∈ A then H b else F b
theorem frz_same {F H : Hp} {A : List Addr} (hA : ∀ a ∈ A, F a = none) : Same F (frz F H A) := fun b o e => by
  unfold frz
  split
  · rename_i h
    rw [hA b h] at e; cases e
  · exact e
theorem frz_sub {F H : Hp} {A : List Addr} (b : Same F H) : Same (frz F H A) H := fun c o e => by
  unfold frz at e
  split at e
  · exact e
  · exact b c o e
theorem frz_in {F H : Hp} {A : List Addr} {a : Addr} (ha : a ∈ A) : frz F H A a = H a := if_pos ha
theorem frz_out {F H : Hp} {A : List Addr} {a : Addr} (ha : a ∉ A) : frz F H A a = F a := if_neg ha
theorem frz_mono {F B H : Hp} {A : List Addr} (b : Same F B) : Same (frz F H A) (frz B H A) := fun c o e => by
  unfold frz at *
  split
  · rename_i h; rw [if_pos h] at e; exact e
  · rename_i h; rw [if_neg h] at e; exact b c o e
mutual
/-- wherever the lists of o stand in F' as in H -/
theorem Ow.frz {G : Gx} {F H F' : Hp} (f : Same F F') : ∀ (o : O) (v : V) (A : List Addr), (∀ a ∈ A, F' a = H a) → Ow G F H o v A → Re G F' H o.er v
  | .im d, v, A, _, ⟨e, h⟩ => h.mono f (.refl _)
  | .bo _, _, _, _, h => h.elim
  | .ls os, v, A, s, ⟨a, vs, B, e, eA, n, q, z, r⟩ => by
    subst eA
    exact ⟨a, vs, e, (s a List.mem_cons_self).trans q, by rw [O.erL_length]; exact z, OwL.frz f os vs B (fun b hb => s b (List.mem_cons_of_mem _ hb)) r⟩
  | .tp os, v, A, s, ⟨a, vs, e, q, z, r⟩ => ⟨a, vs, e, q, by rw [O.erL_length]; exact z, OwL.frz f os vs A s r⟩
theorem OwL.frz {G : Gx} {F H F' : Hp} (f : Same F F') : ∀ (os : List O) (vs : List V) (A : List Addr), (∀ a ∈ A, F' a = H a) → OwL G F H os vs A → ReL G F' H (O.erL os) vs
  | [], _, _, _, ⟨e, _⟩ => e
  | o :: os, _, _, s, ⟨v, vr, B, C, e, eA, h, r⟩ => by
    subst eA
    exact ⟨v, vr, e, Ow.frz f o v B (fun b hb => s b (List.mem_append_left _ hb)) h, OwL.frz f os vr C (fun b hb => s b (List.mem_append_right _ hb)) r⟩
end
/-- .. of a temporary -/
theorem Vw.frz {G : Gx} {F : Fz} {H F' : Hp} (f : Same F.B F') (fb : Same F.F F.B) {o : O} {v : V} {A : List Addr} (s : ∀ a ∈ A, F' a = H a) (h : Vw G F H o v A) : Re G F' H o.er v := by
  match o, h with
  | .bo d, ⟨e, h⟩ => exact h.mono f (.refl _)
  | .im d, h => exact Ow.frz (fb.trans f) (.im d) v A s h
  | .ls d, h => exact Ow.frz (fb.trans f) (.ls d) v A s h
  | .tp d, h => exact Ow.frz (fb.trans f) (.tp d) v A s h
theorem TmL.frz {G : Gx} {F : Fz} {H F' : Hp} (f : Same F.B F') (fb : Same F.F F.B) : ∀ {os : List O} {vs : List V} {A : List Addr}, (∀ a ∈ A, F' a = H a) → TmL G F H os vs A → ReL G F' H (O.erL os) vs
  | [], _, _, _, ⟨e, _⟩ => e
  | o :: os, _, _, s, ⟨v, vr, B, C, e, eA, h, r⟩ => by
    subst eA
    exact ⟨v, vr, e, h.frz f fb (fun b hb => s b (List.mem_append_left _ hb)), r.frz f fb (fun b hb => s b (List.mem_append_right _ hb))⟩
theorem Sv.topEr {c : Cc} {F : Fz} {H : Hp} {Ts : List O} {ts : List V} {S : List (Option O)} {σ : St} {o : O} {v : V} (s : Sv c F H (o :: Ts) (v :: ts) S σ) : Re c.G H H o.er v := by
  obtain ⟨A, h⟩ := s.top
  exact h.frz s.bh s.fb (fun a _ => rfl)
/-- the temporary on top is frozen -/
theorem Sv.freeze {c : Cc} {F : Fz} {H : Hp} {Ts : List O} {ts : List V} {S : List (Option O)} {σ : St} {o : O} {v : V} (s : Sv c F H (o :: Ts) (v :: ts) S σ) (nb : o.nb = true) :
    ∃ F' : Fz, Same F.F F'.F ∧ Same F.B F'.B ∧ Sv c F' H (.im o.er :: Ts) (v :: ts) S σ := by
  obtain ⟨A, C, ⟨v', vr, A1, A2, e, eA, h, r⟩, hC, nd, no, nA, nC⟩ := s.own
  cases e
  subst eA
  have hf := h.own
  have f := frz_same (F := F.F) (H := H) (A := A1) fun a ha => (hf a ha).1
  have g := frz_same (F := F.B) (H := H) (A := A1) fun a ha => nA a (List.mem_append_left _ ha)
  rw [List.append_assoc] at nd no
  have out : ∀ a ∈ A2 ++ C, a ∉ A1 := fun a ha h1 => (List.nodup_append.mp nd).2.2 a h1 a ha rfl
  refine ⟨⟨PL.frz F.F H A1, PL.frz F.B H A1⟩, f, g, fun a o e => f a o (s.ext a o e), frz_mono s.fb, frz_sub s.bh, s.old, fun a ha => ?_, A2, C, ⟨v, ts, [], A2, rfl, rfl, ⟨rfl, (h.ow nb).frz f o v A1 (fun a ha => frz_in ha)⟩, ?_⟩, ?_, (List.nodup_append.mp nd).2.1, fun a ha => no a (List.mem_append_right _ ha), fun a ha => ?_, fun a ha => ?_⟩
  · refine (frz_out fun h1 => ?_).trans (s.dom a ha)
    exact ha (no a (List.mem_append_left _ h1))
  · refine r.monoK f g (.refl _) fun a ha => ⟨?_, rfl⟩
    exact (frz_out (out a (List.mem_append_left _ ha))).trans (r.own a ha).1
  · refine hC.mono f (.refl _) fun a ha => ⟨?_, rfl⟩
    exact (frz_out (out a (List.mem_append_right _ ha))).trans (hC.own a ha).1
  · exact (frz_out (out a (List.mem_append_left _ ha))).trans (nA a (List.mem_append_right _ ha))
  · exact (frz_out (out a (List.mem_append_right _ ha))).trans (nC a ha)
end PL

/-! P2 -/
set_option Elab.async false
set_option linter.all false
set_option maxRecDepth 100000
set_option maxHeartbeats 4000000
/-! P2: readings without a heap: expressions. -/
namespace PL
open PySem PySem.Spec L2

/-- an exception that lies at hand: its class, its own dict -/
def ExAt (G : Gx) (H : Hp) (cls : Value) (d : Option Addr) (e : Ex) : Prop :=
  cls = .ref (G.xs e.n) ∧ RankAt H d e

/-- a wish: what holds of a value and what of an exception -/
structure W1 (α : Type) where
  run : List (Option O) → (α → Prop) → (Ex → Prop) → Prop
  mono : ∀ {S : List (Option O)} {Q Q' : α → Prop} {E E' : Ex → Prop}, (∀ a, Q a → Q' a) → (∀ e, E e → E' e) → run S Q E → run S Q' E'
def W1.pure {α : Type} (a : α) : W1 α := ⟨fun _ Q _ => Q a, fun hq _ h => hq _ h⟩
def W1.bind {α β : Type} (p : W1 α) (f : α → W1 β) : W1 β := ⟨fun S Q E => p.run S (fun a => (f a).run S Q E) E, fun hq he h => p.mono (fun a => (f a).mono hq he) he h⟩

section
variable (c : Cc) (W : WX)
def exK (Ts : List O) (ts : List V) (S : List (Option O)) (σ : L2.St) : Ex → Prop := fun e => ∀ cls d F' H', Sv c F' H' Ts ts S σ → ExAt c.G H' cls d e → W cls d σ H'
def lift (p : W1 O) : TE := fun σ H Q => ∃ F S Ts ts, Sv c F H Ts ts S σ ∧ p.run S (fun o => ∀ F' H' v, Sv c F' H' (o :: Ts) (v :: ts) S σ → Q v H') (exK c W Ts ts S σ)
def liftT (p : W1 Bool) : TT := fun σ H Q => ∃ F S Ts ts, Sv c F H Ts ts S σ ∧ p.run S (fun b => ∀ F' H', Sv c F' H' Ts ts S σ → Q b H') (exK c W Ts ts S σ)
def liftA (p : W1 (List O)) : TA := fun σ H Q => ∃ F S Ts ts, Sv c F H Ts ts S σ ∧ p.run S (fun os => ∀ F' H' vs, Sv c F' H' (os ++ Ts) (vs ++ ts) S σ → os.length = vs.length → Q vs H') (exK c W Ts ts S σ)
end
theorem PE.imp {X : Cx} {e : Expr} {t t' : TE} (h : PE X e t) (i : ∀ σ H Q, t' σ H Q → t σ H Q) : PE X e t' := ⟨fun pins s σ H Q I q => h.run pins s σ H Q I (i σ H Q q)⟩
theorem PT.imp {X : Cx} {e : Expr} {t t' : TT} (h : PT X e t) (i : ∀ σ H Q, t' σ H Q → t σ H Q) : PT X e t' := ⟨fun pins s σ H Q I q => h.run pins s σ H Q I (i σ H Q q)⟩
theorem PW.imp {X : Cx} {e : Expr} {t t' : TT} (h : PW X e t) (i : ∀ σ H Q, t' σ H Q → t σ H Q) : PW X e t' := ⟨fun wh pins s σ H Q I q => h.run wh pins s σ H Q I (i σ H Q q)⟩
theorem PA.imp {X : Cx} {e : List Expr} {t t' : TA} (h : PA X e t) (i : ∀ σ H Q, t' σ H Q → t σ H Q) : PA X e t' := ⟨fun p pins s σ H Q I q => h.run p pins s σ H Q I (i σ H Q q)⟩
theorem PS.imp {X : Cx} {e : Stmt} {t t' : TS} (h : PS X e t) (i : ∀ D σ H, t' D σ H → t D σ H) : PS X e t' := ⟨fun pins s σ H D I q => h.run pins s σ H D I (i D σ H q)⟩
theorem PSs.imp {X : Cx} {e : List Stmt} {t t' : TS} (h : PSs X e t) (i : ∀ D σ H, t' D σ H → t D σ H) : PSs X e t' := ⟨fun pins s σ H D I q => h.run pins s σ H D I (i D σ H q)⟩
theorem PI.imp {X : Cx} {tg e : Expr} {t t' : TI} (h : PI X tg e t) (i : ∀ σ H Q, t' σ H Q → t σ H Q) : PI X tg e t' := ⟨fun pins s σ H Q I q => h.run pins s σ H Q I (i σ H Q q)⟩
theorem exK.pop {c : Cc} {W : WX} {Ts : List O} {ts : List V} {S : List (Option O)} {σ : L2.St} {o : O} {v : V} (e : Ex) (h : exK c W Ts ts S σ e) : exK c W (o :: Ts) (v :: ts) S σ e :=
  fun cls d F' H' s x => h cls d F' H' s.pop x

section
variable {X : Cx} {c : Cc} {W : WX} {a b e : Expr} {pa pb p : W1 O} {pos : Pos}
abbrev SE (X : Cx) (c : Cc) (W : WX) (e : Expr) (p : W1 O) : Prop := PE X e (lift c W p)
abbrev ST (X : Cx) (c : Cc) (W : WX) (e : Expr) (p : W1 Bool) : Prop := PT X e (liftT c W p)
abbrev SW (X : Cx) (c : Cc) (W : WX) (e : Expr) (p : W1 Bool) : Prop := PW X e (liftT c W p)
abbrev SA (X : Cx) (c : Cc) (W : WX) (e : List Expr) (p : W1 (List O)) : Prop := PA X e (liftA c W p)

/-! ### constants, names -/
abbrev O.i (n : Int) : O := .im (.int n)
abbrev O.t (n : Bool) : O := .im (.bl n)
abbrev O.s (n : Str) : O := .im (.str n)
abbrev O.n : O := .im .non
def wC (d : D) : W1 O := .pure (.im d)
theorem se_C {e : Expr} {v : V} {d : D} (h : PE X e (tC v)) (r : ∀ G F H, Re G F H d v) : SE X c W e (wC d) :=
  PE.imp h fun σ H Q ⟨F, S, Ts, ts, s, q⟩ => q F H v (s.pushIm (r _ _ _))
theorem se_int {i j pos} : SE X c W (.Constant (.int i) j pos) (wC (.int i)) := se_C pe_int fun _ _ _ => rfl
theorem se_bl {i j pos} : SE X c W (.Constant (.bool i) j pos) (wC (.bl i)) := se_C pe_bl fun _ _ _ => rfl
theorem se_non {j pos} : SE X c W (.Constant .none j pos) (wC .non) := se_C pe_non fun _ _ _ => rfl
theorem se_str {i j pos} : SE X c W (.Constant (.str i) j pos) (wC (.str i)) := se_C pe_str fun _ _ _ => rfl
/-- what a slot holds, to be read: a frozen one as it is, else borrowed -/
def O.vw : O → O
  | .im d => .im d
  | o => .bo o.er
def wV (i : Nat) : W1 O := ⟨fun S Q _ => ∃ o, S[i]? = some (some o) ∧ Q o.vw, fun hq _ ⟨o, e, q⟩ => ⟨o, e, hq _ q⟩⟩
theorem SlL.get {G : Gx} {F H : Hp} : ∀ {S : List (Option O)} {σ : L2.St} {A : List Addr} {i : Nat} {o : O}, SlL G F H S σ A → S[i]? = some (some o) → ∃ v B, σ[i]? = some (some v) ∧ Ow G F H o v B ∧ ∀ a ∈ B, a ∈ A
  | [], _, _, i, o, _, q => by simp at q
  | none :: S, _, _, 0, o, _, q => by simp at q
  | none :: S, _, _, i + 1, o, ⟨x, τ, e, r⟩, q => by subst e; simpa using r.get (i := i) (by simpa using q)
  | some u :: S, _, _, 0, o, ⟨v, vr, B, C, e, eA, h, r⟩, q => by subst e eA; simp at q; subst q; exact ⟨v, B, rfl, h, fun a ha => List.mem_append_left _ ha⟩
  | some u :: S, _, _, i + 1, o, ⟨v, vr, B, C, e, eA, h, r⟩, q => by
    subst e eA
    obtain ⟨v', B', e', h', m'⟩ := r.get (i := i) (by simpa using q)
    exact ⟨v', B', by simpa using e', h', fun a ha => List.mem_append_right _ (m' a ha)⟩
theorem Sv.view {c : Cc} {F : Fz} {H : Hp} {Ts : List O} {ts : List V} {S : List (Option O)} {σ : L2.St} (s : Sv c F H Ts ts S σ) {i : Nat} {o : O} (e : S[i]? = some (some o)) : ∃ v, σ[i]? = some (some v) ∧ Vw c.G F H o.vw v [] := by
  obtain ⟨A, C, hA, hC, nd, no, nA, nC⟩ := s.own
  obtain ⟨v, B, ev, h, m⟩ := hC.get e
  have k : ∀ a ∈ B, F.B a = H a := fun a ha => nC a (m a ha)
  refine ⟨v, ev, ?_⟩
  match o, h with
  | .im d, ⟨e, h⟩ => exact ⟨rfl, h⟩
  | .ls os, h => exact ⟨rfl, Ow.frz s.fb _ _ _ k h⟩
  | .tp os, h => exact ⟨rfl, Ow.frz s.fb _ _ _ k h⟩
theorem se_V (i : Nat) {x : Str} {pos : Pos} (hN : X.N[i]? = some x := by rfl) (hv : Vis X.env.scope x := by first | exact Or.inl rfl | exact Or.inr (Or.inl rfl) | exact Or.inr (Or.inr rfl))
    (hd : (x == ("__debug__" : Str)) = false := by decide) (hcd : (x == ("__classdict__" : Str)) = false := by decide) : SE X c W (.Name x pos) (wV i) :=
  PE.imp (pe_var hN hv hd hcd) fun σ H Q ⟨F, S, Ts, ts, s, o, e, q⟩ => by
    obtain ⟨v, ev, h⟩ := s.view e
    exact ⟨v, ev, q F H v (s.push h)⟩

/-! ### one, two values -/
structure U1 where
  run : O → (O → Prop) → Prop
  mono : ∀ {a Q Q'}, (∀ o, Q o → Q' o) → run a Q → run a Q'
structure U2 where
  run : O → O → (O → Prop) → Prop
  mono : ∀ {a b Q Q'}, (∀ o, Q o → Q' o) → run a b Q → run a b Q'
def w1 (pa : W1 O) (u : U1) : W1 O := ⟨fun S Q E => pa.run S (fun a => u.run a Q) E, fun hq he h => pa.mono (fun _ => u.mono hq) he h⟩
def w2 (pa pb : W1 O) (u : U2) : W1 O := ⟨fun S Q E => pa.run S (fun a => pb.run S (fun b => u.run a b Q) E) E, fun hq he h => pa.mono (fun _ => pb.mono (fun _ => u.mono hq) he) he h⟩
def Fit1 (c : Cc) (r : V → Hp → VK → Prop) (u : U1) : Prop := ∀ F H Ts ts S σ a x (Q : VK), Sv c F H (a :: Ts) (x :: ts) S σ →
  u.run a (fun o => ∀ F' H' v, Sv c F' H' (o :: Ts) (v :: ts) S σ → Q v H') → r x H Q
def Fit2 (c : Cc) (r : R2) (u : U2) : Prop := ∀ F H Ts ts S σ a b x y (Q : VK), Sv c F H (b :: a :: Ts) (y :: x :: ts) S σ →
  u.run a b (fun o => ∀ F' H' v, Sv c F' H' (o :: Ts) (v :: ts) S σ → Q v H') → r x y H Q
theorem lift_1 {r : V → Hp → VK → Prop} {u : U1} (f : Fit1 c r u) (σ : L2.St) (H : Hp) (Q : VK) (h : lift c W (w1 pa u) σ H Q) : lift c W pa σ H fun x H1 => r x H1 Q := by
  obtain ⟨F, S, Ts, ts, s, q⟩ := h
  exact ⟨F, S, Ts, ts, s, pa.mono (fun o ho F1 H1 v s1 => f _ _ _ _ _ _ _ _ _ s1 ho) (fun _ z => z) q⟩
theorem lift_2 {r : R2} {u : U2} (f : Fit2 c r u) (σ : L2.St) (H : Hp) (Q : VK) (h : lift c W (w2 pa pb u) σ H Q) : tOp r (lift c W pa) (lift c W pb) σ H Q := by
  obtain ⟨F, S, Ts, ts, s, q⟩ := h
  refine ⟨F, S, Ts, ts, s, pa.mono (fun o ho F1 H1 v s1 => ?_) (fun _ z => z) q⟩
  exact ⟨F1, S, _, _, s1, pb.mono (fun o2 ho2 F2 H2 v2 s2 => f _ _ _ _ _ _ _ _ _ _ _ s2 ho2) (fun e z => exK.pop e z) ho⟩
theorem se_op {op : Operator} {r : R2} {u : U2} (ho : OpR X (binaryOp op) r) (f : Fit2 c r u) (ha : SE X c W a pa) (hb : SE X c W b pb) : SE X c W (.BinOp a op b pos) (w2 pa pb u) :=
  PE.imp (pe_op ho ha hb) (lift_2 f)
theorem se_un {op : UnaryOp} {r : V → Hp → VK → Prop} {u : U1} (ho : UnR X (unaryOp op) r) (f : Fit1 c r u) (ha : SE X c W a pa) : SE X c W (.UnaryOp op a pos) (w1 pa u) :=
  PE.imp (pe_un ho ha) (lift_1 f)
theorem se_cmp {op : CmpOp} {r : R2} {u : U2} (ho : OpR X (compareOp op) r) (f : Fit2 c r u) (ha : SE X c W a pa) (hb : SE X c W b pb) (hm : behindInMarks op b = false) : SE X c W (.Compare a [op] [b] pos) (w2 pa pb u) :=
  PE.imp (pe_cmpR ho ha hb hm) (lift_2 f)
theorem se_ix {r : R2} {u : U2} (hr : IxR X r) (f : Fit2 c r u) (ha : SE X c W a pa) (hb : SE X c W b pb) (hs : PlainIx b) : SE X c W (.Subscript a b pos) (w2 pa pb u) :=
  PE.imp (pe_ix hr ha hb hs) (lift_2 f)

/-! ### ints -/
theorem Sv.int {c : Cc} {F : Fz} {H : Hp} {Ts : List O} {ts : List V} {S : List (Option O)} {σ : L2.St} {n : Int} {v : V} (s : Sv c F H (O.i n :: Ts) (v :: ts) S σ) : v = .int n := s.topIm
def uI (C : Int → Int → Prop) (g : Int → Int → Int) : U2 := ⟨fun a b Q => ∃ i j, a = O.i i ∧ b = O.i j ∧ C i j ∧ Q (O.i (g i j)), fun hq ⟨i, j, e1, e2, h, q⟩ => ⟨i, j, e1, e2, h, hq _ q⟩⟩
def uIB (g : Int → Int → Bool) : U2 := ⟨fun a b Q => ∃ i j, a = O.i i ∧ b = O.i j ∧ Q (O.t (g i j)), fun hq ⟨i, j, e1, e2, q⟩ => ⟨i, j, e1, e2, hq _ q⟩⟩
theorem fit_I {C : Int → Int → Prop} {g : Int → Int → Int} : Fit2 c (rI C fun i j => .int (g i j)) (uI C g) := fun F H Ts ts S σ a b x y Q s ⟨i, j, ea, eb, h, q⟩ => by
  subst ea eb
  exact ⟨i, j, s.pop.int, s.int, h, q F H _ (s.pop.pop.pushIm rfl)⟩
theorem fit_I0 {g : Int → Int → Int} : Fit2 c (rI0 fun i j => .int (g i j)) (uI (fun _ _ => True) g) := fun F H Ts ts S σ a b x y Q s ⟨i, j, ea, eb, h, q⟩ => by
  subst ea eb
  exact ⟨i, j, s.pop.int, s.int, q F H _ (s.pop.pop.pushIm rfl)⟩
theorem fit_IB {g : Int → Int → Bool} : Fit2 c (rI0 fun i j => .bl (g i j)) (uIB g) := fun F H Ts ts S σ a b x y Q s ⟨i, j, ea, eb, q⟩ => by
  subst ea eb
  exact ⟨i, j, s.pop.int, s.int, q F H _ (s.pop.pop.pushIm rfl)⟩
def uIU (g : Int → Int) : U1 := ⟨fun a Q => ∃ i, a = O.i i ∧ Q (O.i (g i)), fun hq ⟨i, e1, q⟩ => ⟨i, e1, hq _ q⟩⟩
theorem fit_IU {g : Int → Int} : Fit1 c (rU fun i => .int (g i)) (uIU g) := fun F H Ts ts S σ a x Q s ⟨i, ea, q⟩ => by
  subst ea
  exact ⟨i, s.int, q F H _ (s.pop.pushIm rfl)⟩
abbrev uAdd : U2 := uI (fun _ _ => True) (· + ·)
abbrev uSub : U2 := uI (fun _ _ => True) (· - ·)

/-! ### comparisons of anything that is data -/
mutual
def D.py : D → Option PyData
  | .non => some .none
  | .bl b => some (.bool b)
  | .int i => some (.int i)
  | .str s => some (.str s)
  | .tup ds => (D.pyL ds).map .tuple
  | .lst ds => (D.pyL ds).map .list
  | _ => none
def D.pyL : List D → Option (List PyData)
  | [] => some []
  | d :: ds => match D.py d, D.pyL ds with
    | some x, some xs => some (x :: xs)
    | _, _ => none
end
mutual
theorem D.dp {K : PySem.W.Frag} {G : Gx} {F H : Hp} (b : Same F H) : ∀ (d : D) (v : V) (p : PyData), Re G F H d v → d.py = some p → Dp K H v p
  | .non, _, _, h, e => by cases e; cases h; exact .non
  | .bl b, _, _, h, e => by cases e; cases h; exact .bl b
  | .int b, _, _, h, e => by cases e; cases h; exact .int b
  | .str b, _, _, h, e => by cases e; cases h; exact .str b
  | .tup ds, _, _, ⟨a, vs, ev, q, z, r⟩, e => by
    obtain ⟨ps, e1, e2⟩ := Option.map_eq_some_iff.mp (show (D.pyL ds).map PyData.tuple = _ from e)
    subst e2 ev
    exact .tup (SqT.of q) (D.dpL b ds vs ps r e1)
  | .lst ds, _, _, ⟨a, vs, ev, q, z, r⟩, e => by
    obtain ⟨ps, e1, e2⟩ := Option.map_eq_some_iff.mp (show (D.pyL ds).map PyData.list = _ from e)
    subst e2 ev
    exact .lst (SqL.of (b _ _ q)) (D.dpL b ds vs ps r e1)
  | .kd _, _, _, _, e => by cases e
  | .scr _, _, _, _, e => by cases e
  | .obj _, _, _, _, e => by cases e
  | .exn _, _, _, _, e => by cases e
  | .dic, _, _, _, e => by cases e
  | .lsa _ _, _, _, _, e => by cases e
theorem D.dpL {K : PySem.W.Frag} {G : Gx} {F H : Hp} (b : Same F H) : ∀ (ds : List D) (vs : List V) (ps : List PyData), ReL G F H ds vs → D.pyL ds = some ps → DpAll K H vs ps
  | [], _, _, h, e => by cases e; cases h; exact .nil
  | d :: ds, _, _, ⟨v, vr, ev, h, r⟩, e => by
    subst ev
    unfold D.pyL at e
    split at e
    · rename_i x xs e1 e2
      cases e
      exact .cons (D.dp b d v x h e1) (D.dpL b ds vr xs r e2)
    · cases e
end
/-- a == b: ints, texts; or data -/
def uEqRun (neg : Bool) (a b : O) (Q : O → Prop) : Prop := match a, b with
  | .im (.int i), .im (.int j) => Q (O.t (neg ^^ decide (i = j)))
  | .im (.str i), .im (.str j) => Q (O.t (neg ^^ decide (i = j)))
  | a, b => ∃ p q, a.er.py = some p ∧ b.er.py = some q ∧ SeqAt.shaped p = true ∧ SeqAt.shaped q = true ∧ Q (O.t (neg ^^ PyData.eqv p q))
theorem uEqRun_cases {neg : Bool} {a b : O} {Q : O → Prop} (h : uEqRun neg a b Q) : (∃ i j, a = O.i i ∧ b = O.i j ∧ Q (O.t (neg ^^ decide (i = j)))) ∨ (∃ i j, a = O.s i ∧ b = O.s j ∧ Q (O.t (neg ^^ decide (i = j)))) ∨
    (∃ p q, a.er.py = some p ∧ b.er.py = some q ∧ SeqAt.shaped p = true ∧ SeqAt.shaped q = true ∧ Q (O.t (neg ^^ PyData.eqv p q))) := by
  unfold uEqRun at h
  split at h
  · exact .inl ⟨_, _, rfl, rfl, h⟩
  · exact .inr (.inl ⟨_, _, rfl, rfl, h⟩)
  · exact .inr (.inr h)
def uEq (neg : Bool) : U2 := ⟨uEqRun neg, fun {a b Q Q'} hq h => by
  unfold uEqRun at h ⊢
  split
  · exact hq _ h
  · exact hq _ h
  · rename_i h1 h2
    split at h
    · exact absurd rfl (h1 _ _ rfl)
    · exact absurd rfl (h2 _ _ rfl)
    · obtain ⟨p, q, e1, e2, e3, e4, z⟩ := h
      exact ⟨p, q, e1, e2, e3, e4, hq _ z⟩⟩
def rEqA (K : PySem.W.Frag) : R2 := fun x y H Q => rEq x y H Q ∨ rEqD K x y H Q
def rNeA (K : PySem.W.Frag) : R2 := fun x y H Q => rNe x y H Q ∨ rNeD K x y H Q
theorem op_eqA (hu : X.A.units + 64 < cLine) : OpR X (compareOp .Eq) (rEqA X.K) := op_eq.or (op_eqD hu)
theorem op_neA (hu : X.A.units + 64 < cLine) : OpR X (compareOp .NotEq) (rNeA X.K) := op_ne.or (op_neD hu)
theorem Sv.str {c : Cc} {F : Fz} {H : Hp} {Ts : List O} {ts : List V} {S : List (Option O)} {σ : L2.St} {n : Str} {v : V} (s : Sv c F H (O.s n :: Ts) (v :: ts) S σ) : v = .str n := s.topIm
theorem decV_int (i j : Int) : decide (V.int i = V.int j) = decide (i = j) := by simp
theorem decV_str (i j : Str) : decide (V.str i = V.str j) = decide (i = j) := by simp
theorem fit_eq {K : PySem.W.Frag} : Fit2 c (rEqA K) (uEq false) := fun F H Ts ts S σ a b x y Q s h => by
  rcases uEqRun_cases (show uEqRun false a b (fun o => ∀ F' H' v, Sv c F' H' (o :: Ts) (v :: ts) S σ → Q v H') from h) with ⟨i, j, ea, eb, q⟩ | ⟨i, j, ea, eb, q⟩ | ⟨i, j, ea, eb, e3, e4, q⟩
  · subst ea eb
    obtain rfl := s.pop.int
    obtain rfl := s.int
    refine .inl ⟨rfl, ?_⟩
    have q' := q F H _ (s.pop.pop.pushIm rfl)
    rw [decV_int]; simpa using q'
  · subst ea eb
    obtain rfl := s.pop.str
    obtain rfl := s.str
    refine .inl ⟨rfl, ?_⟩
    have q' := q F H _ (s.pop.pop.pushIm rfl)
    rw [decV_str]; simpa using q'
  · refine .inr ⟨i, j, D.dp (Same.refl _) _ _ _ s.pop.topEr ea, D.dp (Same.refl _) _ _ _ s.topEr eb, e3, e4, ?_⟩
    have q' := q F H _ (s.pop.pop.pushIm rfl)
    simpa using q'
theorem fit_ne {K : PySem.W.Frag} : Fit2 c (rNeA K) (uEq true) := fun F H Ts ts S σ a b x y Q s h => by
  rcases uEqRun_cases (show uEqRun true a b (fun o => ∀ F' H' v, Sv c F' H' (o :: Ts) (v :: ts) S σ → Q v H') from h) with ⟨i, j, ea, eb, q⟩ | ⟨i, j, ea, eb, q⟩ | ⟨i, j, ea, eb, e3, e4, q⟩
  · subst ea eb
    obtain rfl := s.pop.int
    obtain rfl := s.int
    refine .inl ⟨rfl, ?_⟩
    have q' := q F H _ (s.pop.pop.pushIm rfl)
    rw [decV_int]; simpa using q'
  · subst ea eb
    obtain rfl := s.pop.str
    obtain rfl := s.str
    refine .inl ⟨rfl, ?_⟩
    have q' := q F H _ (s.pop.pop.pushIm rfl)
    rw [decV_str]; simpa using q'
  · refine .inr ⟨i, j, D.dp (Same.refl _) _ _ _ s.pop.topEr ea, D.dp (Same.refl _) _ _ _ s.topEr eb, e3, e4, ?_⟩
    have q' := q F H _ (s.pop.pop.pushIm rfl)
    simpa using q'
theorem se_eq (hu : X.A.units + 64 < cLine) (ha : SE X c W a pa) (hb : SE X c W b pb) : SE X c W (.Compare a [.Eq] [b] pos) (w2 pa pb (uEq false)) := se_cmp (op_eqA hu) fit_eq ha hb (nomark _)
theorem se_ne (hu : X.A.units + 64 < cLine) (ha : SE X c W a pa) (hb : SE X c W b pb) : SE X c W (.Compare a [.NotEq] [b] pos) (w2 pa pb (uEq true)) := se_cmp (op_neA hu) fit_ne ha hb (nomark _)
theorem se_lt (ha : SE X c W a pa) (hb : SE X c W b pb) : SE X c W (.Compare a [.Lt] [b] pos) (w2 pa pb (uIB fun i j => decide (i < j))) := se_cmp op_lt fit_IB ha hb (nomark _)
theorem se_le (ha : SE X c W a pa) (hb : SE X c W b pb) : SE X c W (.Compare a [.LtE] [b] pos) (w2 pa pb (uIB fun i j => decide (i ≤ j))) := se_cmp op_le fit_IB ha hb (nomark _)
theorem se_gt (ha : SE X c W a pa) (hb : SE X c W b pb) : SE X c W (.Compare a [.Gt] [b] pos) (w2 pa pb (uIB fun i j => decide (j < i))) := se_cmp op_gt fit_IB ha hb (nomark _)
theorem se_ge (ha : SE X c W a pa) (hb : SE X c W b pb) : SE X c W (.Compare a [.GtE] [b] pos) (w2 pa pb (uIB fun i j => decide (j ≤ i))) := se_cmp op_ge fit_IB ha hb (nomark _)
theorem se_add (ha : SE X c W a pa) (hb : SE X c W b pb) : SE X c W (.BinOp a .Add b pos) (w2 pa pb uAdd) := se_op op_add fit_I0 ha hb
theorem se_sub (ha : SE X c W a pa) (hb : SE X c W b pb) : SE X c W (.BinOp a .Sub b pos) (w2 pa pb uSub) := se_op op_sub fit_I0 ha hb
theorem op_mulA : OpR X (binaryOp .Mult) (rI PySem.IntMulOk fun i j => .int (i * j)) := opI fun _ _ _ _ _ _ _ hc q => PyProof.Rows.mul_int q hc
theorem se_mul (ha : SE X c W a pa) (hb : SE X c W b pb) : SE X c W (.BinOp a .Mult b pos) (w2 pa pb (uI PySem.IntMulOk (· * ·))) := se_op op_mulA fit_I ha hb
theorem se_mod (ha : SE X c W a pa) (hb : SE X c W b pb) : SE X c W (.BinOp a .Mod b pos) (w2 pa pb (uI (fun _ j => j ≠ 0) Int.fmod)) := se_op op_modN fit_I ha hb
theorem se_pow (ha : SE X c W a pa) (hb : SE X c W b pb) : SE X c W (.BinOp a .Pow b pos) (w2 pa pb (uI CPow fun i j => i ^ j.toNat)) := se_op op_pow fit_I ha hb
theorem se_neg (ha : SE X c W a pa) : SE X c W (.UnaryOp .USub a pos) (w1 pa (uIU fun i => -i)) := se_un un_neg fit_IU ha
/-- // by what is not nought, below 9000 bits -/
theorem op_divA : OpR X (binaryOp .FloorDiv) (rI (fun _ j => j ≠ 0 ∧ j.natAbs.log2 < 9000) fun i j => .int (i.fdiv j)) := opI fun i j _ _ _ _ _ hc q =>
  PyProof.Rows.floordiv_int hc.1 q (.inl (PyProof.noPylong_of_log2 hc.2))
theorem se_div (ha : SE X c W a pa) (hb : SE X c W b pb) : SE X c W (.BinOp a .FloorDiv b pos) (w2 pa pb (uI (fun _ j => j ≠ 0 ∧ j.natAbs.log2 < 9000) Int.fdiv)) := se_op op_divA fit_I ha hb

/-! ### tests -/
def wT (p : W1 O) : W1 Bool := ⟨fun S Q E => p.run S (fun o => ∃ b, o = O.t b ∧ Q b) E, fun hq he h => p.mono (fun o ⟨b, e, q⟩ => ⟨b, e, hq _ q⟩) he h⟩
theorem Sv.bl {c : Cc} {F : Fz} {H : Hp} {Ts : List O} {ts : List V} {S : List (Option O)} {σ : L2.St} {n : Bool} {v : V} (s : Sv c F H (O.t n :: Ts) (v :: ts) S σ) : v = .bl n := s.topIm
theorem liftT_of {p : W1 O} (σ : L2.St) (H : Hp) (Q : Bool → Hp → Prop) (h : liftT c W (wT p) σ H Q) : tB (lift c W p) σ H Q := by
  obtain ⟨F, S, Ts, ts, s, q⟩ := h
  exact ⟨F, S, Ts, ts, s, p.mono (fun o ⟨b, e, q⟩ F1 H1 v s1 => by subst e; exact ⟨b, s1.bl, q F1 H1 s1.pop⟩) (fun _ z => z) q⟩
theorem st_val (h : SE X c W e p) (he : ∀ whole, isTrue e X.env whole = (do let v ← whole; standAt e.pos; holding [v] (truthy v)) := by intro _; rfl) : ST X c W e (wT p) := PT.imp (pt_val h he) liftT_of
theorem st_cmp {op : CmpOp} {r : R2} {u : U2} (ho : OpR X (compareOp op) r) (f : Fit2 c r u) (ha : SE X c W a pa) (hb : SE X c W b pb) (hm : behindInMarks op b = false) : ST X c W (.Compare a [op] [b] pos) (wT (w2 pa pb u)) :=
  PT.imp (pt_cmpR ho ha hb hm) fun σ H Q h => by
    obtain ⟨F, S, Ts, ts, s, q⟩ := h
    exact lift_2 (W := W) f σ H _ ⟨F, S, Ts, ts, s, (w2 pa pb u).mono (fun o ⟨b, e, q⟩ F1 H1 v s1 => by subst e; exact ⟨b, s1.bl, q F1 H1 s1.pop⟩) (fun _ z => z) q⟩
theorem st_eq (hu : X.A.units + 64 < cLine) (ha : SE X c W a pa) (hb : SE X c W b pb) : ST X c W (.Compare a [.Eq] [b] pos) (wT (w2 pa pb (uEq false))) := st_cmp (op_eqA hu) fit_eq ha hb (nomark _)
theorem st_ne (hu : X.A.units + 64 < cLine) (ha : SE X c W a pa) (hb : SE X c W b pb) : ST X c W (.Compare a [.NotEq] [b] pos) (wT (w2 pa pb (uEq true))) := st_cmp (op_neA hu) fit_ne ha hb (nomark _)
theorem st_lt (ha : SE X c W a pa) (hb : SE X c W b pb) : ST X c W (.Compare a [.Lt] [b] pos) (wT (w2 pa pb (uIB fun i j => decide (i < j)))) := st_cmp op_lt fit_IB ha hb (nomark _)
theorem st_le (ha : SE X c W a pa) (hb : SE X c W b pb) : ST X c W (.Compare a [.LtE] [b] pos) (wT (w2 pa pb (uIB fun i j => decide (i ≤ j)))) := st_cmp op_le fit_IB ha hb (nomark _)
theorem st_gt (ha : SE X c W a pa) (hb : SE X c W b pb) : ST X c W (.Compare a [.Gt] [b] pos) (wT (w2 pa pb (uIB fun i j => decide (j < i)))) := st_cmp op_gt fit_IB ha hb (nomark _)
theorem st_ge (ha : SE X c W a pa) (hb : SE X c W b pb) : ST X c W (.Compare a [.GtE] [b] pos) (wT (w2 pa pb (uIB fun i j => decide (j ≤ i)))) := st_cmp op_ge fit_IB ha hb (nomark _)
section
variable {p q : W1 Bool} {rest : List Expr}
def wAnd (p q : W1 Bool) : W1 Bool := ⟨fun S Q E => p.run S (fun b => if b = true then q.run S Q E else Q false) E, fun hq he h => p.mono (fun b z => by
  cases b
  · exact hq _ z
  · exact q.mono hq he z) he h⟩
def wOr (p q : W1 Bool) : W1 Bool := ⟨fun S Q E => p.run S (fun b => if b = true then Q true else q.run S Q E) E, fun hq he h => p.mono (fun b z => by
  cases b
  · exact q.mono hq he z
  · exact hq _ z) he h⟩
def wNot (p : W1 Bool) : W1 Bool := ⟨fun S Q E => p.run S (fun b => Q (!b)) E, fun hq he h => p.mono (fun b z => hq _ z) he h⟩
theorem sw_1 (h : SW X c W e p) : ST X c W e p := h.pt
theorem sw_and1 (ha : ST X c W a p) : SW X c W (.BoolOp .And [a] pos) p := pw_and1 ha
theorem sw_or1 (ha : ST X c W a p) : SW X c W (.BoolOp .Or [a] pos) p := pw_or1 ha
theorem sw_and (ha : ST X c W a p) (hb : SW X c W (.BoolOp .And (b :: rest) pos) q) : SW X c W (.BoolOp .And (a :: b :: rest) pos) (wAnd p q) :=
  PW.imp (pw_and ha hb) fun σ H Q ⟨F, S, Ts, ts, s, z⟩ => ⟨F, S, Ts, ts, s, p.mono (fun d hd F1 H1 s1 => by
    cases d
    · exact hd F1 H1 s1
    · exact ⟨F1, S, Ts, ts, s1, hd⟩) (fun _ z => z) z⟩
theorem sw_or (ha : ST X c W a p) (hb : SW X c W (.BoolOp .Or (b :: rest) pos) q) : SW X c W (.BoolOp .Or (a :: b :: rest) pos) (wOr p q) :=
  PW.imp (pw_or ha hb) fun σ H Q ⟨F, S, Ts, ts, s, z⟩ => ⟨F, S, Ts, ts, s, p.mono (fun d hd F1 H1 s1 => by
    cases d
    · exact ⟨F1, S, Ts, ts, s1, hd⟩
    · exact hd F1 H1 s1) (fun _ z => z) z⟩
theorem st_not (ha : ST X c W a p) : ST X c W (.UnaryOp .Not a pos) (wNot p) :=
  PT.imp (pt_not ha) fun σ H Q ⟨F, S, Ts, ts, s, z⟩ => ⟨F, S, Ts, ts, s, p.mono (fun d hd F1 H1 s1 => hd F1 H1 s1) (fun _ z => z) z⟩
end
/-- as values -/
def wAndV (p q : W1 O) : W1 O := ⟨fun S Q E => p.run S (fun o => ∃ b, o = O.t b ∧ if b = true then q.run S Q E else Q (O.t false)) E, fun hq he h => p.mono (fun o ⟨b, e, z⟩ => ⟨b, e, by
  cases b
  · exact hq _ z
  · exact q.mono hq he z⟩) he h⟩
def wOrV (p q : W1 O) : W1 O := ⟨fun S Q E => p.run S (fun o => ∃ b, o = O.t b ∧ if b = true then Q (O.t true) else q.run S Q E) E, fun hq he h => p.mono (fun o ⟨b, e, z⟩ => ⟨b, e, by
  cases b
  · exact q.mono hq he z
  · exact hq _ z⟩) he h⟩
def wNotV (p : W1 O) : W1 O := ⟨fun S Q E => p.run S (fun o => ∃ b, o = O.t b ∧ Q (O.t (!b))) E, fun hq he h => p.mono (fun o ⟨b, e, z⟩ => ⟨b, e, hq _ z⟩) he h⟩
theorem se_one {op} (h : SE X c W a pa) : SE X c W (.BoolOp op [a] pos) pa := pe_one h
theorem se_and {rest : List Expr} (ha : SE X c W a pa) (hb : SE X c W (.BoolOp .And (b :: rest) pos) pb) : SE X c W (.BoolOp .And (a :: b :: rest) pos) (wAndV pa pb) :=
  PE.imp (pe_and ha hb) fun σ H Q ⟨F, S, Ts, ts, s, z⟩ => ⟨F, S, Ts, ts, s, pa.mono (fun o ⟨d, e, hd⟩ F1 H1 v s1 => by
    subst e
    refine ⟨d, s1.bl, ?_⟩
    cases d
    · exact hd F1 H1 _ (s1.pop.pushIm rfl)
    · exact ⟨F1, S, Ts, ts, s1.pop, hd⟩) (fun _ z => z) z⟩
theorem se_or {rest : List Expr} (ha : SE X c W a pa) (hb : SE X c W (.BoolOp .Or (b :: rest) pos) pb) : SE X c W (.BoolOp .Or (a :: b :: rest) pos) (wOrV pa pb) :=
  PE.imp (pe_or ha hb) fun σ H Q ⟨F, S, Ts, ts, s, z⟩ => ⟨F, S, Ts, ts, s, pa.mono (fun o ⟨d, e, hd⟩ F1 H1 v s1 => by
    subst e
    refine ⟨d, s1.bl, ?_⟩
    cases d
    · exact ⟨F1, S, Ts, ts, s1.pop, hd⟩
    · exact hd F1 H1 _ (s1.pop.pushIm rfl)) (fun _ z => z) z⟩
theorem se_not (ha : SE X c W a pa) : SE X c W (.UnaryOp .Not a pos) (wNotV pa) :=
  PE.imp (pe_not ha) fun σ H Q ⟨F, S, Ts, ts, s, z⟩ => ⟨F, S, Ts, ts, s, pa.mono (fun o ⟨d, e, hd⟩ F1 H1 v s1 => by
    subst e
    exact ⟨d, s1.bl, hd F1 H1 _ (s1.pop.pushIm rfl)⟩) (fun _ z => z) z⟩
def wIf (p : W1 Bool) (qa qb : W1 O) : W1 O := ⟨fun S Q E => p.run S (fun b => if b = true then qa.run S Q E else qb.run S Q E) E, fun hq he h => p.mono (fun b z => by
  cases b
  · exact qb.mono hq he z
  · exact qa.mono hq he z) he h⟩
theorem se_if {t : Expr} {p : W1 Bool} (ht : ST X c W t p) (ha : SE X c W a pa) (hb : SE X c W b pb) : SE X c W (.IfExp t a b pos) (wIf p pa pb) :=
  PE.imp (pe_ifExp ht ha hb) fun σ H Q ⟨F, S, Ts, ts, s, z⟩ => ⟨F, S, Ts, ts, s, p.mono (fun d hd F1 H1 s1 => by
    cases d
    · exact ⟨F1, S, Ts, ts, s1, hd⟩
    · exact ⟨F1, S, Ts, ts, s1, hd⟩) (fun _ z => z) z⟩
end
end PL

/-! P3 -/
set_option Elab.async false
set_option linter.all false
set_option maxRecDepth 100000
set_option maxHeartbeats 4000000
/-! P3: displays, calls of built-ins, subscripts, comprehensions. -/
namespace PL
open PySem PySem.Spec L2

/-! ### lists of temporaries -/
theorem TmL.split {G : Gx} {F : Fz} {H : Hp} : ∀ {os Ts : List O} {vs ts : List V} {A : List Addr}, TmL G F H (os ++ Ts) (vs ++ ts) A → os.length = vs.length → ∃ B C, A = B ++ C ∧ TmL G F H os vs B ∧ TmL G F H Ts ts C
  | [], Ts, vs, ts, A, h, e => by
    have : vs = [] := List.eq_nil_of_length_eq_zero e.symm
    subst this
    exact ⟨[], A, rfl, ⟨rfl, rfl⟩, h⟩
  | o :: os, Ts, [], ts, A, h, e => by simp at e
  | o :: os, Ts, v :: vs, ts, A, ⟨v', vr, B, C, ev, eA, h, r⟩, e => by
    simp only [List.cons_append] at ev
    cases ev
    subst eA
    obtain ⟨B', C', eC, h1, h2⟩ := r.split (by simpa using e)
    subst eC
    exact ⟨B ++ B', C', by simp, ⟨v, vs, B, B', rfl, rfl, h, h1⟩, h2⟩
theorem TmL.join {G : Gx} {F : Fz} {H : Hp} : ∀ {os Ts : List O} {vs ts : List V} {B C : List Addr}, TmL G F H os vs B → TmL G F H Ts ts C → TmL G F H (os ++ Ts) (vs ++ ts) (B ++ C)
  | [], Ts, vs, ts, B, C, ⟨e, eA⟩, h2 => by subst e eA; exact h2
  | o :: os, Ts, _, ts, _, C, ⟨v, vr, B1, B2, ev, eA, h, r⟩, h2 => by
    subst ev eA
    exact ⟨v, vr ++ ts, B1, B2 ++ C, rfl, by simp, h, r.join h2⟩
section
variable {c : Cc} {F F' : Fz} {H H' : Hp} {Ts os : List O} {ts vs : List V} {S : List (Option O)} {σ : L2.St}
theorem Sv.rot {o : O} {v : V} (s : Sv c F H (os ++ o :: Ts) (vs ++ v :: ts) S σ) (e : os.length = vs.length) : Sv c F H (o :: (os ++ Ts)) (v :: (vs ++ ts)) S σ := by
  obtain ⟨A, C, hA, hC, nd, no, nA, nC⟩ := s.own
  obtain ⟨A1, A2, eA, h1, h2⟩ := hA.split e
  obtain ⟨v', vr, A3, A4, ev, eA2, h3, h4⟩ := h2
  cases ev
  subst eA eA2
  have pm : (A3 ++ (A1 ++ A4)).Perm (A1 ++ (A3 ++ A4)) := by
    rw [← List.append_assoc, ← List.append_assoc]
    exact List.Perm.append_right A4 List.perm_append_comm
  exact ⟨s.ext, s.fb, s.bh, s.old, s.dom, A3 ++ (A1 ++ A4), C, ⟨v, vs ++ ts, A3, A1 ++ A4, rfl, rfl, h3, h1.join h4⟩, hC, (List.Perm.append_right C pm).nodup_iff.mpr nd, fun a ha => no a ((List.Perm.append_right C pm).mem_iff.mp ha), fun a ha => nA a (pm.mem_iff.mp ha), nC⟩
theorem Sv.popN (s : Sv c F H (os ++ Ts) (vs ++ ts) S σ) (e : os.length = vs.length) : Sv c F H Ts ts S σ := by
  obtain ⟨A, C, hA, hC, nd, no, nA, nC⟩ := s.own
  obtain ⟨A1, A2, eA, h1, h2⟩ := hA.split e
  subst eA
  rw [List.append_assoc] at nd no
  exact ⟨s.ext, s.fb, s.bh, s.old, s.dom, A2, C, h2, hC, (List.nodup_append.mp nd).2.1, fun a ha => no a (List.mem_append_right _ ha), fun a ha => nA a (List.mem_append_right _ ha), nC⟩
/-- all of them are not borrowed: a new list owns them -/
theorem TmL.owL {G : Gx} : ∀ {os : List O} {vs : List V} {A : List Addr}, (os.all O.nb = true) → TmL G F H os vs A → OwL G F.F H os vs A
  | [], _, _, _, h => h
  | o :: os, _, _, nb, ⟨v, vr, B, C, e, eA, h, r⟩ => by
    simp only [List.all_cons, Bool.and_eq_true] at nb
    exact ⟨v, vr, B, C, e, eA, h.ow nb.1, r.owL nb.2⟩
def O.isIm : O → Bool
  | .im _ => true
  | _ => false
theorem TmL.im {G : Gx} : ∀ {os : List O} {vs : List V} {A : List Addr}, (os.all O.isIm = true) → TmL G F H os vs A → ReL G F.F H (O.erL os) vs
  | [], _, _, _, ⟨e, _⟩ => e
  | .im d :: os, _, _, nb, ⟨v, vr, B, C, e, eA, h, r⟩ => by
    simp only [List.all_cons, Bool.and_eq_true] at nb
    exact ⟨v, vr, e, h.2, r.im nb.2⟩
  | .bo d :: os, _, _, nb, _ => by simp [O.isIm] at nb
  | .ls d :: os, _, _, nb, _ => by simp [O.isIm] at nb
  | .tp d :: os, _, _, nb, _ => by simp [O.isIm] at nb
/-- what a display is -/
def mkL (os : List O) : O := if os.all O.nb = true then .ls os else .bo (.lst (O.erL os))
def mkT (os : List O) : O := if os.all O.isIm = true then .im (.tup (O.erL os)) else if os.all O.nb = true then .tp os else .bo (.tup (O.erL os))
/-- temporaries are borrowed from now on -/
theorem Sv.lend (s : Sv c F H (os ++ Ts) (vs ++ ts) S σ) (e : os.length = vs.length) : ∃ B, Same F.B B ∧ Sv c ⟨F.F, B⟩ H Ts ts S σ ∧ ReL c.G B H (O.erL os) vs := by
  obtain ⟨A, C, hA, hC, nd, no, nA, nC⟩ := s.own
  obtain ⟨A1, A2, eA, h1, h2⟩ := hA.split e
  subst eA
  rw [List.append_assoc] at nd no
  have g := frz_same (F := F.B) (H := H) (A := A1) fun a ha => nA a (List.mem_append_left _ ha)
  have out : ∀ a ∈ A2 ++ C, a ∉ A1 := fun a ha h1 => (List.nodup_append.mp nd).2.2 a h1 a ha rfl
  refine ⟨PL.frz F.B H A1, g, ⟨s.ext, s.fb.trans g, frz_sub s.bh, s.old, s.dom, A2, C, TmL.monoK (F := F) (F' := ⟨F.F, PL.frz F.B H A1⟩) (Same.refl F.F) g (.refl _) (fun a ha => ⟨(h2.own a ha).1, rfl⟩) h2, hC, (List.nodup_append.mp nd).2.1, fun a ha => no a (List.mem_append_right _ ha), fun a ha => ?_, fun a ha => ?_⟩, h1.frz g s.fb fun a ha => frz_in ha⟩
  · exact (frz_out (out a (List.mem_append_left _ ha))).trans (nA a (List.mem_append_right _ ha))
  · exact (frz_out (out a (List.mem_append_right _ ha))).trans (nC a ha)
/-- a new object that may be read -/
theorem Sv.allocB (s : Sv c F H Ts ts S σ) {p : Addr} {o : HO} (n : H p = none) : Sv c ⟨F.F, upd F.B p o⟩ (upd H p o) Ts ts S σ := by
  obtain ⟨A, C, hA, hC, nd, no, nA, nC⟩ := s.own
  have g := upd_same_of (o := o) n
  have gB : Same F.B (upd F.B p o) := upd_same_of (s.free n).2.1
  refine ⟨s.ext, s.fb.trans gB, fun a u e => ?_, s.old.trans g, s.dom, A, C, TmL.monoK (F := F) (F' := ⟨F.F, upd F.B p o⟩) (Same.refl F.F) gB (.of g) (at_upd hA.own n) hA, hC.mono (Same.refl _) (.of g) (at_upd hC.own n), nd, no, fun a ha => ?_, fun a ha => ?_⟩
  · by_cases h : a = p
    · subst h
      have e' : upd F.B a o a = some u := e
      rw [upd_same] at e' ⊢; exact e'
    · have e' : upd F.B p o a = some u := e
      rw [upd_ne h] at e'
      rw [upd_ne h]; exact s.bh a u e'
  · have h : a ≠ p := fun e => not_own hA.own n (e ▸ ha)
    show upd F.B p o a = none
    rw [upd_ne h]; exact nA a ha
  · have h : a ≠ p := fun e => not_own hC.own n (e ▸ ha)
    show upd F.B p o a = upd H p o a
    rw [upd_ne h, upd_ne h]; exact nC a ha
theorem Sv.mkL (s : Sv c F H (os ++ Ts) (vs ++ ts) S σ) (e : os.length = vs.length) (z : os.length ≤ sizeLine) {p : Addr} (n : H p = none) : ∃ F' : Fz, Same F.F F'.F ∧ Sv c F' (upd H p (.lst vs)) (PL.mkL os :: Ts) (.ref p :: ts) S σ := by
  unfold PL.mkL
  by_cases q : os.all O.nb = true
  · rw [if_pos q]
    obtain ⟨A, C, hA, hC, nd, no, nA, nC⟩ := s.own
    obtain ⟨A1, A2, eA, h1, h2⟩ := hA.split e
    subst eA
    obtain ⟨nF, nB, n0⟩ := s.free n
    have g := upd_same_of (o := .lst vs) n
    have s1 := s.alloc (o := .lst vs) n
    have np : p ∉ A1 ++ A2 ++ C := fun hp => by
      rcases List.mem_append.mp hp with hp | hp
      · exact not_own hA.own n hp
      · exact not_own hC.own n hp
    refine ⟨F, Same.refl _, s1.ext, s1.fb, s1.bh, s1.old, s1.dom, p :: (A1 ++ A2), C, ⟨.ref p, ts, p :: A1, A2, rfl, rfl, ⟨p, vs, A1, rfl, rfl, nF, upd_same, z, (h1.monoK (Same.refl _) (Same.refl _) (.of g) (at_upd h1.own n)).owL q⟩, h2.monoK (Same.refl _) (Same.refl _) (.of g) (at_upd h2.own n)⟩,
      hC.mono (Same.refl _) (.of g) (at_upd hC.own n), List.nodup_cons.mpr ⟨np, nd⟩, fun a ha => ?_, fun a ha => ?_, fun a ha => ?_⟩
    · rcases List.mem_cons.mp ha with ha | ha
      · rw [ha]; exact n0
      · exact no a ha
    · rcases List.mem_cons.mp ha with ha | ha
      · rw [ha]; exact nB
      · exact nA a ha
    · rw [nC a ha, (at_upd hC.own n a ha).2]
  · rw [if_neg q]
    obtain ⟨B, g, s1, r⟩ := s.lend e
    have nB : B p = none := (s1.free n).2.1
    have s2 := s1.allocB (o := .lst vs) n
    exact ⟨⟨F.F, upd B p (.lst vs)⟩, Same.refl _, s2.pushBo (d := .lst (O.erL os)) (v := .ref p) ⟨p, vs, rfl, upd_same, by rw [O.erL_length]; exact z, ReL.mono (upd_same_of nB) (.of (upd_same_of n)) _ _ r⟩⟩
theorem Sv.mkT (s : Sv c F H (os ++ Ts) (vs ++ ts) S σ) (e : os.length = vs.length) (z : os.length ≤ sizeLine) {p : Addr} (n : H p = none) : ∃ F' : Fz, Same F.F F'.F ∧ Sv c F' (upd H p (.tup vs)) (PL.mkT os :: Ts) (.ref p :: ts) S σ := by
  have s1 := s.alloc (o := .tup vs) n
  obtain ⟨A, C, hA, hC, nd, no, nA, nC⟩ := s1.own
  obtain ⟨A1, A2, eA, h1, h2⟩ := hA.split e
  subst eA
  unfold PL.mkT
  by_cases q : os.all O.isIm = true
  · rw [if_pos q]
    exact ⟨F, Same.refl _, (s1.popN e).pushIm ⟨p, vs, rfl, upd_same, by rw [O.erL_length]; exact z, h1.im q⟩⟩
  · rw [if_neg q]
    by_cases q : os.all O.nb = true
    · rw [if_pos q]
      exact ⟨F, Same.refl _, s1.ext, s1.fb, s1.bh, s1.old, s1.dom, A1 ++ A2, C, ⟨.ref p, ts, A1, A2, rfl, rfl, ⟨p, vs, rfl, upd_same, z, h1.owL q⟩, h2⟩, hC, nd, no, nA, nC⟩
    · rw [if_neg q]
      obtain ⟨B, g, s2, r⟩ := s1.lend e
      exact ⟨⟨F.F, B⟩, Same.refl _, s2.pushBo (d := .tup (O.erL os)) (v := .ref p) ⟨p, vs, rfl, upd_same, by rw [O.erL_length]; exact z, r⟩⟩
end

section
variable {X : Cx} {c : Cc} {W : WX} {a b e : Expr} {es : List Expr} {pa pb p : W1 O} {q : W1 (List O)} {pos : Pos}
def wNil : W1 (List O) := .pure []
def wCons (p : W1 O) (q : W1 (List O)) : W1 (List O) := ⟨fun S Q E => p.run S (fun o => q.run S (fun os => Q (o :: os)) E) E, fun hq he h => p.mono (fun _ z => q.mono (fun _ => hq _) he z) he h⟩
theorem sa_nil : SA X c W [] wNil := PA.imp pa_nil fun σ H Q ⟨F, S, Ts, ts, s, h⟩ => h F H [] s rfl
theorem sa_cons (ha : SE X c W e p) (hr : SA X c W es q) (hs : starEach (e :: es) X.env = (false, eval e X.env) :: starEach es X.env := by rfl) : SA X c W (e :: es) (wCons p q) :=
  PA.imp (pa_cons ha hr hs) fun σ H Q ⟨F, S, Ts, ts, s, h⟩ => ⟨F, S, Ts, ts, s, p.mono (fun o ho F1 H1 v s1 => ⟨F1, S, _, _, s1, q.mono (fun os hos F2 H2 vs s2 e => by
    exact hos F2 H2 (v :: vs) (s2.rot e) (by simp [e])) (fun _ z => exK.pop _ z) ho⟩) (fun _ z => z) h⟩
def wL (q : W1 (List O)) : W1 O := ⟨fun S Q E => q.run S (fun os => os.length ≤ sizeLine ∧ Q (mkL os)) E, fun hq he h => q.mono (fun _ ⟨z, h⟩ => ⟨z, hq _ h⟩) he h⟩
def wTp (q : W1 (List O)) : W1 O := ⟨fun S Q E => q.run S (fun os => os.length ≤ sizeLine ∧ Q (mkT os)) E, fun hq he h => q.mono (fun _ ⟨z, h⟩ => ⟨z, hq _ h⟩) he h⟩
theorem se_L (h : SA X c W es q) : SE X c W (.List es pos) (wL q) :=
  PE.imp (pe_lst h) fun σ H Q ⟨F, S, Ts, ts, s, h⟩ => ⟨F, S, Ts, ts, s, q.mono (fun os ⟨z, hos⟩ F1 H1 vs s1 e => ⟨e ▸ z, fun p n => let ⟨F2, _, s2⟩ := s1.mkL e z n; hos F2 _ _ s2⟩) (fun _ z => z) h⟩
theorem se_T {k} (h : SA X c W es q) : SE X c W (.Tuple es k pos) (wTp q) :=
  PE.imp (pe_tup h) fun σ H Q ⟨F, S, Ts, ts, s, h⟩ => ⟨F, S, Ts, ts, s, q.mono (fun os ⟨z, hos⟩ F1 H1 vs s1 e => ⟨e ▸ z, fun p n => let ⟨F2, _, s2⟩ := s1.mkT e z n; hos F2 _ _ s2⟩) (fun _ z => z) h⟩

/-! ### built-ins -/
structure UA where
  run : List O → (O → Prop) → Prop
  mono : ∀ {a Q Q'}, (∀ o, Q o → Q' o) → run a Q → run a Q'
def wA (q : W1 (List O)) (u : UA) : W1 O := ⟨fun S Q E => q.run S (fun os => u.run os Q) E, fun hq he h => q.mono (fun _ => u.mono hq) he h⟩
def FitA (c : Cc) (r : List V → Hp → VK → Prop) (u : UA) : Prop := ∀ F H Ts ts S σ os vs (Q : VK), Sv c F H (os ++ Ts) (vs ++ ts) S σ → os.length = vs.length →
  u.run os (fun o => ∀ F' H' v, Sv c F' H' (o :: Ts) (v :: ts) S σ → Q v H') → r vs H Q
theorem se_cB {id : String} {r : List V → Hp → VK → Prop} {u : UA} {x : Str} {p : Pos} (hc : CallR X (.builtin id) r) (f : FitA c r u) (hg : Gl X x) (hm : X.mg x = none) (hv : bootBuiltins x = some (.builtin id)) (ha : SA X c W (e :: es) q) (hn : x ≠ "__name__" := by decide) (hdb : (x == ("__debug__" : Str)) = false := by decide)
    (he : starEach (e :: es) X.env = (false, eval e X.env) :: starEach es X.env := by rfl) (hpl : (backTo pos (starEach es X.env)).any (·.1) = false := by rfl) : SE X c W (.Call (.Name x p) (e :: es) [] pos) (wA q u) :=
  PE.imp (pe_callB hc hg hm hv ha hn hdb he hpl) fun σ H Q ⟨F, S, Ts, ts, s, h⟩ => ⟨F, S, Ts, ts, s, q.mono (fun os hos F1 H1 vs s1 e => f _ _ _ _ _ _ _ _ _ s1 e hos) (fun _ z => z) h⟩
theorem se_cT {id : String} {r : List V → Hp → VK → Prop} {u : UA} {x : Str} {p : Pos} (hc : CallR X (.type id) r) (f : FitA c r u) (hg : Gl X x) (hm : X.mg x = none) (hv : bootBuiltins x = some (.type id)) (ha : SA X c W (e :: es) q) (hn : x ≠ "__name__" := by decide) (hdb : (x == ("__debug__" : Str)) = false := by decide)
    (he : starEach (e :: es) X.env = (false, eval e X.env) :: starEach es X.env := by rfl) (hpl : (backTo pos (starEach es X.env)).any (·.1) = false := by rfl) : SE X c W (.Call (.Name x p) (e :: es) [] pos) (wA q u) :=
  PE.imp (pe_callTy hc hg hm hv ha hn hdb he hpl) fun σ H Q ⟨F, S, Ts, ts, s, h⟩ => ⟨F, S, Ts, ts, s, q.mono (fun os hos F1 H1 vs s1 e => f _ _ _ _ _ _ _ _ _ s1 e hos) (fun _ z => z) h⟩
def uA1 (u : U1) : UA := ⟨fun os Q => ∃ a, os = [a] ∧ u.run a Q, fun hq ⟨a, e, h⟩ => ⟨a, e, u.mono hq h⟩⟩
def uA2 (u : U2) : UA := ⟨fun os Q => ∃ a b, os = [a, b] ∧ u.run a b Q, fun hq ⟨a, b, e, h⟩ => ⟨a, b, e, u.mono hq h⟩⟩
theorem len1 {α : Type} {vs : List α} (h : 1 = vs.length) : ∃ v, vs = [v] := by
  match vs, h with
  | [v], _ => exact ⟨v, rfl⟩
theorem len2 {α : Type} {vs : List α} (h : 2 = vs.length) : ∃ v w, vs = [v, w] := by
  match vs, h with
  | [v, w], _ => exact ⟨v, w, rfl⟩
/-- how many parts -/
def D.len : D → Option Nat
  | .lst ds => some ds.length
  | .tup ds => some ds.length
  | .scr ns => some ns.length
  | .str s => if s.length ≤ sizeLine then some s.length else none
  | _ => none
def uLen : U1 := ⟨fun a Q => ∃ n : Nat, a.er.len = some n ∧ Q (O.i n), fun hq ⟨n, e, h⟩ => ⟨n, e, hq _ h⟩⟩
def rLenA (K : PySem.W.Frag) : List V → Hp → VK → Prop := fun xs H Q => (∃ p ys, xs = [.ref p] ∧ (SqL K H p ys ∨ SqT K H p ys) ∧ Q (.int ys.length) H) ∨ (∃ z, xs = [.str z] ∧ z.length ≤ sizeLine ∧ Q (.int z.length) H)
theorem call_lenA : CallR X (.builtin "len") (rLenA X.K) := call_len_seq.or call_len_str
theorem fit_len : FitA c (rLenA c.G.K) (uA1 uLen) := fun F H Ts ts S σ os vs Q s e ⟨a, ea, n, en, q⟩ => by
  subst ea
  obtain ⟨v, rfl⟩ := len1 e
  have h := s.topEr
  have q' := q F H _ (s.pop.pushIm rfl)
  cases k : a.er with
  | lst ds =>
    rw [k] at h en
    obtain ⟨p, ys, ev, hp, z, r⟩ := h
    subst ev
    refine .inl ⟨p, ys, rfl, .inl (SqL.of hp), ?_⟩
    rw [← r.length]
    cases en
    exact q'
  | tup ds =>
    rw [k] at h en
    obtain ⟨p, ys, ev, hp, z, r⟩ := h
    subst ev
    refine .inl ⟨p, ys, rfl, .inr (SqT.of hp), ?_⟩
    rw [← r.length]
    cases en
    exact q'
  | scr ns =>
    rw [k] at h en
    obtain ⟨p, ev, hp⟩ := h
    subst ev
    refine .inl ⟨p, _, rfl, .inl hp, ?_⟩
    rw [List.length_map]
    cases en
    exact q'
  | str z =>
    rw [k] at h en
    cases (show v = V.str z from h)
    have en' : (if z.length ≤ sizeLine then some z.length else none) = some n := en
    by_cases hz : z.length ≤ sizeLine
    · rw [if_pos hz] at en'
      cases en'
      exact .inr ⟨z, rfl, hz, q'⟩
    · rw [if_neg hz] at en'
      cases en'
  | _ => rw [k] at en; cases en
theorem se_len {p : Pos} (hK : X.K = c.G.K) (hm : X.mg "len" = none) (ha : SA X c W [a] q) (hg : Gl X "len" := by rfl) (he : starEach [a] X.env = (false, eval a X.env) :: starEach [] X.env := by rfl) : SE X c W (.Call (.Name "len" p) [a] [] pos) (wA q (uA1 uLen)) :=
  se_cB (x := "len") call_lenA (by rw [hK]; exact fit_len) hg hm boot_len ha (he := he)
theorem se_abs {p : Pos} (hm : X.mg "abs" = none) (ha : SA X c W [a] q) (hg : Gl X "abs" := by rfl) (he : starEach [a] X.env = (false, eval a X.env) :: starEach [] X.env := by rfl) :
    SE X c W (.Call (.Name "abs" p) [a] [] pos) (wA q (uA1 (uIU fun i => if i < 0 then -i else i))) :=
  se_cB (x := "abs") call_abs (fun F H Ts ts S σ os vs Q s e ⟨a, ea, i, ei, q⟩ => by
    subst ea ei
    obtain ⟨v, rfl⟩ := len1 e
    exact ⟨i, by rw [s.int], q F H _ (s.pop.pushIm rfl)⟩) hg hm (by decide +kernel) ha (he := he)
/-- int(x) of a number or a truth -/
def uInt : U1 := ⟨fun a Q => (∃ i, a = O.i i ∧ Q (O.i i)) ∨ ∃ k, a = O.t k ∧ Q (O.i (if k then 1 else 0)), fun hq h => h.elim (fun ⟨i, e, h⟩ => .inl ⟨i, e, hq _ h⟩) fun ⟨i, e, h⟩ => .inr ⟨i, e, hq _ h⟩⟩
theorem se_intc {p : Pos} (hm : X.mg "int" = none) (ha : SA X c W [a] q) (hg : Gl X "int" := by rfl) (he : starEach [a] X.env = (false, eval a X.env) :: starEach [] X.env := by rfl) :
    SE X c W (.Call (.Name "int" p) [a] [] pos) (wA q (uA1 uInt)) :=
  se_cT (x := "int") call_int1 (fun F H Ts ts S σ os vs Q s e ⟨a, ea, h⟩ => by
    subst ea
    obtain ⟨v, rfl⟩ := len1 e
    rcases h with ⟨i, ei, q⟩ | ⟨i, ei, q⟩
    · subst ei
      exact .inl ⟨i, by rw [s.int], q F H _ (s.pop.pushIm rfl)⟩
    · subst ei
      exact .inr ⟨i, by rw [s.bl], q F H _ (s.pop.pushIm rfl)⟩) hg hm (by decide +kernel) ha (he := he)
/-! isinstance against a built-in type -/
def D.ty : D → Option String
  | .non => some "NoneType" | .bl _ => some "bool" | .int _ => some "int" | .str _ => some "str" | .tup _ => some "tuple" | .lst _ => some "list" | .dic => some "dict" | _ => none
def isB (t T : String) : Bool := t == T || (t == "bool" && T == "int")
def uIsi (T : String) : U2 := ⟨fun a b Q => b = .im (.obj (.ty T)) ∧ ∃ t, a.er.ty = some t ∧ Q (O.t (isB t T)), fun hq ⟨e, t, h, q⟩ => ⟨e, t, h, hq _ q⟩⟩
theorem kit_tab {K : PySem.W.Frag} : ∀ t T, t ∈ (["NoneType", "bool", "int", "str", "tuple", "list", "dict"] : List String) → T ∈ (["bool", "int", "str", "tuple", "list"] : List String) → PySem.W.kitOne K (.type t) (.type T) = some (isB t T) := by
  intro t T ht hT
  simp only [List.mem_cons, List.not_mem_nil, or_false] at ht hT
  rcases ht with rfl | rfl | rfl | rfl | rfl | rfl | rfl <;> rcases hT with rfl | rfl | rfl | rfl | rfl <;> exact kit_ty (by decide +kernel)
theorem D.tyOf {K : PySem.W.Frag} {G : Gx} {H : Hp} : ∀ (d : D) (v : V) (t : String), Re G H H d v → d.ty = some t → TyX K H v (.type t) ∧ t ∈ (["NoneType", "bool", "int", "str", "tuple", "list", "dict"] : List String)
  | .non, _, _, h, e => by cases e; cases h; exact ⟨.base .non, by decide⟩
  | .bl b, _, _, h, e => by cases e; cases h; exact ⟨.base (.bl b), by decide⟩
  | .int b, _, _, h, e => by cases e; cases h; exact ⟨.base (.int b), by decide⟩
  | .str b, _, _, h, e => by cases e; cases h; exact ⟨.base (.str b), by decide⟩
  | .tup ds, _, _, ⟨a, vs, ev, q, z, r⟩, e => by cases e; subst ev; exact ⟨.base (.tup q), by decide⟩
  | .lst ds, _, _, ⟨a, vs, ev, q, z, r⟩, e => by cases e; subst ev; exact ⟨.base (.lst q), by decide⟩
  | .kd _, _, _, _, e => by cases e
  | .scr _, _, _, _, e => by cases e
  | .obj _, _, _, _, e => by cases e
  | .exn _, _, _, _, e => by cases e
  | .dic, _, _, ⟨a, ev, q⟩, e => by cases e; subst ev; exact ⟨.base (.dK q), by decide⟩
  | .lsa _ _, _, _, _, e => by cases e
theorem fit_isi {T : String} (hT : T ∈ (["bool", "int", "str", "tuple", "list"] : List String)) : FitA c (rIsi c.G.K) (uA2 (uIsi T)) := fun F H Ts ts S σ os vs Q s e ⟨a, b, ea, eb, t, et, q⟩ => by
  subst ea eb
  obtain ⟨v, w, rfl⟩ := len2 e
  have s1 : Sv c F H (a :: .im (.obj (.ty T)) :: Ts) (v :: w :: ts) S σ := s
  have hw : w = .ty T := s1.pop.topIm
  subst hw
  obtain ⟨h1, h2⟩ := D.tyOf (K := c.G.K) _ _ _ s1.topEr et
  exact ⟨v, .ty T, _, _, _, rfl, .ty T, h1, kit_tab t T h2 hT, q F H _ (s1.pop.pop.pushIm rfl)⟩
theorem se_isi {T : String} {x : Str} {p p2 : Pos} (hK : X.K = c.G.K) (hm : X.mg "isinstance" = none) (hmT : X.mg x = none) (hv : bootBuiltins x = some (.type T)) (hT : T ∈ (["bool", "int", "str", "tuple", "list"] : List String)) (ha : SE X c W a pa) (hgT : Gl X x := by rfl) (hg : Gl X "isinstance" := by rfl) (hn : x ≠ "__name__" := by decide) (hdb : (x == ("__debug__" : Str)) = false := by decide)
    (he : starEach [a, .Name x p2] X.env = (false, eval a X.env) :: starEach [.Name x p2] X.env := by rfl) (he2 : starEach [.Name x p2] X.env = (false, eval (.Name x p2) X.env) :: starEach [] X.env := by rfl) (hpl : (backTo pos (starEach [.Name x p2] X.env)).any (·.1) = false := by rfl) :
    SE X c W (.Call (.Name "isinstance" p) [a, .Name x p2] [] pos) (wA (wCons pa (wCons (wC (.obj (.ty T))) wNil)) (uA2 (uIsi T))) :=
  se_cB (x := "isinstance") call_isi (by rw [hK]; exact fit_isi hT) hg hm (by decide +kernel) (sa_cons ha (sa_cons (se_C (pe_bltn hgT hmT hv (show RelV (.ty T) _ from rfl) hn hdb) fun _ _ _ => rfl) sa_nil he2) he) (by decide) (by decide) he hpl
end
end PL

/-! P4 -/
set_option Elab.async false
set_option linter.all false
set_option maxRecDepth 100000
set_option maxHeartbeats 4000000
/-! P4: subscripts, slices, sums of lists, what is walked, comprehensions. -/
namespace PL
open PySem PySem.Spec L2

mutual
/-- no list within -/
def D.flat : D → Bool
  | .lst _ => false
  | .scr _ => false
  | .lsa _ _ => false
  | .tup ds => D.flatL ds
  | _ => true
def D.flatL : List D → Bool
  | [] => true
  | d :: ds => D.flat d && D.flatL ds
end
mutual
theorem Re.flat {G : Gx} {F F' H : Hp} : ∀ (d : D) (v : V), d.flat = true → Re G F H d v → Re G F' H d v
  | .non, _, _, h => h
  | .bl _, _, _, h => h
  | .int _, _, _, h => h
  | .str _, _, _, h => h
  | .tup ds, v, e, ⟨a, vs, ev, q, z, r⟩ => ⟨a, vs, ev, q, z, ReL.flat ds vs e r⟩
  | .lst ds, v, e, _ => by cases e
  | .kd _, _, _, h => h
  | .scr _, _, e, _ => by cases e
  | .obj _, _, _, h => h
  | .exn _, _, _, h => h
  | .dic, _, _, h => h
  | .lsa _ _, _, e, _ => by cases e
theorem ReL.flat {G : Gx} {F F' H : Hp} : ∀ (ds : List D) (vs : List V), D.flatL ds = true → ReL G F H ds vs → ReL G F' H ds vs
  | [], _, _, h => h
  | d :: ds, _, e, ⟨v, vr, ev, h, r⟩ => by
    have e' : D.flat d = true ∧ D.flatL ds = true := by simpa [D.flatL] using e
    exact ⟨v, vr, ev, Re.flat d v e'.1 h, ReL.flat ds vr e'.2 r⟩
end
def mkBo (d : D) : O := if d.flat = true then .im d else .bo d
theorem mkBo_flat {d : D} (h : d.flat = true) : mkBo d = .im d := if_pos h
theorem Vw.mkBo {G : Gx} {F : Fz} {H : Hp} {d : D} {v : V} (h : Re G F.B H d v) : Vw G F H (PL.mkBo d) v [] := by
  unfold PL.mkBo
  by_cases e : d.flat = true
  · rw [if_pos e]; exact ⟨rfl, Re.flat d v e h⟩
  · rw [if_neg e]; exact ⟨rfl, h⟩
/-- the items of a list, a tuple (an owned one is frozen then) -/
def O.its : O → Option (List O)
  | .im (.lst ds) => some (ds.map .im)
  | .im (.tup ds) => some (ds.map .im)
  | .im (.scr ns) => some (ns.map O.i)
  | .im (.lsa _ ds) => some (ds.map .im)
  | .bo (.lst ds) => some (ds.map mkBo)
  | .bo (.tup ds) => some (ds.map mkBo)
  | .ls os => some ((O.erL os).map .im)
  | .tp os => some ((O.erL os).map .im)
  | _ => none
def O.isL : O → Bool
  | .im (.lst _) => true
  | .im (.scr _) => true
  | .im (.lsa _ _) => true
  | .bo (.lst _) => true
  | .ls _ => true
  | _ => false
def O.isTrk : O → Bool
  | .im (.lst _) => true
  | .im (.lsa _ _) => true
  | .bo (.lst _) => true
  | .ls _ => true
  | _ => false
/-- the same, where it is no more the frame's own -/
def O.fz : O → O
  | .ls os => .im (.lst (O.erL os))
  | .tp os => .im (.tup (O.erL os))
  | o => o
def ItV (G : Gx) (F : Fz) (H : Hp) (os : List O) (vs : List V) : Prop := os.length = vs.length ∧ ∀ (j : Nat) o, os[j]? = some o → ∃ v, vs[j]? = some v ∧ Vw G F H o v []
theorem ItV.im {G : Gx} {F : Fz} {H : Hp} {ds : List D} {vs : List V} (r : ReL G F.F H ds vs) : ItV G F H (ds.map .im) vs := ⟨by rw [List.length_map]; exact r.length, fun j o e => by
  rw [List.getElem?_map] at e
  obtain ⟨d, e1, e2⟩ := Option.map_eq_some_iff.mp e
  subst e2
  obtain ⟨v, e3, h⟩ := r.get' e1
  exact ⟨v, e3, rfl, h⟩⟩
theorem ItV.bo {G : Gx} {F : Fz} {H : Hp} {ds : List D} {vs : List V} (r : ReL G F.B H ds vs) : ItV G F H (ds.map mkBo) vs := ⟨by rw [List.length_map]; exact r.length, fun j o e => by
  rw [List.getElem?_map] at e
  obtain ⟨d, e1, e2⟩ := Option.map_eq_some_iff.mp e
  subst e2
  obtain ⟨v, e3, h⟩ := r.get' e1
  exact ⟨v, e3, Vw.mkBo h⟩⟩
section
variable {c : Cc} {F : Fz} {H : Hp} {Ts : List O} {ts : List V} {S : List (Option O)} {σ : L2.St}
theorem Sv.fz {o : O} {v : V} (s : Sv c F H (o :: Ts) (v :: ts) S σ) : ∃ F' : Fz, Same F.F F'.F ∧ Same F.B F'.B ∧ Sv c F' H (o.fz :: Ts) (v :: ts) S σ := by
  match o, s with
  | .im d, s => exact ⟨F, Same.refl _, Same.refl _, s⟩
  | .bo d, s => exact ⟨F, Same.refl _, Same.refl _, s⟩
  | .ls os, s => exact s.freeze rfl
  | .tp os, s => exact s.freeze rfl
theorem Sv.items {o : O} {v : V} {os : List O} (s : Sv c F H (o :: Ts) (v :: ts) S σ) (h : o.its = some os) :
    ∃ (F' : Fz) (p : Addr) (vs : List V), Same F.F F'.F ∧ Same F.B F'.B ∧ Sv c F' H (o.fz :: Ts) (v :: ts) S σ ∧ v = .ref p ∧ (if o.isL = true then SqL c.G.K H p vs else SqT c.G.K H p vs) ∧ (o.isTrk = true → H p = some (.lst vs)) ∧ ItV c.G F' H os vs ∧ os.length ≤ sizeLine ∨ (o.isL = true ∧ o.isTrk = false ∧ ∃ p vs, v = .ref p ∧ SqL c.G.K H p vs ∧ ItV c.G F H os vs) := by
  match o, s, h with
  | .im (.lst ds), s, h =>
    cases h
    obtain ⟨p, vs, ev, q, z, r⟩ := s.topIm
    exact ⟨F, p, vs, .inl ⟨Same.refl _, Same.refl _, s, ev, SqL.of (s.sub _ _ q), fun _ => s.sub _ _ q, ItV.im r, by rw [List.length_map]; exact z⟩⟩
  | .im (.lsa a ds), s, h =>
    cases h
    obtain ⟨ev, vs, q, z, r⟩ := s.topIm
    exact ⟨F, a, vs, .inl ⟨Same.refl _, Same.refl _, s, ev, SqL.of (s.sub _ _ q), fun _ => s.sub _ _ q, ItV.im r, by rw [List.length_map]; exact z⟩⟩
  | .bo (.lsa _ _), s, h => cases h
  | .im (.tup ds), s, h =>
    cases h
    obtain ⟨p, vs, ev, q, z, r⟩ := s.topIm
    exact ⟨F, p, vs, .inl ⟨Same.refl _, Same.refl _, s, ev, SqT.of q, (fun z => Bool.noConfusion z), ItV.im r, by rw [List.length_map]; exact z⟩⟩
  | .im (.scr ns), s, h =>
    cases h
    obtain ⟨p, ev, q⟩ := s.topIm
    exact ⟨F, p, [], .inr ⟨rfl, rfl, p, _, ev, s.sub.seq q, by
      have := ItV.im (G := c.G) (F := F) (H := H) (ReL.ints ns)
      rw [List.map_map] at this
      exact this⟩⟩
  | .bo (.lst ds), s, h =>
    cases h
    obtain ⟨p, vs, ev, q, z, r⟩ := s.topBo
    exact ⟨F, p, vs, .inl ⟨Same.refl _, Same.refl _, s, ev, SqL.of (s.bh _ _ q), fun _ => s.bh _ _ q, ItV.bo r, by rw [List.length_map]; exact z⟩⟩
  | .bo (.tup ds), s, h =>
    cases h
    obtain ⟨p, vs, ev, q, z, r⟩ := s.topBo
    exact ⟨F, p, vs, .inl ⟨Same.refl _, Same.refl _, s, ev, SqT.of q, (fun z => Bool.noConfusion z), ItV.bo r, by rw [List.length_map]; exact z⟩⟩
  | .ls os', s, h =>
    cases h
    obtain ⟨F', f, g, s'⟩ := s.freeze rfl
    obtain ⟨p, vs, ev, q, z, r⟩ := s'.topIm
    exact ⟨F', p, vs, .inl ⟨f, g, s', ev, SqL.of (s'.sub _ _ q), fun _ => s'.sub _ _ q, ItV.im r, by rw [List.length_map]; exact z⟩⟩
  | .tp os', s, h =>
    cases h
    obtain ⟨F', f, g, s'⟩ := s.freeze rfl
    obtain ⟨p, vs, ev, q, z, r⟩ := s'.topIm
    exact ⟨F', p, vs, .inl ⟨f, g, s', ev, SqT.of q, (fun z => Bool.noConfusion z), ItV.im r, by rw [List.length_map]; exact z⟩⟩
  | .im .non, s, h => cases h
  | .im (.bl _), s, h => cases h
  | .im (.int _), s, h => cases h
  | .im (.str _), s, h => cases h
  | .im (.kd _), s, h => cases h
  | .im (.obj _), s, h => cases h
  | .im (.exn _), s, h => cases h
  | .im .dic, s, h => cases h
  | .bo .non, s, h => cases h
  | .bo (.bl _), s, h => cases h
  | .bo (.int _), s, h => cases h
  | .bo (.str _), s, h => cases h
  | .bo (.kd _), s, h => cases h
  | .bo (.obj _), s, h => cases h
  | .bo (.exn _), s, h => cases h
  | .bo .dic, s, h => cases h
  | .bo (.scr _), s, h => cases h
end
theorem atI_get2 {α β : Type} {xs : List α} {ys : List β} (e : xs.length = ys.length) {k : Int} {x : α} (h : atI xs k = some x) : ∃ (j : Nat), xs[j]? = some x ∧ ∀ y, ys[j]? = some y → atI ys k = some y := by
  unfold atI at h
  obtain ⟨j, h1, h2⟩ := Option.bind_eq_some_iff.mp h
  refine ⟨j, h2, fun y hy => ?_⟩
  unfold atI
  rw [← e, h1]
  exact hy
section
variable {X : Cx} {c : Cc} {W : WX} {a b e : Expr} {pa pb p : W1 O} {pos : Pos}
def uIx : U2 := ⟨fun a b Q => ∃ k o os, b = O.i k ∧ a.its = some os ∧ atI os k = some o ∧ Q o, fun hq ⟨k, o, os, e1, e2, e3, q⟩ => ⟨k, o, os, e1, e2, e3, hq _ q⟩⟩
theorem fit_ix : Fit2 c (rIx c.G.K) uIx := fun F H Ts ts S σ a b x y Q s ⟨k, o, os, eb, ei, ea, q⟩ => by
  subst eb
  obtain rfl := s.int
  obtain ⟨F', p, vs, h⟩ := s.pop.items ei
  rcases h with ⟨_, _, s', ev, hs, _, ⟨el, hi⟩, _⟩ | ⟨h1, h2, p, vs, ev, hs, el, hi⟩
  · subst ev
    obtain ⟨j, e1, e2⟩ := atI_get2 el ea
    obtain ⟨v, e3, hv⟩ := hi j o e1
    have q' := q F' H v (s'.pop.push hv)
    by_cases hl : a.isL = true
    · rw [if_pos hl] at hs
      exact .inl ⟨p, vs, k, v, rfl, rfl, hs, e2 v e3, q'⟩
    · rw [if_neg hl] at hs
      exact .inr (.inl ⟨p, vs, k, v, rfl, rfl, hs, e2 v e3, q'⟩)
  · subst ev
    obtain ⟨j, e1, e2⟩ := atI_get2 el ea
    obtain ⟨v, e3, hv⟩ := hi j o e1
    exact .inl ⟨p, vs, k, v, rfl, rfl, hs, e2 v e3, q F H v (s.pop.pop.push hv)⟩
theorem se_sub' (hK : X.K = c.G.K) (ha : SE X c W a pa) (hb : SE X c W b pb) (hs : PlainIx b := by exact fun _ _ => rfl) : SE X c W (.Subscript a b pos) (w2 pa pb uIx) :=
  se_ix (r := rIx X.K) ix_seq (by rw [hK]; exact fit_ix) ha hb hs

/-! ### slices -/
def cutA {α : Type} (xs : List α) (lo hi : Option Int) : List α := (xs.drop (HT.sIx xs.length 0 lo)).take (HT.sIx xs.length xs.length hi - HT.sIx xs.length 0 lo)
section
variable (c : Cc) (W : WX)
def liftO (p : W1 (Option Int)) : TO := fun σ H Q => ∃ F S Ts ts, Sv c F H Ts ts S σ ∧ p.run S (fun b => ∀ F' H', Sv c F' H' Ts ts S σ → Q b H') (exK c W Ts ts S σ)
end
abbrev SO (X : Cx) (c : Cc) (W : WX) (e : Option Expr) (p : W1 (Option Int)) : Prop := PO X e (liftO c W p)
theorem PO.imp {X : Cx} {e : Option Expr} {t t' : TO} (h : PO X e t) (i : ∀ σ H Q, t' σ H Q → t σ H Q) : PO X e t' := ⟨fun pins s σ H Q I q => h.run pins s σ H Q I (i σ H Q q)⟩
def wON : W1 (Option Int) := .pure none
def wOS (p : W1 O) : W1 (Option Int) := ⟨fun S Q E => p.run S (fun o => ∃ i, o = O.i i ∧ Q (some i)) E, fun hq he h => p.mono (fun o ⟨b, e, q⟩ => ⟨b, e, hq _ q⟩) he h⟩
theorem so_none : SO X c W none wON := PO.imp po_none fun σ H Q ⟨F, S, Ts, ts, s, h⟩ => h F H s
theorem so_some (h : SE X c W e p) : SO X c W (some e) (wOS p) := PO.imp (po_some h) fun σ H Q ⟨F, S, Ts, ts, s, h⟩ =>
  ⟨F, S, Ts, ts, s, p.mono (fun o ⟨i, e, q⟩ F1 H1 v s1 => by subst e; exact ⟨i, s1.int, q F1 H1 s1.pop⟩) (fun _ z => z) h⟩
def wSl (p : W1 O) (l u : W1 (Option Int)) : W1 O := ⟨fun S Q E => p.run S (fun o => l.run S (fun lo => u.run S (fun hi => ∃ os, o.its = some os ∧ o.isL = true ∧ os.length ≤ sizeLine ∧ Q (mkL (cutA os lo hi))) E) E) E,
  fun hq he h => p.mono (fun o h => l.mono (fun lo h => u.mono (fun hi ⟨os, e, e2, z, q⟩ => ⟨os, e, e2, z, hq _ q⟩) he h) he h) he h⟩
theorem ItV.tm {G : Gx} {F : Fz} {H : Hp} : ∀ {os : List O} {vs : List V}, ItV G F H os vs → TmL G F H os vs []
  | [], vs, ⟨e, _⟩ => ⟨List.eq_nil_of_length_eq_zero e.symm, rfl⟩
  | o :: os, [], ⟨e, _⟩ => by simp at e
  | o :: os, v :: vs, ⟨e, h⟩ => by
    obtain ⟨v', e', h'⟩ := h 0 o rfl
    simp at e'
    subst e'
    exact ⟨v, vs, [], [], rfl, rfl, h', ItV.tm ⟨by simpa using e, fun j o e => h (j + 1) o (by simpa using e)⟩⟩
theorem Sv.pushN {F : Fz} {H : Hp} {Ts : List O} {ts : List V} {S : List (Option O)} {σ : L2.St} {os : List O} {vs : List V} (s : Sv c F H Ts ts S σ) (h : ItV c.G F H os vs) : Sv c F H (os ++ Ts) (vs ++ ts) S σ := by
  obtain ⟨A, C, hA, hC, nd, no, nA, nC⟩ := s.own
  exact ⟨s.ext, s.fb, s.bh, s.old, s.dom, A, C, by simpa using h.tm.join hA, hC, nd, no, nA, nC⟩
theorem ItV.cut {G : Gx} {F : Fz} {H : Hp} {os : List O} {vs : List V} (h : ItV G F H os vs) (lo hi : Option Int) : ItV G F H (cutA os lo hi) (cutV vs lo hi) := by
  obtain ⟨e, h⟩ := h
  unfold cutA cutV
  rw [e]
  refine ⟨by simp [e], fun j o q => ?_⟩
  rw [List.getElem?_take] at q ⊢
  split at q
  · rename_i hj
    rw [if_pos hj]
    rw [List.getElem?_drop] at q ⊢
    exact h _ o q
  · cases q
theorem cutA_le {α : Type} (xs : List α) (lo hi : Option Int) : (cutA xs lo hi).length ≤ xs.length := by
  unfold cutA
  rw [List.length_take, List.length_drop]
  omega
theorem se_sl {lo hi : Option Expr} {p2 : Pos} {l u : W1 (Option Int)} (hK : X.K = c.G.K) (ha : SE X c W a pa) (hl : SO X c W lo l) (hu : SO X c W hi u) : SE X c W (.Subscript a (.Slice lo hi none p2) pos) (wSl pa l u) := by
  refine PE.imp (pe_slice (r := rSlL X.K) sl_list ha hl hu) fun σ H Q ⟨F, S, Ts, ts, s, h⟩ => ⟨F, S, Ts, ts, s, pa.mono (fun o ho F1 H1 x s1 => ?_) (fun _ z => z) h⟩
  refine ⟨F1, S, _, _, s1, l.mono (fun lo' hlo F2 H2 s2 => ?_) (fun e z => exK.pop e z) ho⟩
  refine ⟨F2, S, _, _, s2, u.mono (fun hi' hhi F3 H3 s3 => ?_) (fun e z => exK.pop e z) hlo⟩
  obtain ⟨os, e1, e2, z, q⟩ := hhi
  obtain ⟨F', p, vs, h⟩ := s3.items e1
  rcases h with ⟨_, _, s', ev, hs, _, hi, _⟩ | ⟨h1, h2, p, vs, ev, hs, hi⟩
  · rw [if_pos e2, ← hK] at hs
    subst ev
    exact ⟨p, vs, rfl, hs, fun r n => let ⟨F4, _, s4⟩ := (s'.pop.pushN (hi.cut lo' hi')).mkL (hi.cut lo' hi').1 (Nat.le_trans (cutA_le _ _ _) z) n; q F4 _ _ s4⟩
  · rw [← hK] at hs
    subst ev
    exact ⟨p, vs, rfl, hs, fun r n => let ⟨F4, _, s4⟩ := (s3.pop.pushN (hi.cut lo' hi')).mkL (hi.cut lo' hi').1 (Nat.le_trans (cutA_le _ _ _) z) n; q F4 _ _ s4⟩

/-- xs + ys -/
def uCat : U2 := ⟨fun a b Q => ∃ os us, a.its = some os ∧ b.its = some us ∧ a.isTrk = true ∧ b.isTrk = true ∧ os.length + us.length ≤ sizeLine ∧ Q (mkL (os ++ us)), fun hq ⟨os, us, e1, e2, e3, e4, z, q⟩ => ⟨os, us, e1, e2, e3, e4, z, hq _ q⟩⟩
theorem O.isTrk_isL {o : O} (h : o.isTrk = true) : o.isL = true := by
  match o, h with
  | .im (.lst _), _ => rfl
  | .im (.lsa _ _), _ => rfl
  | .bo (.lst _), _ => rfl
  | .ls _, _ => rfl
theorem ItV.app {G : Gx} {F : Fz} {H : Hp} {os us : List O} {vs ws : List V} (h : ItV G F H os vs) (k : ItV G F H us ws) : ItV G F H (os ++ us) (vs ++ ws) := by
  obtain ⟨e, h⟩ := h
  obtain ⟨e2, k⟩ := k
  refine ⟨by simp [e, e2], fun j o q => ?_⟩
  by_cases hj : j < os.length
  · rw [List.getElem?_append_left hj] at q
    rw [List.getElem?_append_left (by omega)]
    exact h j o q
  · rw [List.getElem?_append_right (by omega)] at q
    rw [List.getElem?_append_right (by omega), ← e]
    exact k _ o q
theorem ItV.mono {G : Gx} {F F' : Fz} {H : Hp} (f : Same F.F F'.F) (g : Same F.B F'.B) {os : List O} {vs : List V} (h : ItV G F H os vs) : ItV G F' H os vs := ⟨h.1, fun j o e => by
  obtain ⟨v, e1, h1⟩ := h.2 j o e
  exact ⟨v, e1, h1.monoK f g (.refl _) (fun a ha => by cases ha)⟩⟩
theorem O.fz_its (o : O) : o.fz.its = o.its := by
  match o with
  | .im _ => rfl
  | .bo _ => rfl
  | .ls os => rfl
  | .tp os => rfl
theorem O.fz_isTrk (o : O) : o.fz.isTrk = o.isTrk := by
  match o with
  | .im _ => rfl
  | .bo _ => rfl
  | .ls os => rfl
  | .tp os => rfl
theorem Sv.swap {F : Fz} {H : Hp} {Ts : List O} {ts : List V} {S : List (Option O)} {σ : L2.St} {a b : O} {x y : V} (s : Sv c F H (b :: a :: Ts) (y :: x :: ts) S σ) : Sv c F H (a :: b :: Ts) (x :: y :: ts) S σ :=
  Sv.rot (os := [b]) (vs := [y]) s rfl
theorem fit_cat : Fit2 c rCat uCat := fun F H Ts ts S σ a b x y Q s ⟨os, us, e1, e2, t1, t2, z, q⟩ => by
  obtain ⟨F1, p1, vs1, h1⟩ := s.swap.items e1
  rcases h1 with ⟨_, _, s1, ev1, _, k1, i1, _⟩ | ⟨h1, h2, _⟩
  · obtain ⟨F2, p2, vs2, h2⟩ := s1.swap.items e2
    rcases h2 with ⟨_, _, s2, ev2, _, k2, i2, _⟩ | ⟨h1, h2, _⟩
    · obtain ⟨F3, p3, vs3, h3⟩ := s2.pop.items ((O.fz_its a).trans e1)
      rcases h3 with ⟨f3, g3, s3, ev3, _, k3, i3, _⟩ | ⟨h1, h2, _⟩
      · subst ev2
        cases ev1
        cases ev3
        have i4 := i3.app (i2.mono f3 g3)
        refine ⟨p1, p2, vs3, vs2, rfl, rfl, k3 ((O.fz_isTrk a).trans t1), k2 t2, by rw [← i2.1, ← i3.1]; exact z, fun r n => let ⟨F4, _, s4⟩ := (s3.pop.pushN i4).mkL i4.1 (by rw [List.length_append]; exact z) n; q F4 _ _ s4⟩
      · rw [O.fz_isTrk, t1] at h2; cases h2
    · rw [t2] at h2; cases h2
  · rw [t1] at h2; cases h2
theorem se_cat (ha : SE X c W a pa) (hb : SE X c W b pb) : SE X c W (.BinOp a .Add b pos) (w2 pa pb uCat) := se_op op_cat fit_cat ha hb
/-- list(x) -/
def uLst : U1 := ⟨fun a Q => ∃ os, a.its = some os ∧ os.length ≤ sizeLine ∧ Q (mkL os), fun hq ⟨os, e, z, q⟩ => ⟨os, e, z, hq _ q⟩⟩
theorem fit_lst : FitA c (fun xs H Q => ∃ p ys, xs = [V.ref p] ∧ (SqL c.G.K H p ys ∨ SqT c.G.K H p ys) ∧ ∀ l, H l = none → Q (.ref l) (upd H l (.lst ys))) (uA1 uLst) := fun F H Ts ts S σ os vs Q s e ⟨a, ea, us, e1, z, q⟩ => by
  subst ea
  obtain ⟨v, rfl⟩ := len1 e
  obtain ⟨F', p, vs, h⟩ := Sv.items (o := a) (Ts := Ts) (ts := ts) s e1
  rcases h with ⟨_, _, s', ev, hs, _, hi, _⟩ | ⟨h1, h2, p, vs, ev, hs, hi⟩
  · subst ev
    refine ⟨p, vs, rfl, ?_, fun r n => let ⟨F4, _, s4⟩ := (s'.pop.pushN hi).mkL hi.1 z n; q F4 _ _ s4⟩
    by_cases hl : a.isL = true
    · rw [if_pos hl] at hs; exact .inl hs
    · rw [if_neg hl] at hs; exact .inr hs
  · subst ev
    exact ⟨p, vs, rfl, .inl hs, fun r n => let ⟨F4, _, s4⟩ := ((Sv.pop (o := a) s).pushN hi).mkL hi.1 z n; q F4 _ _ s4⟩
theorem se_list {p : Pos} {q : W1 (List O)} (hK : X.K = c.G.K) (hm : X.mg "list" = none) (ha : SA X c W [a] q) (hg : Gl X "list" := by rfl) (he : starEach [a] X.env = (false, eval a X.env) :: starEach [] X.env := by rfl) :
    SE X c W (.Call (.Name "list" p) [a] [] pos) (wA q (uA1 uLst)) := se_cT (x := "list") call_list_of (by rw [hK]; exact fit_lst) hg hm (by decide +kernel) ha (he := he)
end
end PL

/-! P5 -/
set_option Elab.async false
set_option linter.all false
set_option maxRecDepth 100000
set_option maxHeartbeats 4000000
/-! P5: targets, statements, loops, comprehensions. -/
namespace PL
open PySem PySem.Spec L2

/-! ### slots -/
theorem SlL.take {G : Gx} {F H : Hp} : ∀ {S : List (Option O)} {σ : L2.St} {B : List Addr} (i : Nat), SlL G F H S σ B →
    ∃ A B', SlL G F H (S.set i none) σ B' ∧ (A ++ B').Perm B ∧ ∀ o, S[i]? = some (some o) → ∃ v, σ[i]? = some (some v) ∧ Ow G F H o v A
  | [], σ, B, i, h => ⟨[], B, by simpa using h, List.Perm.refl _, fun o e => by simp at e⟩
  | none :: S, σ, B, 0, h => ⟨[], B, by simpa using h, List.Perm.refl _, fun o e => by simp at e⟩
  | some o :: S, _, _, 0, ⟨v, vr, B, C, e, eA, h, r⟩ => by
    subst e eA
    exact ⟨B, C, ⟨some v, vr, rfl, r⟩, List.Perm.refl _, fun o' e => by simp at e; subst e; exact ⟨v, rfl, h⟩⟩
  | none :: S, _, B, i + 1, ⟨x, τ, e, r⟩ => by
    subst e
    obtain ⟨A, B', h1, h2, h3⟩ := r.take i
    exact ⟨A, B', ⟨x, τ, rfl, h1⟩, h2, fun o e => by simpa using h3 o (by simpa using e)⟩
  | some o :: S, _, _, i + 1, ⟨v, vr, B, C, e, eA, h, r⟩ => by
    subst e eA
    obtain ⟨A, B', h1, h2, h3⟩ := r.take i
    refine ⟨A, B ++ B', ⟨v, vr, B, B', rfl, rfl, h, h1⟩, ?_, fun o e => by simpa using h3 o (by simpa using e)⟩
    have p1 : (A ++ (B ++ B')).Perm (B ++ (A ++ B')) := by
      rw [← List.append_assoc, ← List.append_assoc]
      exact List.Perm.append_right _ List.perm_append_comm
    exact p1.trans (List.Perm.append_left B h2)
theorem SlL.put {G : Gx} {F H : Hp} {o : O} {v : V} {A : List Addr} (h : Ow G F H o v A) : ∀ {S : List (Option O)} {σ : L2.St} {B : List Addr} (i : Nat), i < S.length → SlL G F H (S.set i none) σ B →
    ∃ B', SlL G F H (S.set i (some o)) (σ.set i (some v)) B' ∧ B'.Perm (A ++ B)
  | [], σ, B, i, hi, _ => by simp at hi
  | x :: S, σ, B, 0, hi, ⟨y, τ, e, r⟩ => by
    subst e
    exact ⟨A ++ B, ⟨v, τ, A, B, rfl, rfl, h, r⟩, List.Perm.refl _⟩
  | none :: S, _, B, i + 1, hi, ⟨x, τ, e, r⟩ => by
    subst e
    obtain ⟨B', h1, h2⟩ := SlL.put h i (by simpa using hi) r
    exact ⟨B', ⟨x, _, rfl, h1⟩, h2⟩
  | some u :: S, _, _, i + 1, hi, ⟨w, vr, B, C, e, eA, hu, r⟩ => by
    subst e eA
    obtain ⟨B', h1, h2⟩ := SlL.put h i (by simpa using hi) r
    refine ⟨B ++ B', ⟨w, _, B, B', rfl, rfl, hu, h1⟩, ?_⟩
    have p1 : (B ++ (A ++ C)).Perm (A ++ (B ++ C)) := by
      rw [← List.append_assoc, ← List.append_assoc]
      exact List.Perm.append_right _ List.perm_append_comm
    exact (List.Perm.append_left B h2).trans p1
section
variable {c : Cc} {F : Fz} {H : Hp} {Ts : List O} {ts : List V} {S : List (Option O)} {σ : L2.St}
/-- a slot is forgotten -/
theorem Sv.drop (s : Sv c F H Ts ts S σ) (i : Nat) : Sv c F H Ts ts (S.set i none) σ := by
  obtain ⟨A, C, hA, hC, nd, no, nA, nC⟩ := s.own
  obtain ⟨A1, C1, h1, h2, _⟩ := hC.take i
  have sub : C1.Sublist (A1 ++ C1) := List.sublist_append_right _ _
  have nd2 : (A ++ (A1 ++ C1)).Nodup := ((List.Perm.append_left A h2).nodup_iff).mpr nd
  have inC : ∀ a ∈ C1, a ∈ C := fun a ha => h2.mem_iff.mp (List.mem_append_right _ ha)
  refine ⟨s.ext, s.fb, s.bh, s.old, s.dom, A, C1, hA, h1, nd2.sublist (List.Sublist.append (List.Sublist.refl _) sub), fun a ha => no a ?_, nA, fun a ha => nC a (inC a ha)⟩
  rcases List.mem_append.mp ha with ha | ha
  · exact List.mem_append_left _ ha
  · exact List.mem_append_right _ (inC a ha)
/-- the temporary on top goes to a slot -/
theorem Sv.put {o : O} {v : V} (s : Sv c F H (o :: Ts) (v :: ts) S σ) (nb : o.nb = true) {i : Nat} (hi : i < S.length) : ∃ F' : Fz, F'.F = F.F ∧ Same F.B F'.B ∧ Sv c F' H Ts ts (S.set i (some o)) (σ.set i (some v)) := by
  obtain ⟨A, C, ⟨v', vr, A1, A2, e, eA, h, r⟩, hC, nd, no, nA, nC⟩ := (s.drop i).own
  cases e
  subst eA
  obtain ⟨C', h1, h2⟩ := SlL.put (h.ow nb) i hi hC
  have pm : (A2 ++ C').Perm (A1 ++ A2 ++ C) := by
    refine (List.Perm.append_left A2 h2).trans ?_
    rw [← List.append_assoc]
    exact List.Perm.append_right _ List.perm_append_comm
  have g := frz_same (F := F.B) (H := H) (A := A1) fun a ha => nA a (List.mem_append_left _ ha)
  rw [List.append_assoc] at nd
  have out : ∀ a ∈ A2 ++ C, a ∉ A1 := fun a ha h1 => (List.nodup_append.mp nd).2.2 a h1 a ha rfl
  rw [← List.append_assoc] at nd
  refine ⟨⟨F.F, PL.frz F.B H A1⟩, rfl, g, s.ext, s.fb.trans g, frz_sub s.bh, s.old, s.dom, A2, C', TmL.monoK (F := F) (F' := ⟨F.F, PL.frz F.B H A1⟩) (Same.refl F.F) g (.refl _) (fun a ha => ⟨(r.own a ha).1, rfl⟩) r, h1, pm.nodup_iff.mpr nd, fun a ha => no a (pm.mem_iff.mp ha), fun a ha => ?_, fun a ha => ?_⟩
  · exact (frz_out (out a (List.mem_append_left _ ha))).trans (nA a (List.mem_append_right _ ha))
  · show PL.frz F.B H A1 a = H a
    rcases List.mem_append.mp (h2.mem_iff.mp ha) with ha | ha
    · exact frz_in ha
    · exact (frz_out (out a (List.mem_append_right _ ha))).trans (nC a ha)
/-- a slot's value comes on top, the slot is forgotten -/
theorem Sv.move (s : Sv c F H Ts ts S σ) (nbT : ∀ o ∈ Ts, o.nb = true) {i : Nat} {o : O} (e : S[i]? = some (some o)) : ∃ (v : V) (F' : Fz), F'.F = F.F ∧ σ[i]? = some (some v) ∧ o.nb = true ∧ Sv c F' H (o :: Ts) (v :: ts) (S.set i none) σ := by
  obtain ⟨A, C, hA, hC, nd, no, nA, nC⟩ := s.own
  obtain ⟨A1, C1, h1, h2, h3⟩ := hC.take i
  obtain ⟨v, ev, h⟩ := h3 o e
  have pm : (A1 ++ A ++ C1).Perm (A ++ C) := by
    refine List.Perm.trans ?_ (List.Perm.append_left A h2)
    rw [← List.append_assoc]
    exact List.Perm.append_right _ List.perm_append_comm
  have nd' : (A1 ++ A ++ C1).Nodup := pm.nodup_iff.mpr nd
  -- the slot's lists are read by their owner alone
  obtain ⟨B, hB⟩ : ∃ B : Hp, ∀ a, B a = if a ∈ A1 then none else F.B a := ⟨_, fun _ => rfl⟩
  have bin : ∀ {a}, a ∈ A1 → B a = none := fun h => (hB _).trans (if_pos h)
  have bout : ∀ {a}, a ∉ A1 → B a = F.B a := fun h => (hB _).trans (if_neg h)
  have own1 := h.own
  refine ⟨v, ⟨F.F, B⟩, rfl, ev, ?_, s.ext, fun a u q => ?_, fun a u q => ?_, s.old, s.dom, A1 ++ A, C1, ⟨v, ts, A1, A, rfl, rfl, ?_, ?_⟩, h1, nd', fun a ha => no a (pm.mem_iff.mp ha), fun a ha => ?_, fun a ha => ?_⟩
  · match o, h with
    | .im _, _ => rfl
    | .ls _, _ => rfl
    | .tp _, _ => rfl
  · show B a = some u
    have : a ∉ A1 := fun z => by
      have := (own1 a z).1
      rw [show F.F a = some u from q] at this
      cases this
    rw [bout this]; exact s.fb a u q
  · have q' : B a = some u := q
    by_cases z : a ∈ A1
    · rw [bin z] at q'; cases q'
    · rw [bout z] at q'; exact s.bh a u q'
  · exact Ow.vw (F := ⟨F.F, B⟩) h
  · exact nbTm nbT hA
  · show B a = none
    by_cases z : a ∈ A1
    · exact bin z
    · rw [bout z]
      rcases List.mem_append.mp ha with ha | ha
      · exact absurd ha z
      · exact nA a ha
  · show B a = H a
    have z : a ∉ A1 := fun z => by
      rw [List.append_assoc] at nd'
      exact (List.nodup_append.mp nd').2.2 a z a (List.mem_append_right _ ha) rfl
    rw [bout z]; exact nC a (h2.mem_iff.mp (List.mem_append_right _ ha))
where
  nbTm {G : Gx} {F : Fz} {B H : Hp} : ∀ {Ts : List O} {ts : List V} {A : List Addr}, (∀ o ∈ Ts, o.nb = true) → TmL G F H Ts ts A → TmL G ⟨F.F, B⟩ H Ts ts A
    | [], _, _, _, h => h
    | o :: os, _, _, nb, ⟨v, vr, B, C, e, eA, h, r⟩ => ⟨v, vr, _, _, e, eA, Ow.vw (F := ⟨F.F, _⟩) (Vw.ow (F := F) (nb o List.mem_cons_self) h), nbTm (fun o ho => nb o (List.mem_cons_of_mem _ ho)) r⟩
theorem set_same {α : Type} : ∀ {l : List (Option α)} {i : Nat} {v : α}, l[i]? = some (some v) → l.set i (some v) = l
  | [], _, _, h => by simp at h
  | x :: l, 0, v, h => by simp at h; subst h; rfl
  | x :: l, i + 1, v, h => by simp only [List.set_cons_succ]; rw [set_same (by simpa using h)]
/-- a slot is frozen -/
theorem Sv.fzSlot (s : Sv c F H Ts ts S σ) (nbT : ∀ o ∈ Ts, o.nb = true) {i : Nat} {o : O} (e : S[i]? = some (some o)) : ∃ F', Sv c F' H Ts ts (S.set i (some (.im o.er))) σ := by
  obtain ⟨v, F1, _, ev, nb, s1⟩ := s.move nbT e
  obtain ⟨F', _, _, s2⟩ := s1.freeze nb
  have hi : i < (S.set i none).length := by
    rw [List.length_set]
    exact (List.getElem?_eq_some_iff.mp e).1
  obtain ⟨F2, _, _, s3⟩ := s2.put rfl hi
  rw [set_same ev, List.set_set] at s3
  exact ⟨F2, s3⟩
end

/-! ### statements -/
structure PEnds where
  nx : List (Option O) → Prop
  rt : O → Prop
  bk : List (Option O) → Prop := fun _ => False
  ct : List (Option O) → Prop := fun _ => False
  ex : List (Option O) → Ex → Prop
structure PEnds.Le (D D' : PEnds) : Prop where
  nx : ∀ S, D.nx S → D'.nx S
  rt : ∀ o, D.rt o → D'.rt o
  bk : ∀ S, D.bk S → D'.bk S
  ct : ∀ S, D.ct S → D'.ct S
  ex : ∀ S e, D.ex S e → D'.ex S e
theorem PEnds.Le.refl (D : PEnds) : D.Le D := ⟨fun _ h => h, fun _ h => h, fun _ h => h, fun _ h => h, fun _ _ h => h⟩
structure WS where
  run : List (Option O) → PEnds → Prop
  mono : ∀ {S : List (Option O)} {D D' : PEnds}, D.Le D' → run S D → run S D'
theorem WS.le (p : WS) {S : List (Option O)} {D D' : PEnds} (h : p.run S D) (l : D.Le D') : p.run S D' := p.mono l h
section
variable (c : Cc) (W : WX)
def endK (Ts : List O) (ts : List V) (D : Ends) : PEnds where
  nx := fun S => ∀ (F : Fz) H σ, Sv c F H Ts ts S σ → D.nx σ H
  rt := fun o => ∀ F H v S σ, Sv c F H (o :: Ts) (v :: ts) S σ → D.rt v H
  bk := fun S => ∀ (F : Fz) H σ, Sv c F H Ts ts S σ → D.bk σ H
  ct := fun S => ∀ (F : Fz) H σ, Sv c F H Ts ts S σ → D.ct σ H
  ex := fun S e => ∀ σ, exK c W Ts ts S σ e
def liftS (p : WS) : TS := fun D σ H => ∃ F S Ts ts, (∀ o ∈ Ts, o.nb = true) ∧ Sv c F H Ts ts S σ ∧ p.run S (endK c W Ts ts D)
end
abbrev SS (X : Cx) (c : Cc) (W : WX) (st : Stmt) (p : WS) : Prop := PS X st (liftS c W p)
abbrev SSs (X : Cx) (c : Cc) (W : WX) (st : List Stmt) (p : WS) : Prop := PSs X st (liftS c W p)
theorem exK.st {c : Cc} {W : WX} {Ts : List O} {ts : List V} {S : List (Option O)} {σ : L2.St} {e : Ex} (h : ∀ σ, exK c W Ts ts S σ e) : exK c W Ts ts S σ e := h σ
section
variable {X : Cx} {c : Cc} {W : WX} {e : Expr} {st : Stmt} {rest : List Stmt} {p q : WS} {pe : W1 O} {pos : Pos}
def sNext : WS := ⟨fun S D => D.nx S, fun l h => l.nx _ h⟩
def sSeq (p q : WS) : WS := ⟨fun S D => p.run S { D with nx := fun S' => q.run S' D }, fun {S D D'} l h => p.mono (D := { D with nx := fun S' => q.run S' D }) (D' := { D' with nx := fun S' => q.run S' D' }) ⟨fun S z => q.mono l z, l.rt, l.bk, l.ct, l.ex⟩ h⟩
theorem endK.Le {c : Cc} {W : WX} {Ts : List O} {ts : List V} {D D' : Ends} (h1 : ∀ σ H, D.nx σ H → D'.nx σ H) (h2 : ∀ v H, D.rt v H → D'.rt v H) (h3 : ∀ σ H, D.bk σ H → D'.bk σ H) (h4 : ∀ σ H, D.ct σ H → D'.ct σ H) : (endK c W Ts ts D).Le (endK c W Ts ts D') :=
  ⟨fun S h F H σ s => h1 _ _ (h F H σ s), fun o h F H v S σ s => h2 _ _ (h F H v S σ s), fun S h F H σ s => h3 _ _ (h F H σ s), fun S h F H σ s => h4 _ _ (h F H σ s), fun _ _ h => h⟩
theorem ss_nil : SSs X c W [] sNext := PSs.imp pss_nil fun D σ H ⟨F, S, Ts, ts, nb, s, h⟩ => h F H σ s
theorem ss_cons (h1 : SS X c W st p) (h2 : SSs X c W rest q) : SSs X c W (st :: rest) (sSeq p q) :=
  PSs.imp (pss_cons h1 h2) fun D σ H ⟨F, S, Ts, ts, nb, s, h⟩ => ⟨F, S, Ts, ts, nb, s, p.le (show p.run S { endK c W Ts ts D with nx := fun S' => q.run S' (endK c W Ts ts D) } from h) ⟨fun S' z F' H' σ' s' => ⟨F', S', Ts, ts, nb, s', z⟩, fun _ z => z, fun _ z => z, fun _ z => z, fun _ _ z => z⟩⟩
theorem ss_one (h1 : SS X c W st p) : SSs X c W [st] p := pss_one h1
def sBreak : WS := ⟨fun S D => D.bk S, fun l h => l.bk _ h⟩
def sCont : WS := ⟨fun S D => D.ct S, fun l h => l.ct _ h⟩
theorem ss_break : SS X c W (.Break pos) sBreak := PS.imp ps_break fun D σ H ⟨F, S, Ts, ts, nb, s, h⟩ => h F H σ s
theorem ss_continue : SS X c W (.Continue pos) sCont := PS.imp ps_continue fun D σ H ⟨F, S, Ts, ts, nb, s, h⟩ => h F H σ s
theorem ss_pass : SS X c W (.Pass pos) sNext := PS.imp ps_pass fun D σ H ⟨F, S, Ts, ts, nb, s, h⟩ => h F H σ s
theorem ss_doc {x j pos'} : SS X c W (.Expr (.Constant (.str x) j pos) pos') sNext := PS.imp ps_doc fun D σ H ⟨F, S, Ts, ts, nb, s, h⟩ => h F H σ s
def sNever : WS := ⟨fun _ _ => False, fun _ h => h⟩
theorem ss_never : SS X c W st sNever := PS.imp ps_never fun D σ H ⟨F, S, Ts, ts, nb, s, h⟩ => h
theorem sss_never : SSs X c W rest sNever := PSs.imp pss_never fun D σ H ⟨F, S, Ts, ts, nb, s, h⟩ => h
def sExpr (p : W1 O) : WS := ⟨fun S D => p.run S (fun _ => D.nx S) (D.ex S), fun l h => p.mono (fun _ z => l.nx _ z) (fun e z => l.ex _ e z) h⟩
theorem ss_expr (he : SE X c W e pe) (hs : swapsWith e none pos.line X.env = pure false := by rfl) : SS X c W (.Expr e pos) (sExpr pe) :=
  PS.imp (ps_expr he hs) fun D σ H ⟨F, S, Ts, ts, nb, s, h⟩ => ⟨F, S, Ts, ts, s, pe.mono (fun o z F' H' v s' => z F' H' σ s'.pop) (fun e z => exK.st z) h⟩
def sRet (p : W1 O) : WS := ⟨fun S D => p.run S D.rt (D.ex S), fun l h => p.mono l.rt (fun e z => l.ex _ e z) h⟩
theorem ss_ret (he : SE X c W e pe) : SS X c W (.Return (some e) pos) (sRet pe) :=
  PS.imp (ps_ret he) fun D σ H ⟨F, S, Ts, ts, nb, s, h⟩ => ⟨F, S, Ts, ts, s, pe.mono (fun o z F' H' v s' => z F' H' v S σ s') (fun e z => exK.st z) h⟩
def sRetN : WS := ⟨fun S D => D.rt O.n, fun l h => l.rt _ h⟩
theorem ss_retN : SS X c W (.Return none pos) sRetN := PS.imp ps_retN fun D σ H ⟨F, S, Ts, ts, nb, s, h⟩ => h F H .non S σ (s.pushIm rfl)
/-- return x: what the slot owns goes along -/
def sRetV (i : Nat) : WS := ⟨fun S D => ∃ o, S[i]? = some (some o) ∧ D.rt o, fun l ⟨o, e, h⟩ => ⟨o, e, l.rt _ h⟩⟩
theorem ss_retV (i : Nat) {x : Str} {pos2 : Pos} (hN : X.N[i]? = some x := by rfl) (hv : Vis X.env.scope x := by first | exact Or.inl rfl | exact Or.inr (Or.inl rfl) | exact Or.inr (Or.inr rfl))
    (hd : (x == ("__debug__" : Str)) = false := by decide) (hcd : (x == ("__classdict__" : Str)) = false := by decide) : SS X c W (.Return (some (.Name x pos2)) pos) (sRetV i) :=
  PS.imp (ps_ret (pe_var hN hv hd hcd)) fun D σ H ⟨F, S, Ts, ts, nb, s, o, e, h⟩ => by
    obtain ⟨v, F', _, ev, _, s1⟩ := s.move nb e
    exact ⟨v, ev, h F' H v _ σ s1⟩
def sIf (t : W1 Bool) (p q : WS) : WS := ⟨fun S D => t.run S (fun b => if b = true then p.run S D else q.run S D) (D.ex S), fun l h => t.mono (fun b z => by
  cases b
  · exact q.mono l z
  · exact p.mono l z) (fun e z => l.ex _ e z) h⟩
theorem ss_if {t : Expr} {a b : List Stmt} {pt : W1 Bool} (ht : ST X c W t pt) (ha : SSs X c W a p) (hb : SSs X c W b q) : SS X c W (.If t a b pos) (sIf pt p q) :=
  PS.imp (ps_if ht ha hb) fun D σ H ⟨F, S, Ts, ts, nb, s, h⟩ => ⟨F, S, Ts, ts, s, pt.mono (fun d z F' H' s' => by
    cases d
    · exact ⟨F', S, Ts, ts, nb, s', z⟩
    · exact ⟨F', S, Ts, ts, nb, s', z⟩) (fun e z => exK.st z) h⟩
/-- a slot is frozen, dropped (ahead of a statement; no row of the text) -/
def sFz (i : Nat) (p : WS) : WS := ⟨fun S D => ∃ o, S[i]? = some (some o) ∧ p.run (S.set i (some (.im o.er))) D, fun l ⟨o, e, h⟩ => ⟨o, e, p.mono l h⟩⟩
theorem ss_fz (i : Nat) (h : SS X c W st p) : SS X c W st (sFz i p) :=
  PS.imp h fun D σ H ⟨F, S, Ts, ts, nb, s, o, e, q⟩ => by
    obtain ⟨F', s'⟩ := s.fzSlot nb e
    exact ⟨F', _, Ts, ts, nb, s', q⟩
def sDrop (i : Nat) (p : WS) : WS := ⟨fun S D => p.run (S.set i none) D, fun l h => p.mono l h⟩
theorem ss_drop (i : Nat) (h : SS X c W st p) : SS X c W st (sDrop i p) :=
  PS.imp h fun D σ H ⟨F, S, Ts, ts, nb, s, q⟩ => ⟨F, _, Ts, ts, nb, s.drop i, q⟩

/-! ### targets -/
structure WG where
  run : O → List (Option O) → (List (Option O) → Prop) → Prop
  mono : ∀ {o S Q Q'}, (∀ S, Q S → Q' S) → run o S Q → run o S Q'
def liftG (c : Cc) (w : WG) : TG := fun v σ H Q => ∃ F S Ts ts o, Sv c F H (o :: Ts) (v :: ts) S σ ∧ w.run o S (fun S' => ∀ F' H' σ', Sv c F' H' Ts ts S' σ' → Q σ' H')
theorem PG.imp {X : Cx} {e : Expr} {t t' : TG} (h : PG X e t) (i : ∀ v σ H Q, t' v σ H Q → t v σ H Q) : PG X e t' := ⟨fun pins s σ H v u Q I r q => h.run pins s σ H v u Q I r (i v σ H Q q)⟩
abbrev SG (X : Cx) (c : Cc) (tg : Expr) (w : WG) : Prop := PG X tg (liftG c w)
def gN (i : Nat) : WG := ⟨fun o S Q => o.nb = true ∧ i < S.length ∧ Q (S.set i (some o)), fun hq ⟨a, b, h⟩ => ⟨a, b, hq _ h⟩⟩
theorem sg_N {i : Nat} {x : Str} (hN : X.N.Nodup) (hi : X.N[i]? = some x) (hx : Loc X.env.scope x) (hf : X.fn x = true ∨ X.env.scope.names.lookup x = some .local := by first | exact .inl rfl | exact .inr rfl | assumption) : SG X c (.Name x pos) (gN i) :=
  PG.imp (pg_name hN hi hx hf) fun v σ H Q ⟨F, S, Ts, ts, o, s, nb, hi, h⟩ => by
    obtain ⟨F', _, _, s'⟩ := s.put nb hi
    exact h F' H _ s'
/-- frozen: where the name is not changed in place -/
def gF (i : Nat) : WG := ⟨fun o S Q => o.nb = true ∧ i < S.length ∧ Q (S.set i (some (.im o.er))), fun hq ⟨a, b, h⟩ => ⟨a, b, hq _ h⟩⟩
theorem sg_F {i : Nat} {x : Str} (hN : X.N.Nodup) (hi : X.N[i]? = some x) (hx : Loc X.env.scope x) (hf : X.fn x = true ∨ X.env.scope.names.lookup x = some .local := by first | exact .inl rfl | exact .inr rfl | assumption) : SG X c (.Name x pos) (gF i) :=
  PG.imp (pg_name hN hi hx hf) fun v σ H Q ⟨F, S, Ts, ts, o, s, nb, hi, h⟩ => by
    obtain ⟨F', _, _, s'⟩ := s.freeze nb
    obtain ⟨F2, _, _, s2⟩ := s'.put rfl hi
    exact h F2 H _ s2
structure WGs where
  run : List O → List (Option O) → (List (Option O) → Prop) → Prop
  mono : ∀ {o S Q Q'}, (∀ S, Q S → Q' S) → run o S Q → run o S Q'
def liftGs (c : Cc) (w : WGs) : TGs := fun vs σ H Q => ∃ F S Ts ts os, Sv c F H (os ++ Ts) (vs ++ ts) S σ ∧ os.length = vs.length ∧ w.run os S (fun S' => ∀ F' H' σ', Sv c F' H' Ts ts S' σ' → Q σ' H')
theorem PGs.imp {X : Cx} {e : List Expr} {t t' : TGs} (h : PGs X e t) (i : ∀ v σ H Q, t' v σ H Q → t v σ H Q) : PGs X e t' := ⟨fun pins s σ H v u Q I r q => h.run pins s σ H v u Q I r (i v σ H Q q)⟩
abbrev SGs (X : Cx) (c : Cc) (tg : List Expr) (w : WGs) : Prop := PGs X tg (liftGs c w)
def gsN : WGs := ⟨fun os S Q => os = [] ∧ Q S, fun hq ⟨e, h⟩ => ⟨e, hq _ h⟩⟩
def gsC (g : WG) (gs : WGs) : WGs := ⟨fun os S Q => ∃ o r, os = o :: r ∧ g.run o S (fun S' => gs.run r S' Q), fun hq ⟨o, r, e, h⟩ => ⟨o, r, e, g.mono (fun S z => gs.mono hq z) h⟩⟩
theorem sgs_nil : SGs X c [] gsN := PGs.imp pgs_nil fun vs σ H Q ⟨F, S, Ts, ts, os, s, e, eo, h⟩ => by
  subst eo
  have : vs = [] := List.eq_nil_of_length_eq_zero e.symm
  subst this
  exact ⟨rfl, h F H σ s⟩
theorem sgs_cons {t : Expr} {es : List Expr} {g : WG} {gs : WGs} (h1 : SG X c t g) (h2 : SGs X c es gs) (hs : (assignEach (t :: es) X.env).map (·.2) = assign t X.env :: (assignEach es X.env).map (·.2) := by rfl) : SGs X c (t :: es) (gsC g gs) :=
  PGs.imp (pgs_cons h1 h2 hs) fun vs σ H Q ⟨F, S, Ts, ts, os, s, e, o, r, eo, h⟩ => by
    subst eo
    match vs, e, s with
    | v :: vr, e, s =>
      refine ⟨v, vr, rfl, F, S, r ++ Ts, vr ++ ts, o, s, g.mono (fun S' z F' H' σ' s' => ?_) h⟩
      exact ⟨F', S', Ts, ts, r, s', by simpa using e, z⟩
/-- (a, b, ..) = a tuple: its parts go apart -/
def O.parts : O → Option (List O)
  | .im (.tup ds) => some (ds.map .im)
  | .bo (.tup ds) => some (ds.map mkBo)
  | .tp os => some os
  | _ => none
def gT (n : Nat) (gs : WGs) : WG := ⟨fun o S Q => ∃ os, o.parts = some os ∧ os.length = n ∧ gs.run os S Q, fun hq ⟨os, e, n, h⟩ => ⟨os, e, n, gs.mono hq h⟩⟩
theorem OwL.tm {G : Gx} {F : Fz} {H : Hp} : ∀ {os : List O} {vs : List V} {A : List Addr}, OwL G F.F H os vs A → TmL G F H os vs A
  | [], _, _, h => h
  | o :: os, _, _, ⟨v, vr, B, C, e, eA, h, r⟩ => ⟨v, vr, B, C, e, eA, h.vw, r.tm⟩
theorem Sv.parts {c : Cc} {F : Fz} {H : Hp} {Ts : List O} {ts : List V} {S : List (Option O)} {σ : L2.St} {o : O} {v : V} {os : List O} (s : Sv c F H (o :: Ts) (v :: ts) S σ) (h : o.parts = some os) :
    ∃ p vs, v = .ref p ∧ H p = some (.tup vs) ∧ os.length = vs.length ∧ Sv c F H (os ++ Ts) (vs ++ ts) S σ := by
  match o, s, h with
  | .im (.tup ds), s, h =>
    cases h
    obtain ⟨p, vs, ev, q, z, r⟩ := s.topIm
    exact ⟨p, vs, ev, q, by rw [List.length_map]; exact r.length, s.pop.pushN (ItV.im r)⟩
  | .bo (.tup ds), s, h =>
    cases h
    obtain ⟨p, vs, ev, q, z, r⟩ := s.topBo
    exact ⟨p, vs, ev, q, by rw [List.length_map]; exact r.length, s.pop.pushN (ItV.bo r)⟩
  | .tp os', s, h =>
    have h := Option.some.inj (show some os' = some os from h)
    subst h
    obtain ⟨A, C, ⟨v', vr, A1, A2, e, eA, h, r⟩, hC, nd, no, nA, nC⟩ := s.own
    cases e
    subst eA
    obtain ⟨p, vs, ev, q, z, r'⟩ := (show Ow _ _ _ (.tp os') v A1 from h)
    exact ⟨p, vs, ev, q, (OwL.tm (F := F) r').len, s.ext, s.fb, s.bh, s.old, s.dom, A1 ++ A2, C, (OwL.tm (F := F) r').join r, hC, nd, no, nA, nC⟩
  | .im .non, s, h => cases h
  | .im (.bl _), s, h => cases h
  | .im (.int _), s, h => cases h
  | .im (.str _), s, h => cases h
  | .im (.lst _), s, h => cases h
  | .im (.kd _), s, h => cases h
  | .im (.scr _), s, h => cases h
  | .im (.obj _), s, h => cases h
  | .im (.exn _), s, h => cases h
  | .im .dic, s, h => cases h
  | .im (.lsa _ _), s, h => cases h
  | .bo .non, s, h => cases h
  | .bo (.bl _), s, h => cases h
  | .bo (.int _), s, h => cases h
  | .bo (.str _), s, h => cases h
  | .bo (.lst _), s, h => cases h
  | .bo (.kd _), s, h => cases h
  | .bo (.scr _), s, h => cases h
  | .bo (.obj _), s, h => cases h
  | .bo (.exn _), s, h => cases h
  | .bo .dic, s, h => cases h
  | .bo (.lsa _ _), s, h => cases h
  | .ls _, s, h => cases h
theorem sg_T {es : List Expr} {k n : Nat} {gs : WGs} (hc : X.calm = true) (h : SGs X c es gs) (hn : (assignEach es X.env).length = n := by rfl) (hst : (assignEach es X.env).findIdx? (·.1) = none := by rfl) : SG X c (.Tuple es k pos) (gT n gs) :=
  PG.imp (pg_tup hc h hn hst) fun v σ H Q ⟨F, S, Ts, ts, o, s, os, e, en, h⟩ => by
    obtain ⟨p, vs, ev, q, el, s'⟩ := s.parts e
    exact ⟨p, vs, ev, SqT.of q, el ▸ en, F, S, Ts, ts, os, s', el, h⟩
/-- target = e -/
def sAsg (p : W1 O) (g : WG) : WS := ⟨fun S D => p.run S (fun o => g.run o S D.nx) (D.ex S), fun l h => p.mono (fun o z => g.mono l.nx z) (fun e z => l.ex _ e z) h⟩
theorem ss_asg {tg e : Expr} {g : WG} (he : SE X c W e pe) (hg : SG X c tg g) (hs : swapsWithSole [tg] e pos.line X.env = pure false := by rfl) (hw : swappedStores [tg] e X.env = pure none := by rfl)
    (h1 : (assignEach [tg] X.env).map (·.2) = [assign tg X.env] := by rfl) : SS X c W (.Assign [tg] e pos) (sAsg pe g) :=
  PS.imp (ps_asg he hg hs hw h1) fun D σ H ⟨F, S, Ts, ts, nb, s, h⟩ => ⟨F, S, Ts, ts, s, pe.mono (fun o z F' H' v s' => ⟨F', S, Ts, ts, o, s', g.mono (fun S' z => z) z⟩) (fun e z => exK.st z) h⟩
theorem ss_set {i : Nat} {x : Str} {e : Expr} {pos' : Pos} {g : WG} (hg : g = gN i ∨ g = gF i) (hN : X.N.Nodup) (hi : X.N[i]? = some x) (hx : Loc X.env.scope x) (he : SE X c W e pe) (hs : swapsWith e (some (.Name x pos')) pos.line X.env = pure false := by rfl)
    (hf : X.fn x = true ∨ X.env.scope.names.lookup x = some .local := by first | exact .inl rfl | exact .inr rfl | assumption) : SS X c W (.Assign [.Name x pos'] e pos) (sAsg pe g) :=
  PS.imp (ps_set hN hi hx he hs hf) fun D σ H ⟨F, S, Ts, ts, nb, s, h⟩ => ⟨F, S, Ts, ts, s, pe.mono (fun o z F' H' v s' => by
    rcases hg with rfl | rfl
    · obtain ⟨n1, n2, z⟩ := z
      obtain ⟨F3, _, _, s3⟩ := s'.put n1 n2
      exact z F3 H' _ s3
    · obtain ⟨n1, n2, z⟩ := z
      obtain ⟨F2, _, _, s2⟩ := s'.freeze n1
      obtain ⟨F3, _, _, s3⟩ := s2.put rfl n2
      exact z F3 H' _ s3) (fun e z => exK.st z) h⟩
/-- a, b = e1, e2 with plain local names -/
def sPar (i j : Nat) (q : W1 (List O)) : WS := ⟨fun S D => q.run S (fun os => ∃ a b, os = [a, b] ∧ a.nb = true ∧ b.nb = true ∧ i < S.length ∧ j < S.length ∧ D.nx ((S.set i (some a)).set j (some b))) (D.ex S),
  fun l h => q.mono (fun os ⟨a, b, e, n1, n2, h1, h2, z⟩ => ⟨a, b, e, n1, n2, h1, h2, l.nx _ z⟩) (fun e z => l.ex _ e z) h⟩
theorem ss_par {i j : Nat} {x y : Str} {a b : Expr} {qa : W1 (List O)} {px py pt : Pos} {kt k2 pt2} (hc : X.calm = true) (hN : X.N.Nodup) (hi : X.N[i]? = some x) (hj : X.N[j]? = some y) (hij : i ≠ j)
    (hx : X.env.scope.names.lookup x = some .local) (hy : X.env.scope.names.lookup y = some .local) (ha : SA X c W [a, b] qa)
    (hw : swappedStores [.Tuple [.Name x px, .Name y py] kt pt] (.Tuple [a, b] k2 pt2) X.env = pure (some [x, y]))
    (hs : swapsWithSole [.Tuple [.Name x px, .Name y py] kt pt] (.Tuple [a, b] k2 pt2) pos.line X.env = pure false := by rfl) :
    SS X c W (.Assign [.Tuple [.Name x px, .Name y py] kt pt] (.Tuple [a, b] k2 pt2) pos) (sPar i j qa) :=
  PS.imp (ps_par hc hN hi hj hij hx hy ha hw hs) fun D σ H ⟨F, S, Ts, ts, nb, s, h⟩ => ⟨F, S, Ts, ts, s, qa.mono (fun os ⟨u, w, eo, n1, n2, l1, l2, z⟩ F' H' vs s' e => by
    subst eo
    obtain ⟨v1, v2, rfl⟩ := len2 e
    have s1 : Sv c F' H' (u :: w :: Ts) (v1 :: v2 :: ts) S σ := s'
    obtain ⟨F2, _, _, s2⟩ := s1.put n1 l1
    obtain ⟨F3, _, _, s3⟩ := s2.put n2 (by rw [List.length_set]; exact l2)
    exact ⟨v1, v2, rfl, z F3 H' _ s3⟩) (fun e z => exK.st z) h⟩
/-- x += e on whole numbers -/
def sAug (i : Nat) (f : Int → Int → Int) (p : W1 O) : WS := ⟨fun S D => ∃ n, S[i]? = some (some (O.i n)) ∧ p.run S (fun o => ∃ m, o = O.i m ∧ D.nx (S.set i (some (O.i (f n m))))) (D.ex S),
  fun l ⟨n, e, h⟩ => ⟨n, e, p.mono (fun o ⟨m, e, z⟩ => ⟨m, e, l.nx _ z⟩) (fun e z => l.ex _ e z) h⟩⟩
theorem ss_aug {i : Nat} {x : Str} {e : Expr} {op : Operator} {f : Int → Int → Int} {pos' : Pos} (hN : X.N.Nodup) (hi : X.N[i]? = some x) (hx : Loc X.env.scope x) (he : SE X c W e pe) (ho : PIp X op (ipI f))
    (hf : X.fn x = true ∨ X.env.scope.names.lookup x = some .local := by first | exact .inl rfl | exact .inr rfl | assumption) : SS X c W (.AugAssign (.Name x pos') op e pos) (sAug i f pe) :=
  PS.imp (ps_aug hN hi hx he ho hf) fun D σ H ⟨F, S, Ts, ts, nb, s, n, en, h⟩ => by
    obtain ⟨v, _, _, ev, _, s0⟩ := s.move nb en
    have e0 : v = .int n := s0.int
    subst e0
    have l : i < S.length := (List.getElem?_eq_some_iff.mp en).1
    exact ⟨_, ev, F, S, Ts, ts, s, pe.mono (fun o ⟨m, eo, z⟩ F' H' w s' => by
      subst eo
      obtain ⟨F2, _, _, s2⟩ := (s'.pop.pushIm (d := .int (f n m)) (v := .int (f n m)) rfl).put rfl l
      exact ⟨n, m, rfl, s'.int, z F2 H' _ s2⟩) (fun e z => exK.st z) h⟩

/-! ### while -/
def sWhile (t : W1 Bool) (p : WS) : WS := ⟨fun S D => ∃ I : Nat → List (Option O) → Prop, (∃ m, I m S) ∧ ∀ m S, I m S → t.run S (fun b => if b = true then p.run S ⟨fun S' => ∃ m', m' < m ∧ I m' S', D.rt, D.nx, fun S' => ∃ m', m' < m ∧ I m' S', D.ex⟩ else D.nx S) (D.ex S),
  fun l ⟨I, h0, h⟩ => ⟨I, h0, fun m S i => t.mono (fun b z => by
    cases b
    · rw [if_neg Bool.false_ne_true] at z ⊢
      exact l.nx _ z
    · rw [if_pos rfl] at z ⊢
      exact p.le z ⟨fun _ z => z, l.rt, l.nx, fun _ z => z, l.ex⟩) (fun e z => l.ex _ e z) (h m S i)⟩⟩
theorem ss_while {t : Expr} {body : List Stmt} {pt : W1 Bool} (hp : PassesOwn (model X.prog X.w) X.A X.env X.xe) (ht : ST X c W t pt) (hb : SSs X c W body p) : SS X c W (.While t body [] pos) (sWhile pt p) :=
  PS.imp (ps_while hp ht hb) fun D σ H ⟨F, S, Ts, ts, nb, s, I, ⟨m, h0⟩, h⟩ => by
    refine ⟨fun m σ H => ∃ (F : Fz) (S : List (Option O)), Sv c F H Ts ts S σ ∧ I m S, ⟨m, F, S, s, h0⟩, ?_⟩
    rintro m σ H ⟨F, S, s, i⟩
    refine ⟨F, S, Ts, ts, s, pt.mono (fun b z F' H' s' => ?_) (fun e z => exK.st z) (h m S i)⟩
    cases b
    · rw [if_neg Bool.false_ne_true] at z ⊢
      exact z F' H' σ s'
    · rw [if_pos rfl] at z ⊢
      refine ⟨fun σ' H' => ∃ m', m' < m ∧ ∃ (F : Fz) (S : List (Option O)), Sv c F H' Ts ts S σ' ∧ I m' S, fun σ' H' ⟨m', hm, z⟩ => ⟨m', hm, z⟩, F', S, Ts, ts, nb, s', p.le z ⟨?_, fun _ z => z, fun _ z => z, ?_, fun _ _ z => z⟩⟩
      · exact fun S' ⟨m', hm, i'⟩ F'' H'' σ'' s'' => ⟨m', hm, F'', S', s'', i'⟩
      · exact fun S' ⟨m', hm, i'⟩ F'' H'' σ'' s'' => ⟨m', hm, F'', S', s'', i'⟩
end
end PL

/-! P6 -/
set_option Elab.async false
set_option linter.all false
set_option maxRecDepth 100000
set_option maxHeartbeats 4000000
/-! P6: what is walked; for; comprehensions. -/
namespace PL
open PySem PySem.Spec L2

/-- what is walked: the sources (kept as temporaries), the items -/
structure Wk where
  srcs : List O
  items : List O
def WalkOk (c : Cc) (J : It) (w : Wk) (vs : List V) : Prop := w.items.length ≤ sizeLine ∧ ∀ F H Ts ts S σ, Sv c F H (w.srcs ++ Ts) (vs ++ ts) S σ →
  (∀ i, w.items.length ≤ i → J.stop i H) ∧ ∀ i o, w.items[i]? = some o → J.go i H ∧ ∀ x H', J.yld i H x H' → ∃ F', Sv c F' H' (o :: (w.srcs ++ Ts)) (x :: (vs ++ ts)) S σ
def liftI (c : Cc) (W : WX) (p : W1 Wk) : TI := fun σ H R => ∃ F S Ts ts, Sv c F H Ts ts S σ ∧ p.run S (fun w => ∀ F' H' J vs, Sv c F' H' (w.srcs ++ Ts) (vs ++ ts) S σ → w.srcs.length = vs.length → WalkOk c J w vs → R J H') (exK c W Ts ts S σ)
abbrev SI (X : Cx) (c : Cc) (W : WX) (tg e : Expr) (p : W1 Wk) : Prop := PI X tg e (liftI c W p)
section
variable {X : Cx} {c : Cc} {W : WX} {tg a b e : Expr} {pa pb : W1 O} {q : W1 (List O)} {pos : Pos}
theorem ixs {α : Type} {l : List α} {i : Nat} {x : α} (h : l[i]? = some x) : i < l.length := (List.getElem?_eq_some_iff.mp h).1
/-- a list -/
def wIt (p : W1 O) : W1 Wk := ⟨fun S Q E => p.run S (fun o => ∃ os, o.its = some os ∧ o.isTrk = true ∧ Q ⟨[o.fz], os⟩) E, fun hq he h => p.mono (fun o ⟨os, e, t, q⟩ => ⟨os, e, t, hq _ q⟩) he h⟩
theorem O.fz_fz (o : O) : o.fz.fz = o.fz := by
  match o with
  | .im _ => rfl
  | .bo _ => rfl
  | .ls os => rfl
  | .tp os => rfl
theorem walk_list {o : O} {os : List O} {p : Addr} (h : o.its = some os) (t : o.isTrk = true) (z : os.length ≤ sizeLine) : WalkOk c (Itl c.G.K p) ⟨[o.fz], os⟩ [.ref p] := by
  refine ⟨z, fun F H Ts ts S σ s => ?_⟩
  have s0 : Sv c F H (o.fz :: Ts) (.ref p :: ts) S σ := s
  obtain ⟨F', p', vs, h1⟩ := s0.items ((O.fz_its o).trans h)
  rcases h1 with ⟨_, _, s1, ev, hs, _, ⟨el, hi⟩, _⟩ | ⟨_, h2, _⟩
  · cases ev
    rw [if_pos (O.isTrk_isL ((O.fz_isTrk o).trans t))] at hs
    refine ⟨fun i hi' => ⟨vs, hs, by rw [← el]; exact hi'⟩, fun i u hu => ?_⟩
    obtain ⟨v, hv, hw⟩ := hi i u hu
    refine ⟨⟨vs, v, hs, hv⟩, fun x H' ⟨eH, y⟩ => ?_⟩
    subst eH
    have := y vs hs
    rw [hv] at this
    cases this
    rw [O.fz_fz] at s1
    exact ⟨F', s1.push hw⟩
  · rw [O.fz_isTrk, t] at h2; cases h2
theorem si_list (hK : X.K = c.G.K) (ha : SE X c W a pa) : SI X c W tg a (wIt pa) :=
  PI.imp (pi_list ha) fun σ H R ⟨F, S, Ts, ts, s, h⟩ => ⟨F, S, Ts, ts, s, pa.mono (fun o ⟨os, e, t, q⟩ F1 H1 v s1 => by
    obtain ⟨F', p, vs, h1⟩ := s1.items e
    rcases h1 with ⟨_, _, s2, ev, hs, _, hi, z⟩ | ⟨_, h2, _⟩
    · subst ev
      rw [if_pos (O.isTrk_isL t)] at hs
      rw [hK]
      exact ⟨p, rfl, ⟨vs, hs⟩, q F' H1 _ [.ref p] s2 rfl (walk_list e t z)⟩
    · rw [t] at h2; cases h2) (fun _ z => z) h⟩
/-- range -/
def intL (lo : Int) (n : Nat) : List O := (List.range n).map fun i : Nat => O.i (lo + (i : Int))
theorem intL_len (lo : Int) (n : Nat) : (intL lo n).length = n := by simp [intL]
theorem intL_get {lo : Int} {n i : Nat} {o : O} (h : (intL lo n)[i]? = some o) : i < n ∧ o = O.i (lo + (i : Int)) := by
  have hi := ixs h
  rw [intL_len] at hi
  refine ⟨hi, ?_⟩
  unfold intL at h
  rw [List.getElem?_map, List.getElem?_range hi] at h
  exact (Option.some.inj h).symm
theorem walk_range {lo : Int} {n : Nat} (z : n ≤ sizeLine) : WalkOk c (Itr lo n) ⟨[], intL lo n⟩ [] := by
  refine ⟨by rw [intL_len]; exact z, fun F H Ts ts S σ s => ⟨fun i hi => by rw [intL_len] at hi; exact hi, fun i o ho => ?_⟩⟩
  obtain ⟨h1, h2⟩ := intL_get ho
  subst h2
  refine ⟨h1, fun x H' ⟨eH, y⟩ => ?_⟩
  subst eH y
  exact ⟨F, s.pushIm rfl⟩
def wR1 (q : W1 (List O)) : W1 Wk := ⟨fun S Q E => q.run S (fun os => ∃ n, os = [O.i n] ∧ -(2 ^ 62) ≤ n ∧ n ≤ 16777216 ∧ Q ⟨[], intL 0 n.toNat⟩) E, fun hq he h => q.mono (fun os ⟨n, e, h1, h2, q⟩ => ⟨n, e, h1, h2, hq _ q⟩) he h⟩
def wR2 (q : W1 (List O)) : W1 Wk := ⟨fun S Q E => q.run S (fun os => ∃ m n, os = [O.i m, O.i n] ∧ (-(2 ^ 61) ≤ m ∧ m < 2 ^ 61 ∧ -(2 ^ 61) ≤ n ∧ n < 2 ^ 61) ∧ n - m ≤ 16777216 ∧ Q ⟨[], intL m (n - m).toNat⟩) E, fun hq he h => q.mono (fun os ⟨m, n, e, h1, h2, q⟩ => ⟨m, n, e, h1, h2, hq _ q⟩) he h⟩
theorem szl {n : Int} (h : n ≤ 16777216) : n.toNat ≤ sizeLine := by rw [sizeLine_eq]; omega
theorem si_range1 {p : Pos} (hm : X.mg "range" = none) (ha : SA X c W [a] q) (hg : Gl X "range" := by rfl) (hs : starEach [a] X.env = [(false, eval a X.env)] := by rfl) : SI X c W tg (.Call (.Name "range" p) [a] [] pos) (wR1 q) :=
  PI.imp (pi_range1 hg hm ha hs) fun σ H R ⟨F, S, Ts, ts, s, h⟩ => ⟨F, S, Ts, ts, s, q.mono (fun os ⟨n, e, h1, h2, q⟩ F1 H1 vs s1 el => by
    subst e
    obtain ⟨v, rfl⟩ := len1 el
    have s2 : Sv c F1 H1 (O.i n :: Ts) (v :: ts) S σ := s1
    exact ⟨n, by rw [s2.int], h1, Int.lt_of_le_of_lt h2 (by decide), q F1 H1 _ [] s2.pop rfl (walk_range (szl h2))⟩) (fun _ z => z) h⟩
theorem si_range2 {p : Pos} (hm : X.mg "range" = none) (ha : SA X c W [a, b] q) (hg : Gl X "range" := by rfl) (hs : starEach [a, b] X.env = [(false, eval a X.env), (false, eval b X.env)] := by rfl) (hs2 : starEach [b] X.env = [(false, eval b X.env)] := by rfl) :
    SI X c W tg (.Call (.Name "range" p) [a, b] [] pos) (wR2 q) :=
  PI.imp (pi_range2 hg hm ha hs hs2) fun σ H R ⟨F, S, Ts, ts, s, h⟩ => ⟨F, S, Ts, ts, s, q.mono (fun os ⟨m, n, e, ⟨h1, h2, h3, h4⟩, h5, q⟩ F1 H1 vs s1 el => by
    subst e
    obtain ⟨v, w, rfl⟩ := len2 el
    have s2 : Sv c F1 H1 (O.i m :: O.i n :: Ts) (v :: w :: ts) S σ := s1
    have e1 := s2.int
    have e2 := s2.pop.int
    subst e1 e2
    exact ⟨m, n, rfl, ⟨by omega, by omega, by omega, by omega⟩, q F1 H1 _ [] s2.pop.pop rfl (walk_range (szl h5))⟩) (fun _ z => z) h⟩
/-- zip of two lists -/
def zipT : List O → List O → List O := List.zipWith fun x y => mkT [x, y]
def wZip (q : W1 (List O)) : W1 Wk := ⟨fun S Q E => q.run S (fun os => ∃ a b xs ys, os = [a, b] ∧ a.its = some xs ∧ b.its = some ys ∧ a.isTrk = true ∧ b.isTrk = true ∧ Q ⟨[a.fz, b.fz], zipT xs ys⟩) E,
  fun hq he h => q.mono (fun os ⟨a, b, xs, ys, e, e1, e2, t1, t2, q⟩ => ⟨a, b, xs, ys, e, e1, e2, t1, t2, hq _ q⟩) he h⟩
theorem Sv.two {F : Fz} {H : Hp} {Ts : List O} {ts : List V} {S : List (Option O)} {σ : L2.St} {a b : O} {x y : V} {xs ys : List O} (s : Sv c F H (a :: b :: Ts) (x :: y :: ts) S σ) (h1 : a.its = some xs) (h2 : b.its = some ys) (t1 : a.isTrk = true) (t2 : b.isTrk = true) :
    ∃ F' p q us vs, Sv c F' H (a.fz :: b.fz :: Ts) (x :: y :: ts) S σ ∧ x = .ref p ∧ y = .ref q ∧ SqL c.G.K H p us ∧ SqL c.G.K H q vs ∧ ItV c.G F' H xs us ∧ ItV c.G F' H ys vs ∧ xs.length ≤ sizeLine ∧ ys.length ≤ sizeLine := by
  obtain ⟨F1, q, vs, k1⟩ := s.swap.items h2
  rcases k1 with ⟨_, _, s1, ev1, hs1, _, i1, z1⟩ | ⟨_, k2, _⟩
  · obtain ⟨F2, p, us, k2⟩ := s1.swap.items h1
    rcases k2 with ⟨f2, g2, s2, ev2, hs2, _, i2, z2⟩ | ⟨_, k2, _⟩
    · rw [if_pos (O.isTrk_isL t2)] at hs1
      rw [if_pos (O.isTrk_isL t1)] at hs2
      exact ⟨F2, p, q, us, vs, s2, ev2, ev1, hs2, hs1, i2, i1.mono f2 g2, z2, z1⟩
    · rw [t1] at k2; cases k2
  · rw [t2] at k2; cases k2
theorem walk_zip {a b : O} {xs ys : List O} {p r : Addr} (h1 : a.its = some xs) (h2 : b.its = some ys) (t1 : a.isTrk = true) (t2 : b.isTrk = true) (z : xs.length ≤ sizeLine) : WalkOk c (Itz c.G.K p r) ⟨[a.fz, b.fz], zipT xs ys⟩ [.ref p, .ref r] := by
  refine ⟨?_, fun F H Ts ts S σ s => ?_⟩
  · show (List.zipWith _ xs ys).length ≤ _
    rw [List.length_zipWith]
    exact Nat.le_trans (Nat.min_le_left _ _) z
  · have s0 : Sv c F H (a.fz :: b.fz :: Ts) (.ref p :: .ref r :: ts) S σ := s
    obtain ⟨F', p', r', us, vs, s1, e1, e2, hs1, hs2, i1, i2, _, _⟩ := s0.two ((O.fz_its a).trans h1) ((O.fz_its b).trans h2) ((O.fz_isTrk a).trans t1) ((O.fz_isTrk b).trans t2)
    cases e1
    cases e2
    rw [O.fz_fz, O.fz_fz] at s1
    refine ⟨fun i hi => ?_, fun i o ho => ?_⟩
    · have hi' : (List.zipWith (fun x y => mkT [x, y]) xs ys).length ≤ i := hi
      rw [List.length_zipWith, i1.1, i2.1] at hi'
      exact ⟨us, vs, hs1, hs2, by omega⟩
    · have ho' : (List.zipWith (fun x y => mkT [x, y]) xs ys)[i]? = some o := ho
      rw [List.getElem?_zipWith] at ho'
      cases ex : xs[i]? with
      | none => rw [ex] at ho'; simp at ho'
      | some u =>
        cases ey : ys[i]? with
        | none => rw [ex, ey] at ho'; simp at ho'
        | some w =>
          rw [ex, ey] at ho'
          have eo : mkT [u, w] = o := by simpa using ho'
          subst eo
          obtain ⟨x, hx, hxv⟩ := i1.2 i u ex
          obtain ⟨y, hy, hyv⟩ := i2.2 i w ey
          refine ⟨⟨us, vs, x, y, hs1, hs2, hx, hy⟩, fun v H' ⟨T, x', y', ev, hT, eH, h3, h4⟩ => ?_⟩
          have q1 := h3 us hs1
          have q2 := h4 vs hs2
          rw [hx] at q1
          rw [hy] at q2
          cases q1
          cases q2
          subst ev eH
          have s3 : Sv c F' H ([u, w] ++ (a.fz :: b.fz :: Ts)) ([x, y] ++ (.ref p :: .ref r :: ts)) S σ := (s1.push hyv).push hxv
          obtain ⟨F2, _, s4⟩ := s3.mkT rfl (by show 2 ≤ sizeLine; decide) hT
          exact ⟨F2, s4⟩
theorem si_zip {p tpos : Pos} {elts : List Expr} {kk : Nat} (hK : X.K = c.G.K) (hm : X.mg "zip" = none) (ha : SA X c W [a, b] q) (hg : Gl X "zip" := by rfl) (hs : starEach [a, b] X.env = (false, eval a X.env) :: starEach [b] X.env := by rfl) (hpl : (backTo pos (starEach [b] X.env)).any (·.1) = false := by rfl) :
    SI X c W (.Tuple elts kk tpos) (.Call (.Name "zip" p) [a, b] [] pos) (wZip q) :=
  PI.imp (pi_zip hg hm ha hs hpl) fun σ H R ⟨F, S, Ts, ts, s, h⟩ => ⟨F, S, Ts, ts, s, q.mono (fun os ⟨a, b, xs, ys, e, e1, e2, t1, t2, q⟩ F1 H1 vs s1 el => by
    subst e
    obtain ⟨v, w, rfl⟩ := len2 el
    obtain ⟨F', p, r, us, vs, s2, ev, ew, hs1, hs2, i1, i2, z1, z2⟩ := Sv.two (a := a) (b := b) s1 e1 e2 t1 t2
    subst ev ew
    rw [hK]
    exact ⟨p, r, us, vs, rfl, hs1, hs2, q F' H1 _ [.ref p, .ref r] s2 rfl (walk_zip e1 e2 t1 t2 z1)⟩) (fun _ z => z) h⟩
/-- enumerate of a list -/
def enumT (os : List O) : List O := (List.range os.length).zipWith (fun i o => mkT [O.i (i : Nat), o]) os
def wEnum (q : W1 (List O)) : W1 Wk := ⟨fun S Q E => q.run S (fun os => ∃ a xs, os = [a] ∧ a.its = some xs ∧ a.isTrk = true ∧ Q ⟨[a.fz], enumT xs⟩) E,
  fun hq he h => q.mono (fun os ⟨a, xs, e, e1, t1, q⟩ => ⟨a, xs, e, e1, t1, hq _ q⟩) he h⟩
theorem enumT_len (os : List O) : (enumT os).length = os.length := by simp [enumT]
theorem enumT_get {os : List O} {i : Nat} {o : O} (h : (enumT os)[i]? = some o) : ∃ u, os[i]? = some u ∧ o = mkT [O.i (i : Nat), u] := by
  have hi := ixs h
  rw [enumT_len] at hi
  refine ⟨os[i], List.getElem?_eq_getElem hi, ?_⟩
  unfold enumT at h
  rw [List.getElem?_zipWith, List.getElem?_range hi, List.getElem?_eq_getElem hi] at h
  simpa using h.symm
theorem walk_enum {a : O} {xs : List O} {p : Addr} (h1 : a.its = some xs) (t1 : a.isTrk = true) (z : xs.length ≤ sizeLine) : WalkOk c (Ite c.G.K p) ⟨[a.fz], enumT xs⟩ [.ref p] := by
  refine ⟨by rw [enumT_len]; exact z, fun F H Ts ts S σ s => ?_⟩
  have s0 : Sv c F H (a.fz :: Ts) (.ref p :: ts) S σ := s
  obtain ⟨F', p', vs, h2⟩ := s0.items ((O.fz_its a).trans h1)
  rcases h2 with ⟨_, _, s1, ev, hs, _, ⟨el, hi⟩, _⟩ | ⟨_, h2, _⟩
  · cases ev
    rw [if_pos (O.isTrk_isL ((O.fz_isTrk a).trans t1))] at hs
    rw [O.fz_fz] at s1
    refine ⟨fun i hi' => ⟨vs, hs, by rw [← el]; rw [enumT_len] at hi'; exact hi'⟩, fun i o ho => ?_⟩
    obtain ⟨u, hu, eo⟩ := enumT_get ho
    subst eo
    obtain ⟨v, hv, hw⟩ := hi i u hu
    refine ⟨⟨vs, v, hs, hv⟩, fun x H' ⟨T, x', ev, hT, eH, y⟩ => ?_⟩
    have := y vs hs
    rw [hv] at this
    cases this
    subst ev eH
    have s3 : Sv c F' H ([O.i (i : Nat), u] ++ (a.fz :: Ts)) ([.int (i : Nat), v] ++ (.ref p :: ts)) S σ := (s1.push hw).pushIm (d := .int (i : Nat)) rfl
    obtain ⟨F2, _, s4⟩ := s3.mkT rfl (by show 2 ≤ sizeLine; decide) hT
    exact ⟨F2, s4⟩
  · rw [O.fz_isTrk, t1] at h2; cases h2
theorem si_enum {p tpos : Pos} {elts : List Expr} {kk : Nat} (hK : X.K = c.G.K) (hm : X.mg "enumerate" = none) (ha : SA X c W [a] q) (hg : Gl X "enumerate" := by rfl) (hs : starEach [a] X.env = [(false, eval a X.env)] := by rfl) :
    SI X c W (.Tuple elts kk tpos) (.Call (.Name "enumerate" p) [a] [] pos) (wEnum q) :=
  PI.imp (pi_enum hg hm ha hs) fun σ H R ⟨F, S, Ts, ts, s, h⟩ => ⟨F, S, Ts, ts, s, q.mono (fun os ⟨a, xs, e, e1, t1, q⟩ F1 H1 vs s1 el => by
    subst e
    obtain ⟨v, rfl⟩ := len1 el
    obtain ⟨F', p, us, h1⟩ := Sv.items (o := a) (Ts := Ts) (ts := ts) s1 e1
    rcases h1 with ⟨_, _, s2, ev, hs, _, hi, z⟩ | ⟨_, h2, _⟩
    · subst ev
      rw [if_pos (O.isTrk_isL t1)] at hs
      rw [hK]
      exact ⟨p, us, rfl, hs, q F' H1 _ [.ref p] s2 rfl (walk_enum e1 t1 z)⟩
    · rw [t1] at h2; cases h2) (fun _ z => z) h⟩
/-- reversed of a list -/
def wRev (q : W1 (List O)) : W1 Wk := ⟨fun S Q E => q.run S (fun os => ∃ a xs, os = [a] ∧ a.its = some xs ∧ a.isTrk = true ∧ Q ⟨[a.fz], xs.reverse⟩) E,
  fun hq he h => q.mono (fun os ⟨a, xs, e, e1, t1, q⟩ => ⟨a, xs, e, e1, t1, hq _ q⟩) he h⟩
theorem walk_rev {a : O} {xs : List O} {p : Addr} (h1 : a.its = some xs) (t1 : a.isTrk = true) (z : xs.length ≤ sizeLine) : WalkOk c (Itv c.G.K p xs.length) ⟨[a.fz], xs.reverse⟩ [.ref p] := by
  refine ⟨by rw [List.length_reverse]; exact z, fun F H Ts ts S σ s => ?_⟩
  have s0 : Sv c F H (a.fz :: Ts) (.ref p :: ts) S σ := s
  obtain ⟨F', p', vs, h2⟩ := s0.items ((O.fz_its a).trans h1)
  rcases h2 with ⟨_, _, s1, ev, hs, _, ⟨el, hi⟩, _⟩ | ⟨_, h2, _⟩
  · cases ev
    rw [if_pos (O.isTrk_isL ((O.fz_isTrk a).trans t1))] at hs
    rw [O.fz_fz] at s1
    refine ⟨fun i hi' => by rw [List.length_reverse] at hi'; exact hi', fun i o ho => ?_⟩
    have hl := ixs ho
    rw [List.length_reverse] at hl
    rw [List.getElem?_reverse hl] at ho
    obtain ⟨v, hv, hw⟩ := hi _ o ho
    refine ⟨⟨hl, vs, v, hs, hv⟩, fun x H' ⟨eH, y⟩ => ?_⟩
    have := y vs hs
    rw [hv] at this
    cases this
    subst eH
    exact ⟨F', s1.push hw⟩
  · rw [O.fz_isTrk, t1] at h2; cases h2
theorem si_rev {p : Pos} (hK : X.K = c.G.K) (hm : X.mg "reversed" = none) (ha : SA X c W [a] q) (hg : Gl X "reversed" := by rfl) (hs : starEach [a] X.env = [(false, eval a X.env)] := by rfl) : SI X c W tg (.Call (.Name "reversed" p) [a] [] pos) (wRev q) :=
  PI.imp (pi_reversed hg hm ha hs) fun σ H R ⟨F, S, Ts, ts, s, h⟩ => ⟨F, S, Ts, ts, s, q.mono (fun os ⟨a, xs, e, e1, t1, q⟩ F1 H1 vs s1 el => by
    subst e
    obtain ⟨v, rfl⟩ := len1 el
    obtain ⟨F', p, us, h1⟩ := Sv.items (o := a) (Ts := Ts) (ts := ts) s1 e1
    rcases h1 with ⟨_, _, s2, ev, hs, _, hi, z⟩ | ⟨_, h2, _⟩
    · subst ev
      rw [if_pos (O.isTrk_isL t1)] at hs
      rw [hK]
      refine ⟨p, us, rfl, hs, ?_⟩
      rw [← hi.1]
      exact q F' H1 _ [.ref p] s2 rfl (walk_rev e1 t1 z)
    · rw [t1] at h2; cases h2) (fun _ z => z) h⟩

/-! ### for -/
theorem PEnds.Le.loop {D D' : PEnds} (l : D.Le D') (I : List (Option O) → Prop) : (⟨I, D.rt, D.nx, I, D.ex⟩ : PEnds).Le ⟨I, D'.rt, D'.nx, I, D'.ex⟩ := ⟨fun _ z => z, l.rt, l.nx, fun _ z => z, l.ex⟩
def sFor (w : W1 Wk) (g : WG) (p : WS) : WS := ⟨fun S D => w.run S (fun w => (∀ o ∈ w.srcs, o.nb = true) ∧ ∃ I : Nat → List (Option O) → Prop, I 0 S ∧ (∀ i o S, w.items[i]? = some o → I i S → g.run o S (fun S' => p.run S' ⟨I (i + 1), D.rt, D.nx, I (i + 1), D.ex⟩)) ∧ ∀ S, I w.items.length S → D.nx S) (D.ex S),
  fun l h => w.mono (fun w ⟨nb, I, h0, hs, hd⟩ => ⟨nb, I, h0, fun i o S ho hi => by
    have z := hs i o S ho hi
    exact g.mono (fun S' z => p.mono (PEnds.Le.loop l _) z) z, fun S hi => l.nx _ (hd S hi)⟩) (fun e z => l.ex _ e z) h⟩
theorem ss_for {body : List Stmt} {w : W1 Wk} {g : WG} {p : WS} (hp : PassesOwn (model X.prog X.w) X.A X.env X.xe) (hc : X.calm = true) (hi : SI X c W tg e w) (hg : SG X c tg g) (hb : SSs X c W body p)
    (hs : ∀ x, foldedSetIterable e X.env x = pure x := by intro _; rfl) : SS X c W (.For tg e body [] pos) (sFor w g p) :=
  PS.imp (ps_for hp hc hi hg hb hs) fun D σ H ⟨F, S, Ts, ts, nb, s, h⟩ => ⟨F, S, Ts, ts, s, w.mono (fun w ⟨nbs, I, h0, hs, hd⟩ F1 H1 J vs s1 el ⟨z, wo⟩ => by
    have nbT : ∀ o ∈ w.srcs ++ Ts, o.nb = true := fun o ho => (List.mem_append.mp ho).elim (nbs o) (nb o)
    refine ⟨fun i m σ H => m = w.items.length - i ∧ i ≤ w.items.length ∧ ∃ (F : Fz) (S : List (Option O)), Sv c F H (w.srcs ++ Ts) (vs ++ ts) S σ ∧ I i S, ⟨w.items.length, by simp, Nat.zero_le _, F1, S, s1, h0⟩, ?_⟩
    rintro i m σ H ⟨rfl, hi, F, S, s, hI⟩
    obtain ⟨w1, w2⟩ := wo F H Ts ts S σ s
    by_cases hlt : i < w.items.length
    · obtain ⟨go, yl⟩ := w2 i _ (List.getElem?_eq_getElem hlt)
      refine .inr ⟨go, fun σ' H' => ∃ (F : Fz) (S : List (Option O)), Sv c F H' (w.srcs ++ Ts) (vs ++ ts) S σ' ∧ I (i + 1) S, fun σ' H' ⟨F, S, s, h⟩ => ⟨w.items.length - (i + 1), by omega, rfl, hlt, F, S, s, h⟩, fun x H' y => ?_⟩
      obtain ⟨F', s'⟩ := yl x H' y
      refine ⟨F', S, w.srcs ++ Ts, vs ++ ts, _, s', g.mono (fun S' z F2 H2 σ2 s2 => ?_) (hs i _ S (List.getElem?_eq_getElem hlt) hI)⟩
      refine ⟨F2, S', w.srcs ++ Ts, vs ++ ts, nbT, s2, p.le z ⟨fun S3 h3 F3 H3 σ3 s3 => ⟨F3, S3, s3, h3⟩, fun o h3 F3 H3 v S3 σ3 s3 => ?_, fun S3 h3 F3 H3 σ3 s3 => h3 F3 H3 σ3 (s3.popN el), fun S3 h3 F3 H3 σ3 s3 => ⟨F3, S3, s3, h3⟩, fun S3 e h3 σ3 => ?_⟩⟩
      · exact h3 F3 H3 v S3 σ3 (Sv.popUnder el s3)
      · exact fun cls d F' H' s5 x => h3 σ3 cls d F' H' (s5.popN el) x
    · have ei : i = w.items.length := by omega
      subst ei
      exact .inl ⟨w1 _ (Nat.le_refl _), hd S hI F H σ (s.popN el)⟩) (fun e z => exK.st z) h⟩
where
  Sv.popUnder {F : Fz} {H : Hp} {os Ts : List O} {vs ts : List V} {S : List (Option O)} {σ : L2.St} {o : O} {v : V} (el : os.length = vs.length) (s : Sv c F H (o :: (os ++ Ts)) (v :: (vs ++ ts)) S σ) : Sv c F H (o :: Ts) (v :: ts) S σ := by
    obtain ⟨A, C, ⟨v', vr, A1, A2, e, eA, h, r⟩, hC, nd, no, nA, nC⟩ := s.own
    cases e
    subst eA
    obtain ⟨A3, A4, eA2, h3, h4⟩ := r.split el
    subst eA2
    have sub : (A1 ++ A4 ++ C).Sublist (A1 ++ (A3 ++ A4) ++ C) := List.Sublist.append (List.Sublist.append (List.Sublist.refl _) (List.sublist_append_right _ _)) (List.Sublist.refl _)
    have sub2 : (A1 ++ A4).Sublist (A1 ++ (A3 ++ A4)) := List.Sublist.append (List.Sublist.refl _) (List.sublist_append_right _ _)
    exact ⟨s.ext, s.fb, s.bh, s.old, s.dom, A1 ++ A4, C, ⟨v, ts, A1, A4, rfl, rfl, h, h4⟩, hC, nd.sublist sub, fun a ha => no a (sub.subset ha), fun a ha => nA a (sub2.subset ha), nC⟩
end
end PL

/-! P7 -/
set_option Elab.async false
set_option linter.all false
set_option maxRecDepth 100000
set_option maxHeartbeats 4000000
/-! P7: comprehensions. -/
namespace PL
open PySem PySem.Spec L2

section
variable {c : Cc} {F : Fz} {H : Hp} {Ts os : List O} {ts vs : List V} {S : List (Option O)} {σ : L2.St}
/-- a temporary goes behind others -/
theorem Sv.unrot {o : O} {v : V} (s : Sv c F H (o :: (os ++ Ts)) (v :: (vs ++ ts)) S σ) (e : os.length = vs.length) : Sv c F H (os ++ o :: Ts) (vs ++ v :: ts) S σ := by
  obtain ⟨A, C, ⟨v', vr, A1, A2, ev, eA, h, r⟩, hC, nd, no, nA, nC⟩ := s.own
  cases ev
  subst eA
  obtain ⟨A3, A4, eA2, h3, h4⟩ := r.split e
  subst eA2
  have pm : (A3 ++ (A1 ++ A4)).Perm (A1 ++ (A3 ++ A4)) := by
    rw [← List.append_assoc, ← List.append_assoc]
    exact List.Perm.append_right A4 List.perm_append_comm
  exact ⟨s.ext, s.fb, s.bh, s.old, s.dom, A3 ++ (A1 ++ A4), C, h3.join ⟨v, ts, A1, A4, rfl, rfl, h, h4⟩, hC, (List.Perm.append_right C pm).nodup_iff.mpr nd, fun a ha => no a ((List.Perm.append_right C pm).mem_iff.mp ha), fun a ha => nA a (pm.mem_iff.mp ha), nC⟩
theorem OwL.snoc {G : Gx} {F H : Hp} {o : O} {v : V} {A : List Addr} (h : Ow G F H o v A) : ∀ {os : List O} {vs : List V} {B : List Addr}, OwL G F H os vs B → OwL G F H (os ++ [o]) (vs ++ [v]) (B ++ A)
  | [], _, _, ⟨e, eA⟩ => by subst e eA; exact ⟨v, [], A, [], rfl, by simp, h, rfl, rfl⟩
  | u :: os, _, _, ⟨w, vr, B, C, e, eA, hu, r⟩ => by
    subst e eA
    exact ⟨w, vr ++ [v], B, C ++ A, rfl, by simp, hu, OwL.snoc h r⟩
theorem OwL.len {G : Gx} {F H : Hp} : ∀ {os : List O} {vs : List V} {A : List Addr}, OwL G F H os vs A → os.length = vs.length
  | [], _, _, ⟨e, _⟩ => by subst e; rfl
  | _ :: _, _, _, ⟨_, _, _, _, e, _, _, r⟩ => by subst e; simp [r.len]
theorem SlL.monoAt {G : Gx} {F H H' : Hp} (k : Keep H H') {S : List (Option O)} {σ : L2.St} {A : List Addr} (h : SlL G F H S σ A) (s : ∀ a ∈ A, H' a = H a) : SlL G F H' S σ A :=
  h.mono (Same.refl _) k fun a ha => ⟨(h.own a ha).1, s a ha⟩
/-- the list of a temporary grows by the temporary on top -/
theorem Sv.app {o : O} {y : V} {acc : List O} {D : Addr} (s : Sv c F H (o :: (os ++ .ls acc :: Ts)) (y :: (vs ++ .ref D :: ts)) S σ) (e : os.length = vs.length) (nb : o.nb = true) (z : acc.length < sizeLine) :
    ∃ xs, H D = some (.lst xs) ∧ xs.length = acc.length ∧ Sv c F (upd H D (.lst (xs ++ [y]))) (os ++ .ls (acc ++ [o]) :: Ts) (vs ++ .ref D :: ts) S σ := by
  obtain ⟨A, C, ⟨v', vr, A0, R, ev, eA, ho, r⟩, hC, nd, no, nA, nC⟩ := s.own
  cases ev
  subst eA
  obtain ⟨A1, A2, eR, h1, h2⟩ := r.split e
  subst eR
  obtain ⟨w, wr, A3, A4, ew, eA2, hls, h4⟩ := h2
  cases ew
  subst eA2
  obtain ⟨D', xs, B, eD, eB, nF, hD, zz, ol⟩ := (show Ow c.G F.F H (.ls acc) (.ref D) A3 from hls)
  cases eD
  subst eB
  have pm : (A1 ++ ((D :: (B ++ A0)) ++ A4)).Perm (A0 ++ (A1 ++ (D :: B ++ A4))) := by
    have p1 : ((D :: (B ++ A0)) ++ A4).Perm (A0 ++ (D :: B ++ A4)) := by
      have : (D :: (B ++ A0)).Perm (A0 ++ D :: B) := by
        have := (List.perm_append_comm (l₁ := D :: B) (l₂ := A0))
        simpa using this
      have := List.Perm.append_right A4 this
      simpa using this
    refine (List.Perm.append_left A1 p1).trans ?_
    rw [← List.append_assoc A1 A0, ← List.append_assoc A0 A1]
    exact List.Perm.append_right _ List.perm_append_comm
  have ndp := (List.Perm.append_right C pm).nodup_iff.mpr nd
  have kp : Keep H (upd H D (.lst (xs ++ [y]))) := fun b u q nl => by
    have : b ≠ D := fun e => by subst e; rw [hD] at q; cases q; exact nl _ rfl
    rw [upd_ne this]; exact q
  -- D stands but once
  have inA : D ∈ A0 ++ (A1 ++ (D :: B ++ A4)) := by simp
  have nd0 : (D :: (A1 ++ (B ++ A0 ++ A4) ++ C)).Nodup := by
    have : (A1 ++ ((D :: (B ++ A0)) ++ A4) ++ C).Perm (D :: (A1 ++ (B ++ A0 ++ A4) ++ C)) := by
      rw [List.append_assoc]
      refine (List.perm_middle (a := D) (l₁ := A1) (l₂ := B ++ A0 ++ A4 ++ C)).symm.symm.trans ?_
      simp
    exact this.nodup_iff.mp ndp
  have nin := (List.nodup_cons.mp nd0).1
  have ne : ∀ a, a ∈ A1 ++ (B ++ A0 ++ A4) ++ C → upd H D (.lst (xs ++ [y])) a = H a := fun a ha => upd_ne fun e => nin (e ▸ ha)
  have m0 : ∀ a ∈ A0, upd H D (.lst (xs ++ [y])) a = H a := fun a ha => ne a (by simp [ha])
  have m1 : ∀ a ∈ A1, upd H D (.lst (xs ++ [y])) a = H a := fun a ha => ne a (by simp [ha])
  have mB : ∀ a ∈ B, upd H D (.lst (xs ++ [y])) a = H a := fun a ha => ne a (by simp [ha])
  have m4 : ∀ a ∈ A4, upd H D (.lst (xs ++ [y])) a = H a := fun a ha => ne a (by simp [ha])
  have mC : ∀ a ∈ C, upd H D (.lst (xs ++ [y])) a = H a := fun a ha => ne a (by simp [ha])
  have BD : F.B D = none := nA D inA
  refine ⟨xs, hD, ol.len.symm, s.ext, s.fb, fun a u q => ?_, fun a u q => ?_, s.dom, A1 ++ ((D :: (B ++ A0)) ++ A4), C, ?_, hC.monoAt kp mC, ndp, fun a ha => no a ((List.Perm.append_right C pm).mem_iff.mp ha), fun a ha => nA a (pm.mem_iff.mp ha), fun a ha => (nC a ha).trans (mC a ha).symm⟩
  · have : a ≠ D := fun e => by subst e; rw [BD] at q; cases q
    rw [upd_ne this]; exact s.bh a u q
  · have : a ≠ D := fun e => by
      subst e
      have := no a (List.mem_append_left _ inA)
      rw [this] at q; cases q
    rw [upd_ne this]; exact s.old a u q
  · refine TmL.join (h1.monoK (Same.refl _) (Same.refl _) kp fun a ha => ⟨(h1.own a ha).1, m1 a ha⟩) ⟨.ref D, ts, D :: (B ++ A0), A4, rfl, rfl, ⟨D, xs ++ [y], B ++ A0, rfl, rfl, nF, upd_same, by rw [List.length_append]; exact z, ?_⟩, h4.monoK (Same.refl _) (Same.refl _) kp fun a ha => ⟨(h4.own a ha).1, m4 a ha⟩⟩
    refine OwL.snoc ?_ ?_
    · exact Ow.mono (Same.refl _) kp o y A0 (fun a ha => ⟨(ho.own a ha).1, m0 a ha⟩) (ho.ow nb)
    · exact OwL.mono (Same.refl _) kp acc xs B (fun a ha => ⟨(OwL.own ol a ha).1, mB a ha⟩) ol
/-- slots by their values, where they are told -/
theorem SlL.weak {G : Gx} {F H : Hp} : ∀ {S : List (Option O)} {τ σ : L2.St} {A : List Addr}, SlL G F H S τ A → τ.length = σ.length → (∀ (j : Nat) v, τ[j]? = some (some v) → σ[j]? = some (some v)) → SlL G F H S σ A
  | [], _, σ, _, ⟨e, eA⟩, el, _ => by
    subst e
    exact ⟨List.eq_nil_of_length_eq_zero el.symm, eA⟩
  | none :: S, _, σ, _, ⟨x, τ, e, r⟩, el, h => by
    subst e
    match σ, el, h with
    | y :: σ, el, h => exact ⟨y, σ, rfl, r.weak (by simpa using el) fun j v q => by simpa using h (j + 1) v (by simpa using q)⟩
  | some o :: S, _, σ, _, ⟨v, τ, B, C, e, eA, ho, r⟩, el, h => by
    subst e eA
    match σ, el, h with
    | y :: σ, el, h =>
      have h0 := h 0 v rfl
      simp at h0
      subst h0
      exact ⟨v, σ, B, C, rfl, rfl, ho, r.weak (by simpa using el) fun j v q => by simpa using h (j + 1) v (by simpa using q)⟩
theorem Sv.weak {τ : L2.St} (s : Sv c F H Ts ts S τ) (el : τ.length = σ.length) (h : ∀ (j : Nat) v, τ[j]? = some (some v) → σ[j]? = some (some v)) : Sv c F H Ts ts S σ := by
  obtain ⟨A, C, hA, hC, r⟩ := s.own
  exact ⟨s.ext, s.fb, s.bh, s.old, s.dom, A, C, hA, hC.weak el h, r⟩
theorem SlL.none_at {G : Gx} {F H : Hp} : ∀ {S : List (Option O)} {σ : L2.St} {A : List Addr} (i : Nat), SlL G F H (S.set i none) σ A → SlL G F H (S.set i none) (σ.set i none) A
  | [], σ, A, i, h => by
    have h' : SlL G F H [] σ A := by simpa using h
    obtain ⟨e, eA⟩ := h'
    subst e eA
    simpa using (show SlL G F H [] [] [] from ⟨rfl, rfl⟩)
  | x :: S, _, A, 0, ⟨y, τ, e, r⟩ => by subst e; exact ⟨none, τ, rfl, r⟩
  | none :: S, _, A, i + 1, ⟨y, τ, e, r⟩ => by subst e; exact ⟨y, _, rfl, SlL.none_at i r⟩
  | some o :: S, _, _, i + 1, ⟨v, τ, B, C, e, eA, ho, r⟩ => by subst e eA; exact ⟨v, _, B, C, rfl, rfl, ho, SlL.none_at i r⟩
def wipeS (S : List (Option O)) : List Nat → List (Option O)
  | [] => S
  | v :: vs => (wipeS S vs).set v none
theorem Sv.wipe (s : Sv c F H Ts ts S σ) : ∀ vs : List Nat, Sv c F H Ts ts (wipeS S vs) (L2.wipe σ vs)
  | [] => s
  | v :: vs => by
    have s1 := (s.wipe vs).drop v
    obtain ⟨A, C, hA, hC, r⟩ := s1.own
    exact ⟨s1.ext, s1.fb, s1.bh, s1.old, s1.dom, A, C, hA, hC.none_at v, r⟩
theorem set_none_comm {α : Type} (l : List (Option α)) (i j : Nat) : (l.set i none).set j none = (l.set j none).set i none := by
  by_cases h : i = j
  · subst h; rfl
  · exact List.set_comm _ _ h
theorem wipe_set {σ : L2.St} {i : Nat} {x : Option V} : ∀ {vs : List Nat}, i ∈ vs → L2.wipe (σ.set i x) vs = L2.wipe σ vs
  | v :: vs, h => by
    show (L2.wipe (σ.set i x) vs).set v none = (L2.wipe σ vs).set v none
    by_cases hm : i ∈ vs
    · rw [wipe_set hm]
    · have e : i = v := by
        rcases List.mem_cons.mp h with h | h
        · exact h
        · exact absurd h hm
      subst e
      rw [wipe_out hm, List.set_set]
where
  wipe_out {σ : L2.St} {i : Nat} {x : Option V} : ∀ {vs : List Nat}, i ∉ vs → L2.wipe (σ.set i x) vs = (L2.wipe σ vs).set i x
    | [], _ => rfl
    | v :: vs, h => by
      have h1 : i ≠ v := fun e => h (by simp [e])
      have h2 : i ∉ vs := fun e => h (by simp [e])
      show (L2.wipe (σ.set i x) vs).set v none = ((L2.wipe σ vs).set v none).set i x
      rw [wipe_out h2, List.set_comm _ _ h1]
theorem wipe_idem (σ : L2.St) (vs : List Nat) : L2.wipe (L2.wipe σ vs) vs = L2.wipe σ vs := by
  have : ∀ us : List Nat, (∀ j ∈ us, j ∈ vs) → L2.wipe (L2.wipe σ vs) us = L2.wipe σ vs := by
    intro us
    induction us with
    | nil => intro _; rfl
    | cons j us ih =>
      intro hj
      show (L2.wipe (L2.wipe σ vs) us).set j none = L2.wipe σ vs
      rw [ih fun k hk => hj k (List.mem_cons_of_mem _ hk)]
      have : ∀ us : List Nat, j ∈ us → (L2.wipe σ us).set j none = L2.wipe σ us := by
        intro us
        induction us with
        | nil => intro h; cases h
        | cons k us ih2 =>
          intro h
          show ((L2.wipe σ us).set k none).set j none = (L2.wipe σ us).set k none
          rcases List.mem_cons.mp h with h | h
          · subst h; rw [List.set_set]
          · rw [set_none_comm, ih2 h]
      exact this vs (hj j List.mem_cons_self)
  exact this vs fun _ h => h
theorem wipeS_set {S : List (Option O)} {i : Nat} {x : Option O} : ∀ {vs : List Nat}, i ∈ vs → wipeS (S.set i x) vs = wipeS S vs
  | v :: vs, h => by
    show (wipeS (S.set i x) vs).set v none = (wipeS S vs).set v none
    by_cases hm : i ∈ vs
    · rw [wipeS_set hm]
    · have e : i = v := by
        rcases List.mem_cons.mp h with h | h
        · exact h
        · exact absurd h hm
      subst e
      rw [wipe_out hm, List.set_set]
where
  wipe_out {S : List (Option O)} {i : Nat} {x : Option O} : ∀ {vs : List Nat}, i ∉ vs → wipeS (S.set i x) vs = (wipeS S vs).set i x
    | [], _ => rfl
    | v :: vs, h => by
      have h1 : i ≠ v := fun e => h (by simp [e])
      have h2 : i ∉ vs := fun e => h (by simp [e])
      show (wipeS (S.set i x) vs).set v none = ((wipeS S vs).set v none).set i x
      rw [wipe_out h2, List.set_comm _ _ h1]
end
/-- a comprehension's target -/
def GOk (c : Cc) (g : TG) (gp : WG) (vs : List Nat) : Prop := ∀ F H Ts ts S σ o x (K : L2.St → Hp → Prop), Sv c F H (o :: Ts) (x :: ts) S σ →
  gp.run o S (fun S2 => ∀ F' σ2, Sv c F' H Ts ts S2 σ2 → L2.wipe σ2 vs = L2.wipe σ vs → wipeS S2 vs = wipeS S vs → K σ2 H) → g x σ H K
theorem gok_N {c : Cc} {i : Nat} {vs : List Nat} (hi : i ∈ vs) : GOk c (gName i) (gN i) vs := fun F H Ts ts S σ o x K s ⟨nb, l, h⟩ => by
  obtain ⟨F', _, _, s'⟩ := s.put nb l
  exact h F' _ s' (wipe_set hi) (wipeS_set hi)
def gsNames : List Nat → TGs
  | [] => gNil
  | i :: r => gCons (gName i) (gsNames r)
def gspNames : List Nat → WGs
  | [] => gsN
  | i :: r => gsC (gN i) (gspNames r)
theorem goks {c : Cc} {vs : List Nat} : ∀ {ns : List Nat}, (∀ i ∈ ns, i ∈ vs) → ∀ F H Ts ts S σ os xs (K : L2.St → Hp → Prop), Sv c F H (os ++ Ts) (xs ++ ts) S σ → os.length = xs.length →
    (gspNames ns).run os S (fun S2 => ∀ F' σ2, Sv c F' H Ts ts S2 σ2 → L2.wipe σ2 vs = L2.wipe σ vs → wipeS S2 vs = wipeS S vs → K σ2 H) → gsNames ns xs σ H K
  | [], _, F, H, Ts, ts, S, σ, os, xs, K, s, e, ⟨eo, h⟩ => by
    subst eo
    have : xs = [] := List.eq_nil_of_length_eq_zero e.symm
    subst this
    exact ⟨rfl, h F σ s rfl rfl⟩
  | i :: ns, hn, F, H, Ts, ts, S, σ, os, xs, K, s, e, ⟨o, r, eo, nb, l, h⟩ => by
    subst eo
    match xs, e, s with
    | x :: xs, e, s =>
      refine ⟨x, xs, rfl, ?_⟩
      obtain ⟨F', _, _, s'⟩ := Sv.put (Ts := r ++ Ts) (ts := xs ++ ts) s nb l
      have hi := hn i List.mem_cons_self
      refine goks (fun j hj => hn j (List.mem_cons_of_mem _ hj)) F' H Ts ts _ _ r xs K s' (by simpa using e) ((gspNames ns).mono (fun S2 z F2 σ2 s2 w1 w2 => ?_) h)
      exact z F2 σ2 s2 (w1.trans (wipe_set hi)) (w2.trans (wipeS_set hi))
theorem gok_T {c : Cc} {K : PySem.W.Frag} {ns vs : List Nat} (hn : ∀ i ∈ ns, i ∈ vs) : GOk c (gTup K ns.length (gsNames ns)) (gT ns.length (gspNames ns)) vs := fun F H Ts ts S σ o x Kk s ⟨os, e, en, h⟩ => by
  obtain ⟨p, us, ev, q, el, s'⟩ := s.parts e
  exact ⟨p, us, ev, SqT.of q, el ▸ en, goks hn F H Ts ts S σ os us Kk s' el h⟩

theorem W1.le {α : Type} (p : W1 α) {S : List (Option O)} {Q Q' : α → Prop} {E E' : Ex → Prop} (h : p.run S Q E) (hq : ∀ a, Q a → Q' a) (he : ∀ e, E e → E' e) : p.run S Q' E' := p.mono hq he h
/-- tests of a comprehension -/
def wYes : W1 Bool := .pure true
abbrev W0 : WX := fun _ _ _ _ => False
theorem pts_yes {X : Cx} {c : Cc} {W : WX} : PTs X [] (liftT c W wYes) := ⟨fun pins s σ H Q I ⟨F, S, Ts, ts, sv, h⟩ => pts_nil.run pins s σ H Q I (h F H sv)⟩
def wLC (w : W1 Wk) (g : WG) (t : W1 Bool) (e : W1 O) (vs : List Nat) : W1 O := ⟨fun S Q E => w.run S (fun w => wipeS S vs = S ∧ ∃ I : Nat → List O → Prop, I 0 [] ∧
    (∀ i o acc, w.items[i]? = some o → I i acc → g.run o S (fun S2 => t.run S2 (fun b => if b = true then e.run S2 (fun u => u.nb = true ∧ I (i + 1) (acc ++ [u])) (fun _ => False) else I (i + 1) acc) (fun _ => False))) ∧
    ∀ acc, I w.items.length acc → Q (.ls acc)) E,
  fun hq he h => w.mono (fun w ⟨hw, I, h0, hs, hd⟩ => ⟨hw, I, h0, hs, fun acc hi => hq _ (hd acc hi)⟩) he h⟩
theorem lift_lc {c : Cc} {W : WX} {w : W1 Wk} {g : TG} {gp : WG} {t : W1 Bool} {e : W1 O} {vs : List Nat} (hg : GOk c g gp vs) (σ : L2.St) (H : Hp) (Q : VK) (h : lift c W (wLC w gp t e vs) σ H Q) :
    tLc (liftI c W w) g (liftT c W0 t) (lift c W0 e) vs σ H Q := by
  obtain ⟨F, S, Ts, ts, s, h⟩ := h
  refine ⟨F, S, Ts, ts, s, w.mono (fun w ⟨hw, I, h0, hs, hd⟩ F1 H1 J us s1 el ⟨z, wo⟩ D nD => ?_) (fun _ z => z) h⟩
  obtain ⟨F2, _, s2⟩ := Sv.mkL (os := []) (vs := []) s1 rfl (Nat.zero_le _) nD
  have s2 : Sv c F2 (upd H1 D (.lst [])) (.ls [] :: (w.srcs ++ Ts)) (.ref D :: (us ++ ts)) S σ := s2
  refine ⟨fun i m H => m = w.items.length - i ∧ i ≤ w.items.length ∧ ∃ (F : Fz) (acc : List O), Sv c F H (.ls acc :: (w.srcs ++ Ts)) (.ref D :: (us ++ ts)) S (L2.wipe σ vs) ∧ acc.length ≤ i ∧ I i acc,
    ⟨w.items.length, by simp, Nat.zero_le _, F2, [], by rw [← hw]; exact s2.wipe vs, Nat.le_refl _, h0⟩, ?_⟩
  rintro i m H ⟨rfl, hi, F, acc, s, la, hI⟩
  have s' := s.unrot el
  obtain ⟨w1, w2⟩ := wo F H _ _ S _ s'
  by_cases hlt : i < w.items.length
  · obtain ⟨go, yl⟩ := w2 i _ (List.getElem?_eq_getElem hlt)
    refine .inr ⟨go, fun H' => ∃ (F : Fz) (acc : List O), Sv c F H' (.ls acc :: (w.srcs ++ Ts)) (.ref D :: (us ++ ts)) S (L2.wipe σ vs) ∧ acc.length ≤ i + 1 ∧ I (i + 1) acc, fun H' ⟨F, acc, s, la, hI⟩ => ⟨w.items.length - (i + 1), by omega, rfl, hlt, F, acc, s, la, hI⟩, fun x H' y => ?_⟩
    obtain ⟨F3, s3⟩ := yl x H' y
    refine hg F3 H' _ _ S _ _ x _ s3 (gp.mono (fun S2 z F4 σ4 s4 hw0 hw2 => ⟨hw0.trans (wipe_idem _ _), ?_⟩) (hs i _ acc (List.getElem?_eq_getElem hlt) hI))
    have back : ∀ {F5 : Fz} {H5 : Hp} {acc' : List O}, Sv c F5 H5 (w.srcs ++ .ls acc' :: Ts) (us ++ .ref D :: ts) S2 σ4 → Sv c F5 H5 (.ls acc' :: (w.srcs ++ Ts)) (.ref D :: (us ++ ts)) S (L2.wipe σ vs) := fun {F5 H5 acc'} s5 => by
      have s6 := (s5.wipe vs).rot el
      rw [hw0, hw2, hw] at s6
      rw [wipe_idem] at s6
      exact s6
    refine ⟨F4, S2, _, _, s4, t.mono (fun b hb F5 H5 s5 => ?_) (fun _ z => z.elim) z⟩
    cases b
    · rw [if_neg Bool.false_ne_true] at hb ⊢
      exact ⟨F5, acc, back s5, by omega, hb⟩
    · rw [if_pos rfl] at hb ⊢
      refine ⟨F5, S2, _, _, s5, e.mono (fun u ⟨nb, hu⟩ F6 H6 yv s6 => ?_) (fun _ z => z.elim) hb⟩
      obtain ⟨xs, hx, lx, s7⟩ := s6.app el nb (by omega)
      exact ⟨xs, hx, by omega, F6, acc ++ [u], back s7, by rw [List.length_append]; exact Nat.succ_le_succ la, hu⟩
  · have ei : i = w.items.length := by omega
    subst ei
    refine .inl ⟨w1 _ (Nat.le_refl _), hd acc hI F H _ ?_⟩
    have s8 : Sv c F H (.ls acc :: (w.srcs ++ Ts)) (.ref D :: (us ++ ts)) S σ := s.weak (L2.wipe_length _ _) fun j v q => (wipe_some q).1
    exact popU el s8
where
  popU {c : Cc} {F : Fz} {H : Hp} {os Ts : List O} {vs ts : List V} {S : List (Option O)} {σ : L2.St} {o : O} {v : V} (el : os.length = vs.length) (s : Sv c F H (o :: (os ++ Ts)) (v :: (vs ++ ts)) S σ) : Sv c F H (o :: Ts) (v :: ts) S σ := ss_for.Sv.popUnder el s
section
variable {X : Cx} {c : Cc} {W : WX} {elt tg iter : Expr} {ifs : List Expr} {scope : Scope} {own : List (Str × Nat)} {pos spos : Pos} {w : W1 Wk} {g : TG} {gp : WG} {t : W1 Bool} {e : W1 O}
theorem se_lc (hc : X.calm = true) (hN : X.N.Nodup) (hgo : GOk c g gp (own.map (·.2))) (hi : SI X c W tg iter w) (ok : BlkOk X.N X.env.scope scope own)
    (hg : ∀ (s : Shared) (H : Hp) (C : Addr) (cl : List (Str × Addr)) (fp : List Addr), PG (X.blk s H scope (compEnvC scope cl C X.env) fp) tg g)
    (ht : ∀ (s : Shared) (H : Hp) (C : Addr) (cl : List (Str × Addr)) (fp : List Addr), PTs (X.blk s H scope (compEnvC scope cl C X.env) fp) ifs (liftT c W0 t))
    (he : ∀ (s : Shared) (H : Hp) (C : Addr) (cl : List (Str × Addr)) (fp : List Addr), SE (X.blk s H scope (compEnvC scope cl C X.env) fp) c W0 elt e) (hs : ∀ x, foldedSetIterable iter X.env x = pure x := by intro _; rfl) :
    SE X c W (.ListComp elt [⟨tg, iter, ifs, 0⟩] scope pos) (wLC w gp t e (own.map (·.2))) := PE.imp (pe_lc hc hN hi ok hg ht he hs) (lift_lc hgo)
theorem ss_setLc {i : Nat} {y : Str} {py : Pos} {gg : WG} (hgg : gg = gN i ∨ gg = gF i) (hc : X.calm = true) (hN : X.N.Nodup) (hy : X.N[i]? = some y) (hyl : X.env.scope.names.lookup y = some .local)
    (hsw : swapsWith (.ListComp elt [⟨tg, iter, ifs, 0⟩] scope pos) (some (.Name y py)) spos.line X.env = pure true) (hgo : GOk c g gp (own.map (·.2))) (hi : SI X c W tg iter w) (ok : BlkOk X.N X.env.scope scope own)
    (hg : ∀ (s : Shared) (H : Hp) (C : Addr) (cl : List (Str × Addr)) (fp : List Addr), PG (X.blk s H scope (compEnvC scope cl C X.env) fp) tg g)
    (ht : ∀ (s : Shared) (H : Hp) (C : Addr) (cl : List (Str × Addr)) (fp : List Addr), PTs (X.blk s H scope (compEnvC scope cl C X.env) fp) ifs (liftT c W0 t))
    (he : ∀ (s : Shared) (H : Hp) (C : Addr) (cl : List (Str × Addr)) (fp : List Addr), SE (X.blk s H scope (compEnvC scope cl C X.env) fp) c W0 elt e) (hs : ∀ x, foldedSetIterable iter X.env x = pure x := by intro _; rfl) :
    SS X c W (.Assign [.Name y py] (.ListComp elt [⟨tg, iter, ifs, 0⟩] scope pos) spos) (sAsg (wLC w gp t e (own.map (·.2))) gg) :=
  PS.imp (ps_setLc hc hN hy hyl hsw hi ok hg ht he hs) fun D σ H ⟨F, S, Ts, ts, nb, s, h⟩ => lift_lc (W := W) hgo σ H _ ⟨F, S, Ts, ts, s, W1.le _ (show (wLC w gp t e (own.map (·.2))).run S (fun o => gg.run o S (endK c W Ts ts D).nx) ((endK c W Ts ts D).ex S) from h) (fun o z F' H' v s' => by
    rcases hgg with rfl | rfl
    · obtain ⟨n1, n2, z⟩ := z
      obtain ⟨F3, _, _, s3⟩ := s'.put n1 n2
      exact z F3 H' _ s3
    · obtain ⟨n1, n2, z⟩ := z
      obtain ⟨F2, _, _, s2⟩ := s'.freeze n1
      obtain ⟨F3, _, _, s3⟩ := s2.put rfl n2
      exact z F3 H' _ s3) (fun e z => exK.st z)⟩
end
end PL

/-! P8 -/
set_option Elab.async false
set_option linter.all false
set_option maxRecDepth 100000
set_option maxHeartbeats 4000000
/-! P8: defs, their contracts, calls, methods of kinds. -/
namespace PL
open PySem PySem.Spec L2

/-- a contract over data -/
structure Ctr where
  run : List D → (O → Prop) → (Ex → Prop) → Prop
  mono : ∀ {ds Q Q' E E'}, (∀ o, Q o → Q' o) → (∀ e, E e → E' e) → run ds Q E → run ds Q' E'
def spOf (G : Gx) (R : Ctr) : Sp := fun vs H0 Q E => ∃ F0 ds, Same F0 H0 ∧ ReL G F0 H0 ds vs ∧ R.run ds
  (fun o => ∀ (F H : Hp) v A, Same F0 F → Same F H → Same H0 H → (∀ a, H0 a ≠ none → F a = F0 a) → Ow G F H o v A → A.Nodup → (∀ a ∈ A, H0 a = none) → Q v H)
  (fun e => ∀ cls d H, Same H0 H → ExAt G H cls d e → E cls d H)
def startS (N : List Str) (ds : List D) : List (Option O) := ds.map (fun d => some (.im d)) ++ List.replicate (N.length - ds.length) none
theorem SlL.start {G : Gx} {F H : Hp} {m : Nat} : ∀ {ds : List D} {vs : List V}, ReL G F H ds vs → SlL G F H (ds.map (fun d => some (.im d)) ++ List.replicate m none) (vs.map some ++ List.replicate m none) []
  | [], _, e => by
    cases e
    have : ∀ m : Nat, SlL G F H (List.replicate m none) (List.replicate m none) [] := by
      intro m
      induction m with
      | zero => exact ⟨rfl, rfl⟩
      | succ m ih => exact ⟨none, _, rfl, ih⟩
    exact this m
  | d :: ds, _, ⟨v, vr, e, h, r⟩ => by
    subst e
    exact ⟨v, _, [], [], rfl, rfl, ⟨rfl, h⟩, SlL.start r⟩
/-- how a body ends -/
def bodyK (Q : O → Prop) (E : Ex → Prop) : PEnds := { nx := fun _ => Q O.n, rt := fun o => o.nb = true ∧ Q o, ex := fun _ e => E e }
section
variable {P : Program} {w : World} {K : PySem.W.Frag} {mg : Str → Option Value} {base : Heap} {G : Gx}
/-- THE RULE for a def -/
theorem ok_of {x qual : Str} {st : Stmt} {f : Addr} {fd : FuncData} {N ps : List Str} {k : Nat} {R : Ctr} {p : WS} (F : Fun K x qual st f fd) (S : FnScope N ps (defScope st)) (len : ∀ ds Q E, R.run ds Q E → ds.length = ps.length)
    (hbody : ∀ (cdv : Value) (A : Around) (outer : List Env) (s : Shared) (H F0 : Hp) (E : XK), Room k (A.deeper (PyProof.Rows.envOfC qual (defScope st) s.heap.objs.size f cdv)) →
      SSs (cxOf (L2.CX P w) P w K mg base N qual (defScope st) f cdv A outer s H E) ⟨G, F0, H⟩ (fun cls d _ H => E cls d H) (defBody st) p)
    (pure : ∀ ds Q E, R.run ds Q E → p.run (startS N ds) (bodyK Q E)) : FnOk P w K mg base (L2.CX P w) (k + 1) f fd ps (spOf G R) := by
  refine F.okX S (fun vs H Q E ⟨F0, ds, _, r, h⟩ => by rw [← r.length]; exact len _ _ _ h) (fun cdv A outer s H vs Q E hr ⟨F0, ds, sm, r, h⟩ => ⟨_, hbody cdv A outer s H F0 E hr, ?_⟩)
  refine ⟨⟨F0, F0⟩, startS N ds, [], [], (fun o ho => by cases ho), ⟨Same.refl _, Same.refl _, sm, Same.refl _, fun _ _ => rfl, [], [], ⟨rfl, rfl⟩, ?_, List.nodup_nil, (fun a ha => by cases ha), (fun a ha => by cases ha), (fun a ha => by cases ha)⟩, p.le (pure ds _ _ h) ⟨fun S' z F' H' σ' s' => ?_, fun o ⟨nb, z⟩ F' H' v S' σ' s' => ?_, fun _ z => z.elim, fun _ z => z.elim, fun S' e z σ' cls d F' H' s' x => z cls d H' s'.old x⟩⟩
  · unfold startS L2.start
    rw [r.length]
    exact SlL.start r
  · exact z F'.F H' .non [] s'.ext s'.sub s'.old s'.dom ⟨rfl, rfl⟩ List.nodup_nil fun a ha => by cases ha
  · obtain ⟨A, C, ⟨v', vr, A1, A2, e, eA, ho, r2⟩, hC, nd, no, nA, nC⟩ := s'.own
    cases e
    have e2 : A2 = [] := r2.2
    subst e2 eA
    rw [List.append_nil] at nd no
    exact z F'.F H' v A1 s'.ext s'.sub s'.old s'.dom (ho.ow nb) (List.nodup_append.mp nd).1 fun a ha => no a (List.mem_append_left _ ha)
end

/-! ### calls -/
mutual
/-- frozen parts without lists -/
def O.tidy : O → Bool
  | .im d => d.flat
  | .bo _ => false
  | .ls os => O.tidyL os
  | .tp os => O.tidyL os
def O.tidyL : List O → Bool
  | [] => true
  | o :: os => O.tidy o && O.tidyL os
end
mutual
theorem Ow.tidy {G : Gx} {F F' H : Hp} : ∀ (o : O) (v : V) (A : List Addr), o.tidy = true → (∀ a ∈ A, F' a = none) → Ow G F H o v A → Ow G F' H o v A
  | .im d, v, A, t, _, ⟨e, h⟩ => ⟨e, Re.flat d v t h⟩
  | .bo _, _, _, _, _, h => h.elim
  | .ls os, v, A, t, n, ⟨a, vs, B, e, eA, nF, q, z, r⟩ => by
    subst eA
    exact ⟨a, vs, B, e, rfl, n a List.mem_cons_self, q, z, OwL.tidy os vs B t (fun b hb => n b (List.mem_cons_of_mem _ hb)) r⟩
  | .tp os, v, A, t, n, ⟨a, vs, e, q, z, r⟩ => ⟨a, vs, e, q, z, OwL.tidy os vs A t n r⟩
theorem OwL.tidy {G : Gx} {F F' H : Hp} : ∀ (os : List O) (vs : List V) (A : List Addr), O.tidyL os = true → (∀ a ∈ A, F' a = none) → OwL G F H os vs A → OwL G F' H os vs A
  | [], _, _, _, _, h => h
  | o :: os, _, _, t, n, ⟨v, vr, B, C, e, eA, h, r⟩ => by
    subst eA
    have t' : O.tidy o = true ∧ O.tidyL os = true := by simpa [O.tidyL] using t
    exact ⟨v, vr, B, C, e, rfl, Ow.tidy o v B t'.1 (fun b hb => n b (List.mem_append_left _ hb)) h, OwL.tidy os vr C t'.2 (fun b hb => n b (List.mem_append_right _ hb)) r⟩
end
section
variable {c : Cc} {W : WX} {F : Fz} {H : Hp} {Ts os : List O} {ts vs : List V} {S : List (Option O)} {σ : L2.St}
/-- temporaries are frozen -/
theorem Sv.freezeN (s : Sv c F H (os ++ Ts) (vs ++ ts) S σ) (e : os.length = vs.length) (nb : os.all O.nb = true) : ∃ F' : Fz, Same F.F F'.F ∧ Sv c F' H Ts ts S σ ∧ ReL c.G F'.F H (O.erL os) vs := by
  obtain ⟨A, C, hA, hC, nd, no, nA, nC⟩ := s.own
  obtain ⟨A1, A2, eA, h1, h2⟩ := hA.split e
  subst eA
  rw [List.append_assoc] at nd no
  have f := frz_same (F := F.F) (H := H) (A := A1) fun a ha => (h1.own a ha).1
  have g := frz_same (F := F.B) (H := H) (A := A1) fun a ha => nA a (List.mem_append_left _ ha)
  have out : ∀ a ∈ A2 ++ C, a ∉ A1 := fun a ha h1 => (List.nodup_append.mp nd).2.2 a h1 a ha rfl
  refine ⟨⟨PL.frz F.F H A1, PL.frz F.B H A1⟩, f, ⟨fun a o e => f a o (s.ext a o e), frz_mono s.fb, frz_sub s.bh, s.old, fun a ha => ?_, A2, C, ?_, ?_, (List.nodup_append.mp nd).2.1, fun a ha => no a (List.mem_append_right _ ha), fun a ha => ?_, fun a ha => ?_⟩, OwL.frz f os vs A1 (fun a ha => frz_in ha) (h1.owL nb)⟩
  · exact (frz_out fun h1 => ha (no a (List.mem_append_left _ h1))).trans (s.dom a ha)
  · exact h2.monoK f g (.refl _) fun a ha => ⟨(frz_out (out a (List.mem_append_left _ ha))).trans (h2.own a ha).1, rfl⟩
  · exact hC.mono f (.refl _) fun a ha => ⟨(frz_out (out a (List.mem_append_right _ ha))).trans (hC.own a ha).1, rfl⟩
  · exact (frz_out (out a (List.mem_append_left _ ha))).trans (nA a (List.mem_append_right _ ha))
  · exact (frz_out (out a (List.mem_append_right _ ha))).trans (nC a ha)
/-- a new value with lists of its own is pushed -/
theorem Sv.pushOw (s : Sv c F H Ts ts S σ) {H1 : Hp} (h1 : Same H1 H) {o : O} {v : V} {A : List Addr} (h : Ow c.G F.F H o v A) (nd : A.Nodup) (n1 : ∀ a ∈ A, H1 a = none) (nB : ∀ a ∈ A, F.B a = none) (n0 : ∀ a ∈ A, c.H0 a = none)
    (own1 : ∀ A C, TmL c.G F H Ts ts A → SlL c.G F.F H S σ C → (∀ a ∈ A ++ C, H1 a ≠ none)) : Sv c F H (o :: Ts) (v :: ts) S σ := by
  obtain ⟨A', C, hA, hC, nd', no, nA, nC⟩ := s.own
  refine ⟨s.ext, s.fb, s.bh, s.old, s.dom, A ++ A', C, ⟨v, ts, A, A', rfl, rfl, h.vw, hA⟩, hC, ?_, fun a ha => ?_, fun a ha => ?_, nC⟩
  · rw [List.append_assoc]
    exact List.nodup_append.mpr ⟨nd, nd', fun a ha b hb e => own1 A' C hA hC b hb (e ▸ n1 a ha)⟩
  · rw [List.append_assoc] at ha
    rcases List.mem_append.mp ha with ha | ha
    · exact n0 a ha
    · exact no a ha
  · rcases List.mem_append.mp ha with ha | ha
    · exact nB a ha
    · exact nA a ha
/-- behind a call -/
theorem Sv.back (s : Sv c F H Ts ts S σ) {F2 H2 : Hp} (f : Same F.F F2) (k : Same H H2) (b : Same F2 H2) (d : ∀ a, H a ≠ none → F2 a = F.F a) {o : O} {v : V} {A : List Addr} (h : Ow c.G F2 H2 o v A) (nd : A.Nodup) (n : ∀ a ∈ A, H a = none) :
    ∃ F' : Fz, Sv c F' H2 (o :: Ts) (v :: ts) S σ := by
  obtain ⟨A', C, hA, hC, nd', no, nA, nC⟩ := s.own
  have s2 := s.grow f k b d
  -- the same lists are owned as ahead of the call
  have g : Same F.B (joinB F2 F.B) := fun a o e => by
    unfold joinB
    rw [d a (by rw [s.bh a o e]; simp)]
    cases q : F.F a with
    | none => exact e
    | some o' => have := s.fb a o' q; rw [e] at this; exact this.symm
  have st : ∀ a, (F.F a = none ∧ ∃ vs, H a = some (.lst vs)) → F2 a = none ∧ H2 a = H a := fun a ⟨h1, vs, h2⟩ => ⟨(d a (by rw [h2]; simp)).trans h1, (k a _ h2).trans h2.symm⟩
  have hA2 : TmL c.G ⟨F2, joinB F2 F.B⟩ H2 Ts ts A' := hA.monoK f g (.of k) fun a ha => st a (hA.own a ha)
  have hC2 : SlL c.G F2 H2 S σ C := hC.mono f (.of k) fun a ha => st a (hC.own a ha)
  have inH : ∀ a ∈ A' ++ C, H a ≠ none := fun a ha => by
    rcases List.mem_append.mp ha with ha | ha
    · obtain ⟨_, vs, e⟩ := hA.own a ha; rw [e]; simp
    · obtain ⟨_, vs, e⟩ := hC.own a ha; rw [e]; simp
  refine ⟨⟨F2, joinB F2 F.B⟩, s2.ext, s2.fb, s2.bh, s2.old, s2.dom, A ++ A', C, ⟨v, ts, A, A', rfl, rfl, h.vw, hA2⟩, hC2, ?_, fun a ha => ?_, fun a ha => ?_, fun a ha => ?_⟩
  · rw [List.append_assoc]
    exact List.nodup_append.mpr ⟨nd, nd', fun a ha b hb e => inH b hb (e ▸ n a ha)⟩
  · rw [List.append_assoc] at ha
    rcases List.mem_append.mp ha with ha | ha
    · exact s.old.free (n a ha)
    · exact no a ha
  · show joinB F2 F.B a = none
    unfold joinB
    rcases List.mem_append.mp ha with ha | ha
    · rw [(h.own a ha).1]; exact s.bh.free (n a ha)
    · rw [(st a (hA.own a ha)).1]; exact nA a ha
  · show joinB F2 F.B a = H2 a
    unfold joinB
    rw [(st a (hC.own a ha)).1, (st a (hC.own a ha)).2]; exact nC a ha
theorem call_core {R : Ctr} {Q : VK} (s : Sv c F H (os ++ Ts) (vs ++ ts) S σ) (e : os.length = vs.length) {dds : List D} {dvs : List V} (hd : ∀ G F H, ReL G F H dds dvs)
    (h : R.run (O.erL os ++ dds) (fun o => (os.all O.nb = true ∨ o.tidy = true) ∧ ∀ F' H' v, Sv c F' H' (o :: Ts) (v :: ts) S σ → Q v H') (exK c W Ts ts S σ)) : spOf c.G R (vs ++ dvs) H Q (WE W σ) := by
  have exn : ∀ e, exK c W Ts ts S σ e → ∀ cls d H', Same H H' → ExAt c.G H' cls d e → WE W σ cls d H' := fun e z cls d H' k x =>
    z cls d _ H' ((s.popN ‹_›).grow (Same.refl _) k ((s.popN ‹_›).sub.trans k) (fun _ _ => rfl)) x
  by_cases nb : os.all O.nb = true
  · obtain ⟨F1, f, s1, r⟩ := s.freezeN e nb
    refine ⟨F1.F, _, s1.sub, r.append (hd _ _ _), R.mono (fun o ⟨_, z⟩ F2 H2 v A h1 h2 h3 h4 h5 h6 h7 => ?_) exn h⟩
    obtain ⟨F', s'⟩ := s1.back h1 h3 h2 h4 h5 h6 h7
    exact z F' H2 v s'
  · obtain ⟨B, g, s1, r⟩ := s.lend e
    refine ⟨B, _, s1.bh, r.append (hd _ _ _), R.mono (fun o ⟨t, z⟩ F2 H2 v A h1 h2 h3 h4 h5 h6 h7 => ?_) exn h⟩
    have t' : o.tidy = true := t.resolve_left nb
    have n : ∀ a ∈ A, F.F a = none := fun a ha => s.sub.free (h7 a ha)
    obtain ⟨F', s'⟩ := s1.back (F2 := F.F) (Same.refl F.F) h3 (s.sub.trans h3) (fun _ _ => rfl) (Ow.tidy o v A t' n h5) h6 h7
    exact z F' H2 v s'
end
section
variable {X : Cx} {c : Cc} {W : WX} {e o : Expr} {es : List Expr} {q : W1 (List O)} {po : W1 O} {R : Ctr} {k : Nat} {f : Addr} {fd : FuncData} {ps : List Str} {x m : Str} {p pos apos : Pos}
def wCall (q : W1 (List O)) (R : Ctr) : W1 O := ⟨fun S Q E => q.run S (fun os => R.run (O.erL os) (fun o => (os.all O.nb = true ∨ o.tidy = true) ∧ Q o) E) E, fun hq he h => q.mono (fun os z => R.mono (fun o ⟨t, z⟩ => ⟨t, hq _ z⟩) he z) he h⟩
theorem se_call (F : FnOk X.prog X.w X.K X.mg X.base (L2.CX X.prog X.w) k f fd ps (spOf c.G R)) (hr : Room k X.A) (tk : Takes X W) (hm : X.mg x = some (.ref f)) (hk : PySem.W.keepIn X.K (.ref f) = true) (hb : Binds X.K fd ps []) (ha : SA X c W (e :: es) q) (hg : Gl X x := by rfl)
    (hdb : (x == ("__debug__" : Str)) = false := by decide) (he : starEach (e :: es) X.env = (false, eval e X.env) :: starEach es X.env := by rfl) (hpl : (backTo pos (starEach es X.env)).any (·.1) = false := by rfl) :
    SE X c W (.Call (.Name x p) (e :: es) [] pos) (wCall q R) :=
  PE.imp (pe_callS F hr hg hm hk hb (fun σ => passAt tk σ) ha hdb he hpl) fun σ H Q ⟨F, S, Ts, ts, s, h⟩ => ⟨F, S, Ts, ts, s, q.mono (fun os z F1 H1 vs s1 el => by
    have := call_core (dds := []) (dvs := []) s1 el (fun _ _ _ => rfl) (R := R) (Q := Q) (W := W) (by rw [List.append_nil]; exact z)
    rw [List.append_nil] at this
    exact this) (fun _ z => z) h⟩

/-! ### methods of kinds -/
def Kd.isFr : Kd → Bool
  | .b .fr => true
  | _ => false
def Kd.isRs : Kd → Bool
  | .b (.rs _) => true
  | _ => false
def Kd.isPo : Kd → Bool
  | .po _ => true
  | _ => false
def Ctr.on (R : Ctr) (t : Kd → Bool) : Ctr := ⟨fun ds Q E => (∃ k r, ds = .kd k :: r ∧ t k = true) ∧ R.run ds Q E, fun hq he ⟨h, z⟩ => ⟨h, R.mono hq he z⟩⟩
structure MAt (P : Program) (w : World) (K : PySem.W.Frag) (mg : Str → Option Value) (base : Heap) (k : Nat) (C : Addr) (m : Str) (G : Gx) (R : Ctr) (dvs : List V) : Prop where
  cls : Cls K C
  ex : ∃ f fd ps ds, Meth K C m f ∧ FnOk P w K mg base (L2.CX P w) k f fd ps (spOf G R) ∧ Binds K fd ps ds ∧ Vals dvs ds
structure MOk (P : Program) (w : World) (K : PySem.W.Frag) (mg : Str → Option Value) (base : Heap) (k : Nat) (m : Str) (G : Gx) (b : Bool) (R : Ctr) (dvs : List V) : Prop where
  fr : MAt P w K mg base k G.CF m G (R.on Kd.isFr) dvs
  rs : MAt P w K mg base k G.CR m G (R.on Kd.isRs) dvs
  po : b = true → MAt P w K mg base k G.CP m G (R.on Kd.isPo) dvs
  nm : ¬ m = ("prime" : Str) ∧ ¬ m = ("under" : Str)
def wMeth (b : Bool) (po : W1 O) (q : W1 (List O)) (R : Ctr) (dds : List D) : W1 O := ⟨fun S Q E => po.run S (fun o => ∃ k, o = .im (.kd k) ∧ (k.isPo = true → b = true) ∧ q.run S (fun os => R.run (.kd k :: O.erL os ++ dds) (fun u => (os.all O.nb = true ∨ u.tidy = true) ∧ Q u) E) E) E,
  fun hq he h => po.mono (fun o ⟨k, e, hb, z⟩ => ⟨k, e, hb, q.mono (fun os z => R.mono (fun u ⟨t, z⟩ => ⟨t, hq _ z⟩) he z) he z⟩) he h⟩
theorem kind_at {P : Program} {w : World} {K : PySem.W.Frag} {mg : Str → Option Value} {base : Heap} {G : Gx} {H : Hp} {kd : Kd} {v : V} {b : Bool} {dvs : List V} (M : MOk P w K mg base k m G b R dvs) (h : KindAt G H kd v) (hb : kd.isPo = true → b = true) :
    ∃ a C dx fs t, v = .ref a ∧ H a = some (.ins C dx fs) ∧ fs.lookup m = none ∧ MAt P w K mg base k C m G (R.on t) dvs ∧ t kd = true := by
  have n1 : (m == ("prime" : Str)) = false := by simpa using M.nm.1
  have n2 : (m == ("under" : Str)) = false := by simpa using M.nm.2
  match kd, h with
  | .b .fr, ⟨a, dx, e, q⟩ => exact ⟨a, _, dx, _, Kd.isFr, e, q, rfl, M.fr, rfl⟩
  | .b (.rs p), ⟨a, dx, e, q⟩ => exact ⟨a, _, dx, _, Kd.isRs, e, q, by simp [List.lookup, n1], M.rs, rfl⟩
  | .po _, ⟨a, dx, u, e, q, _⟩ => exact ⟨a, _, dx, _, Kd.isPo, e, q, by simp [List.lookup, n2], M.po (hb rfl), rfl⟩
theorem se_meth {b : Bool} {dds : List D} {dvs : List V} {pl : Sem Bool} (M : MOk X.prog X.w X.K X.mg X.base k m c.G b R dvs) (hr : Room k X.A) (tk : Takes X W) (hd : ∀ G F H, ReL G F H dds dvs) (ho : SE X c W o po) (ha : SA X c W (e :: es) q)
    (hst : starEach (e :: es) X.env = (false, eval e X.env) :: starEach es X.env := by rfl) (hpl : (backTo pos (starEach es X.env)).any (·.1) = false := by rfl)
    (ht : eval (.Call (.Attribute o m apos) (e :: es) [] pos) X.env = (do
      let ov ← eval o X.env
      standAt apos.atName
      let (g, first) ← holding [ov] (getMethod ov m pl)
      callWith pos g first (backTo pos (starEach (e :: es) X.env)) (backToKw pos (keywordEach [] X.env))) := by rfl) :
    SE X c W (.Call (.Attribute o m apos) (e :: es) [] pos) (wMeth b po q R dds) := by
  refine ⟨fun pins s σ H Q I ⟨F, S, Ts, ts, sv, h⟩ => ?_⟩
  refine PySem.W.methodCall_KW (pl := pl) (thn (ho.run pins s σ H (fun v H1 => ∃ F1 kd, Sv c F1 H1 (.im (.kd kd) :: Ts) (v :: ts) S σ ∧ (kd.isPo = true → b = true) ∧ q.run S (fun os => R.run (.kd kd :: O.erL os ++ dds) (fun u => (os.all O.nb = true ∨ u.tidy = true) ∧ ∀ F' H' v, Sv c F' H' (u :: Ts) (v :: ts) S σ → Q v H') (exK c W Ts ts S σ)) (exK c W Ts ts S σ)) I
    ⟨F, S, Ts, ts, sv, W1.le _ h (fun o' ⟨kd, eo, hb, z⟩ F1 H1 v s1 => ⟨F1, kd, eo ▸ s1, hb, z⟩) (fun _ z => z)⟩) fun u s1 ⟨v, H1, I1, rv, F1, kd, sv1, hb, z⟩ => ?_) ht
  obtain ⟨a, C, dx, fs, t, ev, hH, hl, ⟨cl, g, fd, ps, ds, hm, hF, hB, hV⟩, hk⟩ := kind_at M (show KindAt c.G H1 kd v from sv1.topIm) hb
  subst ev
  obtain rfl : u = Value.ref a := rv
  refine getmeth_ok I1 hH cl hm hl ?_
  refine PySem.W.callWith_K (first := [.ref a]) (h₀ := X.base) I.ok.mod.kin hm.kp (thn (ha.run pos pins s1 σ H1 (fun vs H2 => spOf c.G (R.on t) (.ref a :: vs ++ dvs) H2 Q (WE W σ)) I1 ?_) fun us s2 ⟨vs, H2, I2, r, q2⟩ => ⟨I2.kIn, ?_⟩) hst hpl
  · refine ⟨F1, S, _, _, sv1, W1.le _ z (fun os zz F2 H2 vs s2 el => ?_) (fun _ z => exK.pop _ z)⟩
    have s3 := s2.rot el
    refine call_core (R := R.on t) (os := .im (.kd kd) :: os) (vs := .ref a :: vs) s3 (by simp [el]) hd ⟨⟨kd, _, rfl, hk⟩, R.mono (fun u ⟨t, z⟩ => ⟨t.imp (fun h => by simp only [List.all_cons, h]; rfl) id, z⟩) (fun _ z => z) zz⟩
  · exact run_fnSD (dvs := dvs) (us := .ref a :: us) (vs := .ref a :: vs) (E := WE W) hF hr hB hV (passAt tk σ) I2 (.cons rfl r) q2
end
end PL

/-! P9 -/
set_option Elab.async false
set_option linter.all false
set_option maxRecDepth 100000
set_option maxHeartbeats 4000000
/-! P9: more statements; a def as callers want it. -/
namespace PL
open PySem PySem.Spec L2
theorem len3 {α : Type} {vs : List α} (h : 3 = vs.length) : ∃ u v w, vs = [u, v, w] := by
  match vs, h with
  | [u, v, w], _ => exact ⟨u, v, w, rfl⟩
section
variable {X : Cx} {c : Cc} {W : WX} {a b e d : Expr} {pa pb pd pe : W1 O} {pos : Pos}
def sPar3 (i j l : Nat) (q : W1 (List O)) : WS := ⟨fun S D => q.run S (fun os => ∃ x y z, os = [x, y, z] ∧ x.nb = true ∧ y.nb = true ∧ z.nb = true ∧ i < S.length ∧ j < S.length ∧ l < S.length ∧ D.nx (((S.set i (some x)).set j (some y)).set l (some z))) (D.ex S),
  fun hl h => q.mono (fun os ⟨x, y, z, e, n1, n2, n3, h1, h2, h3, t⟩ => ⟨x, y, z, e, n1, n2, n3, h1, h2, h3, hl.nx _ t⟩) (fun e z => hl.ex _ e z) h⟩
theorem ss_par3 {i j l : Nat} {x y z : Str} {a b d : Expr} {qa : W1 (List O)} {px py pz pt : Pos} {kt k2 pt2} (hc : X.calm = true) (hN : X.N.Nodup) (hi : X.N[i]? = some x) (hj : X.N[j]? = some y) (hl : X.N[l]? = some z) (hij : i ≠ j) (hil : i ≠ l) (hjl : j ≠ l)
    (hx : X.env.scope.names.lookup x = some .local) (hy : X.env.scope.names.lookup y = some .local) (hz : X.env.scope.names.lookup z = some .local) (ha : SA X c W [a, b, d] qa)
    (hw : swappedStores [.Tuple [.Name x px, .Name y py, .Name z pz] kt pt] (.Tuple [a, b, d] k2 pt2) X.env = pure (some [x, y, z]))
    (hs : swapsWithSole [.Tuple [.Name x px, .Name y py, .Name z pz] kt pt] (.Tuple [a, b, d] k2 pt2) pos.line X.env = pure false := by rfl) :
    SS X c W (.Assign [.Tuple [.Name x px, .Name y py, .Name z pz] kt pt] (.Tuple [a, b, d] k2 pt2) pos) (sPar3 i j l qa) :=
  PS.imp (ps_par3 hc hN hi hj hl hij hil hjl hx hy hz ha hw hs) fun D σ H ⟨F, S, Ts, ts, nb, s, h⟩ => ⟨F, S, Ts, ts, s, qa.mono (fun os ⟨u, v, w, eo, n1, n2, n3, l1, l2, l3, t⟩ F' H' vs s' e => by
    subst eo
    obtain ⟨v1, v2, v3, rfl⟩ := len3 e
    have s1 : Sv c F' H' (u :: v :: w :: Ts) (v1 :: v2 :: v3 :: ts) S σ := s'
    obtain ⟨F2, _, _, s2⟩ := s1.put n1 l1
    obtain ⟨F3, _, _, s3⟩ := s2.put n2 (by rw [List.length_set]; exact l2)
    obtain ⟨F4, _, _, s4⟩ := s3.put n3 (by rw [List.length_set, List.length_set]; exact l3)
    exact ⟨v1, v2, v3, rfl, t F4 H' _ s4⟩) (fun e z => exK.st z) h⟩
/-- a < b < d of whole numbers -/
def wCh (pa pb pd : W1 O) (g g' : Int → Int → Bool) : W1 O := ⟨fun S Q E => pa.run S (fun x => pb.run S (fun y => ∃ i j, x = O.i i ∧ y = O.i j ∧ if g i j = true then pd.run S (fun z => ∃ k, z = O.i k ∧ Q (O.t (g' j k))) E else Q (O.t false)) E) E,
  fun hq he h => pa.mono (fun x z => pb.mono (fun y ⟨i, j, e1, e2, z⟩ => ⟨i, j, e1, e2, by
    cases hb : g i j
    · rw [hb, if_neg Bool.false_ne_true] at z
      rw [if_neg Bool.false_ne_true]
      exact hq _ z
    · rw [hb, if_pos rfl] at z
      rw [if_pos rfl]
      exact pd.mono (fun w ⟨k, e, z⟩ => ⟨k, e, hq _ z⟩) he z⟩) he z) he h⟩
theorem lift_ch {g g' : Int → Int → Bool} (σ : L2.St) (H : Hp) (Q : VK) (h : lift c W (wCh pa pb pd g g') σ H Q) : tChain (rI0 fun i j => .bl (g i j)) (rI0 fun i j => .bl (g' i j)) (lift c W pa) (lift c W pb) (lift c W pd) σ H Q := by
  obtain ⟨F, S, Ts, ts, s, h⟩ := h
  refine ⟨F, S, Ts, ts, s, pa.mono (fun x hx F1 H1 v s1 => ?_) (fun _ z => z) h⟩
  refine ⟨F1, S, _, _, s1, pb.mono (fun y ⟨i, j, e1, e2, z⟩ F2 H2 u s2 => ?_) (fun _ z => exK.pop _ z) hx⟩
  subst e1 e2
  refine ⟨i, j, s2.pop.int, s2.int, _, rfl, ?_⟩
  cases hb : g i j
  · rw [hb, if_neg Bool.false_ne_true] at z
    rw [if_neg Bool.false_ne_true]
    exact z F2 H2 _ (s2.pop.pop.pushIm rfl)
  · rw [hb, if_pos rfl] at z
    rw [if_pos rfl]
    refine ⟨F2, S, _, _, s2, pd.mono (fun w ⟨k, e, z⟩ F3 H3 t s3 => ?_) (fun _ z => exK.pop _ (exK.pop _ z)) z⟩
    subst e
    exact ⟨j, k, s2.int, s3.int, z F3 H3 _ (s3.pop.pop.pop.pushIm rfl)⟩
theorem se_ch {op op' : CmpOp} {g g' : Int → Int → Bool} (ho : OpR X (compareOp op) (rI0 fun i j => .bl (g i j))) (ho' : OpR X (compareOp op') (rI0 fun i j => .bl (g' i j))) (ha : SE X c W a pa) (hb : SE X c W b pb) (hd : SE X c W d pd)
    (hm : lastMarks [op, op'] [b, d] = false := by with_unfolding_all rfl) : SE X c W (.Compare a [op, op'] [b, d] pos) (wCh pa pb pd g g') := PE.imp (pe_chain ho ho' ha hb hd hm) lift_ch
theorem st_ch {op op' : CmpOp} {g g' : Int → Int → Bool} (ho : OpR X (compareOp op) (rI0 fun i j => .bl (g i j))) (ho' : OpR X (compareOp op') (rI0 fun i j => .bl (g' i j))) (ha : SE X c W a pa) (hb : SE X c W b pb) (hd : SE X c W d pd)
    (hm : lastMarks [op, op'] [b, d] = false := by with_unfolding_all rfl) : ST X c W (.Compare a [op, op'] [b, d] pos) (wT (wCh pa pb pd g g')) := PT.imp (pt_chain ho ho' ha hb hd hm) fun σ H Q ⟨F, S, Ts, ts, s, h⟩ =>
  lift_ch (W := W) σ H _ ⟨F, S, Ts, ts, s, W1.le (wCh pa pb pd g g') (Q := fun o => ∃ b, o = O.t b ∧ ∀ F' H', Sv c F' H' Ts ts S σ → Q b H') h (fun o ⟨b, e, q⟩ F1 H1 v s1 => by subst e; exact ⟨b, s1.bl, q F1 H1 s1.pop⟩) (fun _ z => z)⟩
/-! fields of kinds -/
def uPrime : U1 := ⟨fun a Q => ∃ p, a = .im (.kd (.b (.rs p))) ∧ Q (O.i p), fun hq ⟨p, e, q⟩ => ⟨p, e, hq _ q⟩⟩
def uUnder : U1 := ⟨fun a Q => ∃ b, a = .im (.kd (.po b)) ∧ Q (.im (.kd (.b b))), fun hq ⟨p, e, q⟩ => ⟨p, e, hq _ q⟩⟩
theorem se_prime (cl : Cls X.K c.G.CR) (no : NoAttr X.K c.G.CR "prime") (ha : SE X c W a pa) (hb : attributeBase a "prime" X.env (eval a X.env) = eval a X.env := by rfl) : SE X c W (.Attribute a "prime" pos) (w1 pa uPrime) :=
  PE.imp (pe_fld ha hb) fun σ H Q h => lift_1 (W := W) (r := fun x H1 Q => ∃ a C dx fs v, x = .ref a ∧ H1 a = some (.ins C dx fs) ∧ Cls X.K C ∧ NoAttr X.K C "prime" ∧ fs.lookup ("prime" : Str) = some v ∧ Q v H1) (u := uPrime) (fun F H Ts ts S σ a x Q s ⟨p, e, q⟩ => by
    subst e
    obtain ⟨r, dx, ex, hr⟩ := (show KindAt c.G H (.b (.rs p)) x from s.topIm)
    exact ⟨r, _, dx, _, _, ex, hr, cl, no, by simp [List.lookup], q F H _ (s.pop.pushIm rfl)⟩) σ H Q h
theorem se_under (cl : Cls X.K c.G.CP) (no : NoAttr X.K c.G.CP "under") (ha : SE X c W a pa) (hb : attributeBase a "under" X.env (eval a X.env) = eval a X.env := by rfl) : SE X c W (.Attribute a "under" pos) (w1 pa uUnder) :=
  PE.imp (pe_fld ha hb) fun σ H Q h => lift_1 (W := W) (r := fun x H1 Q => ∃ a C dx fs v, x = .ref a ∧ H1 a = some (.ins C dx fs) ∧ Cls X.K C ∧ NoAttr X.K C "under" ∧ fs.lookup ("under" : Str) = some v ∧ Q v H1) (u := uUnder) (fun F H Ts ts S σ a x Q s ⟨b, e, q⟩ => by
    subst e
    obtain ⟨r, dx, u, ex, hr, hu⟩ := (show KindAt c.G H (.po b) x from s.topIm)
    refine ⟨r, _, dx, _, u, ex, hr, cl, no, by simp [List.lookup], q F H _ (s.pop.pushIm ?_)⟩
    cases b <;> exact hu) σ H Q h
end
/-- a def of the text, as it stands behind the top -/
structure AtD (K : PySem.W.Frag) (mg : Str → Option Value) (x qual : Str) (st : Stmt) : Prop where
  ex : ∃ f fd, Fun K x qual st f fd ∧ mg x = some (.ref f)
/-- a def as callers want it -/
structure DOk (P : Program) (w : World) (K : PySem.W.Frag) (mg : Str → Option Value) (base : Heap) (x : Str) (k : Nat) (G : Gx) (R : Ctr) : Prop where
  ex : ∃ f fd ps, FnOk P w K mg base (L2.CX P w) k f fd ps (spOf G R) ∧ mg x = some (.ref f) ∧ PySem.W.keepIn K (.ref f) = true ∧ Binds K fd ps []
theorem se_d {X : Cx} {c : Cc} {W : WX} {x : Str} {k j : Nat} {R : Ctr} {e : Expr} {es : List Expr} {q : W1 (List O)} {p pos : Pos} (D : DOk X.prog X.w X.K X.mg X.base x k c.G R) (hr : Room j X.A) (hk : k ≤ j) (tk : Takes X W) (ha : SA X c W (e :: es) q) (hg : Gl X x := by rfl)
    (hdb : (x == ("__debug__" : Str)) = false := by decide) (he : starEach (e :: es) X.env = (false, eval e X.env) :: starEach es X.env := by rfl) (hpl : (backTo pos (starEach es X.env)).any (·.1) = false := by rfl) :
    SE X c W (.Call (.Name x p) (e :: es) [] pos) (wCall q R) := by
  obtain ⟨f, fd, ps, F, hm, hkp, hb⟩ := D.ex
  exact se_call F (hr.mono hk) tk hm hkp hb ha hg hdb he hpl
section
variable {P : Program} {w : World} {K : PySem.W.Frag} {mg : Str → Option Value} {base : Heap} {G : Gx}
theorem d_of {x qual : Str} {st : Stmt} {N ps : List Str} {k : Nat} {R : Ctr} {p : WS} (T : AtD K mg x qual st) (S : FnScope N ps (defScope st)) (bd : ∀ f fd, Fun K x qual st f fd → Binds K fd ps []) (len : ∀ ds Q E, R.run ds Q E → ds.length = ps.length)
    (hbody : ∀ (f : Addr) (cdv : Value) (A : Around) (outer : List Env) (s : Shared) (H F0 : Hp) (E : XK), Room k (A.deeper (PyProof.Rows.envOfC qual (defScope st) s.heap.objs.size f cdv)) →
      SSs (cxOf (L2.CX P w) P w K mg base N qual (defScope st) f cdv A outer s H E) ⟨G, F0, H⟩ (fun cls d _ H => E cls d H) (defBody st) p)
    (pure : ∀ ds Q E, R.run ds Q E → p.run (startS N ds) (bodyK Q E)) : DOk P w K mg base x (k + 1) G R := by
  obtain ⟨f, fd, F, hm⟩ := T.ex
  exact ⟨f, fd, ps, ok_of F S len (hbody f) pure, hm, F.kp, bd f fd F⟩
end

/-! short names that the readings bear -/
abbrev uMul : U2 := uI PySem.IntMulOk (· * ·)
abbrev uMod : U2 := uI (fun _ j => j ≠ 0) Int.fmod
abbrev uDiv : U2 := uI (fun _ j => j ≠ 0 ∧ j.natAbs.log2 < 9000) Int.fdiv
abbrev uPow : U2 := uI CPow fun i j => i ^ j.toNat
abbrev uNeg : U1 := uIU fun i => -i
abbrev uAbs : U1 := uIU fun i => if i < 0 then -i else i
abbrev gLt : Int → Int → Bool := fun i j => decide (i < j)
abbrev gLe : Int → Int → Bool := fun i j => decide (i ≤ j)
abbrev gGt : Int → Int → Bool := fun i j => decide (j < i)
abbrev gGe : Int → Int → Bool := fun i j => decide (j ≤ i)
abbrev uLt : U2 := uIB gLt
abbrev uLe : U2 := uIB gLe
abbrev uGt : U2 := uIB gGt
abbrev uGe : U2 := uIB gGe
/-- a def's reading keeps its contract -/
def Keeps (N : List Str) (w : WS) (R : Ctr) : Prop := ∀ ds Q E, R.run ds Q E → w.run (startS N ds) (bodyK Q E)
/-- a contract «where the arguments are so, hands back that» -/
def Ctr.fn {α : Type} (args : α → List D) (pre : α → Prop) (val : α → O) : Ctr := ⟨fun ds Q _ => ∃ a, ds = args a ∧ pre a ∧ Q (val a), fun hq _ ⟨a, e, p, q⟩ => ⟨a, e, p, hq _ q⟩⟩

section
variable {d : D} {os : List O} {o : O}
theorem nb_im : O.nb (.im d) = true := rfl
theorem nb_ls : O.nb (.ls os) = true := rfl
theorem nb_tp : O.nb (.tp os) = true := rfl
theorem nb_bo : O.nb (.bo d) = false := rfl
theorem vw_im : O.vw (.im d) = .im d := rfl
theorem vw_ls : O.vw (.ls os) = .bo (.lst (O.erL os)) := rfl
theorem vw_tp : O.vw (.tp os) = .bo (.tup (O.erL os)) := rfl
theorem er_im : O.er (.im d) = d := rfl
theorem er_bo : O.er (.bo d) = d := rfl
theorem er_ls : O.er (.ls os) = .lst (O.erL os) := rfl
theorem er_tp : O.er (.tp os) = .tup (O.erL os) := rfl
theorem erL_nil : O.erL [] = [] := rfl
theorem erL_cons : O.erL (o :: os) = o.er :: O.erL os := rfl
theorem erL_im (ds : List D) : O.erL (ds.map .im) = ds := by
  rw [O.erL_map, List.map_map]
  exact List.map_id ds
theorem mkT_im (ds : List D) : mkT (ds.map .im) = .im (.tup ds) := by
  unfold mkT
  have : (ds.map O.im).all O.isIm = true := by
    rw [List.all_map]
    exact List.all_eq_true.mpr fun _ _ => rfl
  rw [if_pos this, erL_im]
theorem mkL_im (ds : List D) : mkL (ds.map .im) = .ls (ds.map .im) := by
  unfold mkL
  rw [if_pos]
  rw [List.all_map]
  exact List.all_eq_true.mpr fun _ _ => rfl
theorem its_iml {ds : List D} : O.its (.im (.lst ds)) = some (ds.map .im) := rfl
theorem its_imt {ds : List D} : O.its (.im (.tup ds)) = some (ds.map .im) := rfl
theorem its_scr {ns : List Int} : O.its (.im (.scr ns)) = some (ns.map O.i) := rfl
theorem its_bol {ds : List D} : O.its (.bo (.lst ds)) = some (ds.map mkBo) := rfl
theorem its_bot {ds : List D} : O.its (.bo (.tup ds)) = some (ds.map mkBo) := rfl
theorem its_ls : O.its (.ls os) = some ((O.erL os).map .im) := rfl
theorem its_tp : O.its (.tp os) = some ((O.erL os).map .im) := rfl
theorem trk_iml {ds : List D} : O.isTrk (.im (.lst ds)) = true := rfl
theorem trk_bol {ds : List D} : O.isTrk (.bo (.lst ds)) = true := rfl
theorem trk_ls : O.isTrk (.ls os) = true := rfl
theorem isL_iml {ds : List D} : O.isL (.im (.lst ds)) = true := rfl
theorem isL_scr {ns : List Int} : O.isL (.im (.scr ns)) = true := rfl
theorem isL_bol {ds : List D} : O.isL (.bo (.lst ds)) = true := rfl
theorem isL_ls : O.isL (.ls os) = true := rfl
theorem fz_im : O.fz (.im d) = .im d := rfl
theorem fz_bo : O.fz (.bo d) = .bo d := rfl
theorem fz_ls : O.fz (.ls os) = .im (.lst (O.erL os)) := rfl
theorem fz_tp : O.fz (.tp os) = .im (.tup (O.erL os)) := rfl
theorem ty_int {n : Int} : D.ty (.int n) = some "int" := rfl
theorem ty_bl {b : Bool} : D.ty (.bl b) = some "bool" := rfl
theorem ty_str {b : Str} : D.ty (.str b) = some "str" := rfl
theorem ty_non : D.ty .non = some "NoneType" := rfl
theorem ty_tup {ds : List D} : D.ty (.tup ds) = some "tuple" := rfl
theorem ty_lst {ds : List D} : D.ty (.lst ds) = some "list" := rfl
theorem len_lst {ds : List D} : D.len (.lst ds) = some ds.length := rfl
theorem len_tup {ds : List D} : D.len (.tup ds) = some ds.length := rfl
theorem len_scr {ns : List Int} : D.len (.scr ns) = some ns.length := rfl
theorem all_im1 : List.all [O.im d] O.nb = true := rfl
theorem all_nil : List.all ([] : List O) O.nb = true := rfl
theorem all_cons : List.all (o :: os) O.nb = (o.nb && os.all O.nb) := rfl
theorem Ctr.fn_run {α : Type} {args : α → List D} {pre : α → Prop} {val : α → O} {ds : List D} {Q : O → Prop} {E : Ex → Prop} (a : α) (h : ds = args a) (p : pre a) (q : Q (val a)) : (Ctr.fn args pre val).run ds Q E := ⟨a, h, p, q⟩
end
end PL

/-! P10 -/
set_option Elab.async false
set_option linter.all false
set_option maxRecDepth 100000
set_option maxHeartbeats 4000000
/-! P10: walking a list or a tuple. -/
namespace PL
open PySem PySem.Spec L2

/-- a list or a tuple is walked -/
def iAny (K : PySem.W.Frag) (tl : TE) : TI := fun σ H R => tl σ H fun x H1 => ∃ a, x = .ref a ∧ ((∃ xs, SqL K H1 a xs) ∧ R (Itl K a) H1 ∨ (∃ xs, SqT K H1 a xs) ∧ R (Itt K a) H1)
theorem pi_any {X : Cx} {tg l : Expr} {tl : TE} (hl : PE X l tl) : PI X tg l (iAny X.K tl) := by
  refine ⟨fun pins s σ H R I h => ?_⟩
  refine thn (hl.run pins s σ H _ I h) fun v s1 ⟨x, H1, I1, r1, q1⟩ => ?_
  obtain ⟨a, e, q⟩ := q1
  subst e
  cases r1
  rcases q with ⟨⟨xs, hq⟩, q⟩ | ⟨⟨xs, hq⟩, q⟩
  · obtain ⟨its, rv, p, hz⟩ := I1.list hq
    refine wpAny_pyIter_list p.isList ?_
    refine ⟨s1.heap.objs.size, [s1.heap.objs.size], _, _, H1, rfl, I1.kept (t' := s1.toks) fun b o e => Heap.get?_push_of_some _ e, turn_list a _, ⟨_, Heap.get?_push_size _ rfl, rfl, rfl⟩, fun b hb => ?_, q⟩
    have e : b = s1.heap.objs.size := by simpa using hb
    subst e
    exact I1.fpOk (Nat.le_refl _) (I1.hok.fresh (Nat.le_refl _))
  · obtain ⟨its, rv, p, hz⟩ := I1.tuple hq
    refine wpAny_pyIter_tuple (show s1.heap.IsTuple a its.toArray from p) ?_
    refine ⟨s1.heap.objs.size, [s1.heap.objs.size], _, _, H1, rfl, I1.kept (t' := s1.toks) fun b o e => Heap.get?_push_of_some _ e, turn_tuple a _, ⟨_, Heap.get?_push_size _ rfl, rfl, rfl⟩, fun b hb => ?_, q⟩
    have e : b = s1.heap.objs.size := by simpa using hb
    subst e
    exact I1.fpOk (Nat.le_refl _) (I1.hok.fresh (Nat.le_refl _))
def wItA (p : W1 O) : W1 Wk := ⟨fun S Q E => p.run S (fun o => ∃ os, o.its = some os ∧ o.isTrk = o.isL ∧ Q ⟨[o.fz], os⟩) E, fun hq he h => p.mono (fun o ⟨os, e, t, q⟩ => ⟨os, e, t, hq _ q⟩) he h⟩
section
variable {X : Cx} {c : Cc} {W : WX} {tg a b e : Expr} {pa pb : W1 O} {q : W1 (List O)} {pos : Pos}
theorem O.fz_isL (o : O) : o.fz.isL = o.isL := by
  match o with
  | .im _ => rfl
  | .bo _ => rfl
  | .ls os => rfl
  | .tp os => rfl
theorem walk_tup {o : O} {os : List O} {p : Addr} (h : o.its = some os) (t : o.isL = false) (z : os.length ≤ sizeLine) : WalkOk c (Itt c.G.K p) ⟨[o.fz], os⟩ [.ref p] := by
  refine ⟨z, fun F H Ts ts S σ s => ?_⟩
  have s0 : Sv c F H (o.fz :: Ts) (.ref p :: ts) S σ := s
  obtain ⟨F', p', vs, h1⟩ := s0.items ((O.fz_its o).trans h)
  rcases h1 with ⟨_, _, s1, ev, hs, _, ⟨el, hi⟩, _⟩ | ⟨h2, _⟩
  · cases ev
    rw [O.fz_isL, t, if_neg Bool.false_ne_true] at hs
    refine ⟨fun i hi' => ⟨vs, hs, by rw [← el]; exact hi'⟩, fun i u hu => ?_⟩
    obtain ⟨v, hv, hw⟩ := hi i u hu
    refine ⟨⟨vs, v, hs, hv⟩, fun x H' ⟨eH, y⟩ => ?_⟩
    subst eH
    have := y vs hs
    rw [hv] at this
    cases this
    rw [O.fz_fz] at s1
    exact ⟨F', s1.push hw⟩
  · rw [O.fz_isL, t] at h2; cases h2
theorem si_any (hK : X.K = c.G.K) (ha : SE X c W a pa) : SI X c W tg a (wItA pa) :=
  PI.imp (pi_any ha) fun σ H R ⟨F, S, Ts, ts, s, h⟩ => ⟨F, S, Ts, ts, s, pa.mono (fun o ⟨os, e, t, q⟩ F1 H1 v s1 => by
    obtain ⟨F', p, vs, h1⟩ := s1.items e
    rcases h1 with ⟨_, _, s2, ev, hs, _, hi, z⟩ | ⟨h1, h2, _⟩
    · subst ev
      rw [hK]
      cases hb : o.isL
      · rw [hb, if_neg Bool.false_ne_true] at hs
        exact ⟨p, rfl, .inr ⟨⟨vs, hs⟩, q F' H1 _ [.ref p] s2 rfl (walk_tup e hb z)⟩⟩
      · rw [hb, if_pos rfl] at hs
        exact ⟨p, rfl, .inl ⟨⟨vs, hs⟩, q F' H1 _ [.ref p] s2 rfl (walk_list e (t.trans hb) z)⟩⟩
    · rw [h1, h2] at t; cases t) (fun _ z => z) h⟩
end
instance {i j : Int} : Decidable (CPow i j) := inferInstanceAs (Decidable (0 ≤ j ∧ j ≤ 1000000 ∧ i.natAbs < 2 ^ 64))
def Ctr.rel {α β : Type} (args : α → List D) (pre : α → Prop) (post : α → β → Prop) (val : α → β → O) : Ctr := ⟨fun ds Q _ => ∃ a, ds = args a ∧ pre a ∧ ∀ b, post a b → Q (val a b), fun hq _ ⟨a, e, p, q⟩ => ⟨a, e, p, fun o h => hq _ (q o h)⟩⟩
theorem trk_imt {ds : List D} : O.isTrk (.im (.tup ds)) = false := rfl
theorem trk_bot {ds : List D} : O.isTrk (.bo (.tup ds)) = false := rfl
theorem trk_tp {os : List O} : O.isTrk (.tp os) = false := rfl
theorem isL_imt {ds : List D} : O.isL (.im (.tup ds)) = false := rfl
theorem isL_bot {ds : List D} : O.isL (.bo (.tup ds)) = false := rfl
theorem isL_tp {os : List O} : O.isL (.tp os) = false := rfl
theorem isB_int_int : isB "int" "int" = true := by decide
theorem isB_int_bool : isB "int" "bool" = false := by decide
theorem isB_int_str : isB "int" "str" = false := by decide
theorem isB_int_tuple : isB "int" "tuple" = false := by decide
theorem isB_int_list : isB "int" "list" = false := by decide
theorem isB_bool_int : isB "bool" "int" = true := by decide
theorem isB_bool_bool : isB "bool" "bool" = true := by decide
theorem isB_bool_str : isB "bool" "str" = false := by decide
theorem isB_bool_tuple : isB "bool" "tuple" = false := by decide
theorem isB_bool_list : isB "bool" "list" = false := by decide
theorem isB_str_int : isB "str" "int" = false := by decide
theorem isB_str_bool : isB "str" "bool" = false := by decide
theorem isB_str_str : isB "str" "str" = true := by decide
theorem isB_str_tuple : isB "str" "tuple" = false := by decide
theorem isB_str_list : isB "str" "list" = false := by decide
theorem isB_tuple_int : isB "tuple" "int" = false := by decide
theorem isB_tuple_bool : isB "tuple" "bool" = false := by decide
theorem isB_tuple_str : isB "tuple" "str" = false := by decide
theorem isB_tuple_tuple : isB "tuple" "tuple" = true := by decide
theorem isB_tuple_list : isB "tuple" "list" = false := by decide
theorem ty_dic : D.ty .dic = some "dict" := rfl
theorem isB_dict_int : isB "dict" "int" = false := by decide
theorem isB_dict_bool : isB "dict" "bool" = false := by decide
theorem isB_dict_str : isB "dict" "str" = false := by decide
theorem isB_dict_tuple : isB "dict" "tuple" = false := by decide
theorem isB_dict_list : isB "dict" "list" = false := by decide
theorem mkL_0 : mkL [] = .ls [] := rfl
theorem isB_list_int : isB "list" "int" = false := by decide
theorem isB_list_bool : isB "list" "bool" = false := by decide
theorem isB_list_str : isB "list" "str" = false := by decide
theorem isB_list_tuple : isB "list" "tuple" = false := by decide
theorem isB_list_list : isB "list" "list" = true := by decide
theorem isB_NoneType_int : isB "NoneType" "int" = false := by decide
theorem isB_NoneType_bool : isB "NoneType" "bool" = false := by decide
theorem isB_NoneType_str : isB "NoneType" "str" = false := by decide
theorem isB_NoneType_tuple : isB "NoneType" "tuple" = false := by decide
theorem isB_NoneType_list : isB "NoneType" "list" = false := by decide
/-! loops, as the pure side sees them -/
def forI (items : List O) (g : WG) (p : WS) (S : List (Option O)) (D : PEnds) : Prop :=
  ∃ I : Nat → List (Option O) → Prop, I 0 S ∧ (∀ i o S, items[i]? = some o → I i S → g.run o S (fun S' => p.run S' ⟨I (i + 1), D.rt, D.nx, I (i + 1), D.ex⟩)) ∧ ∀ S, I items.length S → D.nx S
theorem sFor_run {w : W1 Wk} {g : WG} {p : WS} {S : List (Option O)} {D : PEnds} : (sFor w g p).run S D = w.run S (fun w => (∀ o ∈ w.srcs, o.nb = true) ∧ forI w.items g p S D) (D.ex S) := rfl
def unr (g : WG) (p : WS) (D : PEnds) : List O → List (Option O) → Prop
  | [], S => D.nx S
  | o :: r, S => g.run o S (fun S' => p.run S' ⟨unr g p D r, D.rt, D.nx, unr g p D r, D.ex⟩)
theorem forI_unr {items : List O} {g : WG} {p : WS} {S : List (Option O)} {D : PEnds} (h : unr g p D items S) : forI items g p S D := by
  refine ⟨fun i S => unr g p D (items.drop i) S, by simpa using h, fun i o S ho h => ?_, fun S h => ?_⟩
  · obtain ⟨hi, e⟩ := List.getElem?_eq_some_iff.mp ho
    have h' : unr g p D (items.drop i) S := h
    rw [List.drop_eq_getElem_cons hi, e] at h'
    exact h'
  · have h' : unr g p D (items.drop items.length) S := h
    rw [List.drop_length] at h'
    exact h'
theorem unr_nil {g : WG} {p : WS} {D : PEnds} {S : List (Option O)} : unr g p D [] S = D.nx S := rfl
theorem unr_cons {g : WG} {p : WS} {D : PEnds} {o : O} {r : List O} {S : List (Option O)} : unr g p D (o :: r) S = g.run o S (fun S' => p.run S' ⟨unr g p D r, D.rt, D.nx, unr g p D r, D.ex⟩) := rfl
def lcI (items : List O) (g : WG) (t : W1 Bool) (e : W1 O) (S : List (Option O)) (Q : O → Prop) : Prop := ∃ I : Nat → List O → Prop, I 0 [] ∧
    (∀ i o acc, items[i]? = some o → I i acc → g.run o S (fun S2 => t.run S2 (fun b => if b = true then e.run S2 (fun u => u.nb = true ∧ I (i + 1) (acc ++ [u])) (fun _ => False) else I (i + 1) acc) (fun _ => False))) ∧
    ∀ acc, I items.length acc → Q (.ls acc)
theorem wLC_run {w : W1 Wk} {g : WG} {t : W1 Bool} {e : W1 O} {vs : List Nat} {S : List (Option O)} {Q : O → Prop} {E : Ex → Prop} : (wLC w g t e vs).run S Q E = w.run S (fun w => wipeS S vs = S ∧ lcI w.items g t e S Q) E := rfl
/-- a comprehension that maps -/
theorem lcI_map {items : List O} {g : WG} {e : W1 O} {S : List (Option O)} {Q : O → Prop} (f : O → O) (h : ∀ (i : Nat) o, items[i]? = some o → g.run o S (fun S2 => e.run S2 (fun u => u.nb = true ∧ u = f o) (fun _ => False))) (q : Q (.ls (items.map f))) : lcI items g wYes e S Q := by
  refine ⟨fun i acc => acc = (items.take i).map f, by simp, fun i o acc ho ha => ?_, fun acc h => ?_⟩
  · subst ha
    refine g.mono (fun S2 z => ?_) (h i o ho)
    simp only [wYes, W1.pure, if_true]
    refine W1.le e z (fun u k => ⟨k.1, ?_⟩) (fun _ z => z)
    have eu := k.2
    obtain ⟨hi, eo⟩ := List.getElem?_eq_some_iff.mp ho
    show _ = List.map f (List.take (i + 1) items)
    rw [List.take_succ_eq_append_getElem hi, List.map_append, eo, eu]
    rfl
  · subst h
    rw [List.take_length]
    exact q
theorem all_mem_nil {P : O → Prop} : (∀ o ∈ ([] : List O), P o) ↔ True := by simp
theorem all_mem_cons {P : O → Prop} {a : O} {l : List O} : (∀ o ∈ a :: l, P o) ↔ P a ∧ ∀ o ∈ l, P o := by simp
/-- a whole number: an int that is no truth -/
def D.whole : D → Bool
  | .int _ => true
  | _ => false
theorem whole_int {n : Int} : D.whole (.int n) = true := rfl
theorem atI_ix {α : Type} {xs : List α} {i : Nat} : atI xs (i : Int) = xs[i]? := by
  cases h : xs[i]? with
  | some v => exact L2.atI_nat h
  | none =>
    unfold atI
    have : ixN xs.length (i : Int) = none := by
      have := List.getElem?_eq_none_iff.mp h
      unfold ixN
      rw [if_pos (by omega), if_neg (by omega)]
    rw [this]
    rfl
theorem atI_0 {α : Type} {xs : List α} : atI xs 0 = xs[0]? := atI_ix (i := 0)
theorem atI_1 {α : Type} {xs : List α} : atI xs 1 = xs[1]? := atI_ix (i := 1)
theorem atI_2 {α : Type} {xs : List α} : atI xs 2 = xs[2]? := atI_ix (i := 2)
theorem atI_3 {α : Type} {xs : List α} : atI xs 3 = xs[3]? := atI_ix (i := 3)
theorem atI_4 {α : Type} {xs : List α} : atI xs 4 = xs[4]? := atI_ix (i := 4)
/-! lists of whole numbers -/
theorem mkL_nb {os : List O} (h : os.all O.nb = true) : mkL os = .ls os := if_pos h
theorem all_map_i {ns : List Int} : (ns.map O.i).all O.nb = true := by
  rw [List.all_map]
  exact List.all_eq_true.mpr fun _ _ => rfl
theorem all_map_im {ns : List D} : (ns.map O.im).all O.nb = true := by
  rw [List.all_map]
  exact List.all_eq_true.mpr fun _ _ => rfl
theorem cutA_map {α β : Type} {f : α → β} {xs : List α} {lo hi : Option Int} : cutA (xs.map f) lo hi = (cutA xs lo hi).map f := by
  unfold cutA
  rw [List.length_map, List.map_take, List.map_drop]
theorem cutA_to {α : Type} {xs : List α} (k : Nat) : cutA xs none (some (k : Int)) = xs.take k := by
  unfold cutA
  rw [HT.sIx_none, HT.sIx_nat, Nat.sub_zero, List.drop_zero]
  by_cases h : k ≤ xs.length
  · rw [Nat.min_eq_left h]
  · rw [Nat.min_eq_right (by omega), List.take_of_length_le (Nat.le_refl _), List.take_of_length_le (by omega)]
theorem cutA_from {α : Type} {xs : List α} (k : Nat) : cutA xs (some (k : Int)) none = xs.drop k := by
  unfold cutA
  rw [HT.sIx_none, HT.sIx_nat]
  by_cases h : k ≤ xs.length
  · rw [Nat.min_eq_left h, List.take_of_length_le (by rw [List.length_drop]; omega)]
  · rw [Nat.min_eq_right (by omega), List.drop_eq_nil_of_le (Nat.le_refl _), List.drop_eq_nil_of_le (by omega)]
    simp
theorem cutA_mid {α : Type} {xs : List α} (j k : Nat) : cutA xs (some (j : Int)) (some (k : Int)) = (xs.take k).drop j := by
  unfold cutA
  rw [HT.sIx_nat, HT.sIx_nat, List.drop_take]
  by_cases h : j ≤ xs.length
  · rw [Nat.min_eq_left h]
    by_cases h' : k ≤ xs.length
    · rw [Nat.min_eq_left h']
    · rw [Nat.min_eq_right (by omega), List.take_of_length_le (by rw [List.length_drop]; omega), List.take_of_length_le (by rw [List.length_drop]; omega)]
  · have h2 : min j xs.length = xs.length := Nat.min_eq_right (by omega)
    rw [h2, List.drop_eq_nil_of_le (Nat.le_refl _), List.drop_eq_nil_of_le (show xs.length ≤ j by omega)]
    simp
theorem cutA_63 {α : Type} {xs : List α} : cutA xs none (some 63) = xs.take 63 := cutA_to 63
theorem its_lsi {ns : List Int} : O.its (.ls (ns.map O.i)) = some (ns.map O.i) := by
  rw [its_ls, O.erL_map]
  simp only [List.map_map]
  rfl
theorem erL_append {a b : List O} : O.erL (a ++ b) = O.erL a ++ O.erL b := by
  induction a with
  | nil => rfl
  | cons x a ih => rw [List.cons_append, erL_cons, erL_cons, ih, List.cons_append]
theorem erL_mapi {ns : List Int} : O.erL (ns.map O.i) = ns.map D.int := by
  rw [O.erL_map, List.map_map]
  rfl
theorem map_im_int {ns : List Int} : (ns.map D.int).map O.im = ns.map O.i := by
  rw [List.map_map]; rfl
theorem take63 {α : Type} {xs : List α} (h : xs.length ≤ 63) : xs.take 63 = xs := List.take_of_length_le h
theorem szL {n : Nat} (h : n ≤ 16777216) : n ≤ sizeLine := by rw [sizeLine_eq]; exact h
theorem map_get {α β : Type} {f : α → β} {xs : List α} {i : Nat} {b : β} (h : (xs.map f)[i]? = some b) : ∃ a, xs[i]? = some a ∧ f a = b := by
  rw [List.getElem?_map] at h
  exact Option.map_eq_some_iff.mp h
theorem take_map' {α β : Type} {f : α → β} {xs : List α} {k : Nat} : (xs.map f).take k = (xs.take k).map f := List.map_take.symm
theorem drop_map' {α β : Type} {f : α → β} {xs : List α} {k : Nat} : (xs.map f).drop k = (xs.drop k).map f := List.map_drop.symm
def cellI (cs : List Int) (j : Int) : Int := cs.getD j.toNat 0
theorem atI_i {cs : List Int} {j : Int} (h0 : 0 ≤ j) (h1 : j < cs.length) : atI (cs.map O.i) j = some (O.i (cellI cs j)) := by
  obtain ⟨k, rfl⟩ := Int.eq_ofNat_of_zero_le h0
  rw [atI_ix, List.getElem?_map]
  unfold cellI
  rw [Int.toNat_natCast, List.getD_eq_getElem?_getD]
  have : k < cs.length := by omega
  rw [List.getElem?_eq_getElem this]
  rfl
theorem uEq_int {neg : Bool} {i j : Int} {Q : O → Prop} : (uEq neg).run (.im (.int i)) (.im (.int j)) Q = Q (O.t (neg ^^ decide (i = j))) := rfl
theorem uEq_str {neg : Bool} {i j : Str} {Q : O → Prop} : (uEq neg).run (.im (.str i)) (.im (.str j)) Q = Q (O.t (neg ^^ decide (i = j))) := rfl
theorem uEq_bl {neg : Bool} {i j : Bool} {Q : O → Prop} : (uEq neg).run (.im (.bl i)) (.im (.bl j)) Q = Q (O.t (neg ^^ decide (i = j))) := by
  refine propext ⟨fun ⟨p, q, e1, e2, _, _, h⟩ => ?_, fun h => ⟨_, _, rfl, rfl, rfl, rfl, ?_⟩⟩
  · cases e1
    cases e2
    have e : PyData.eqv (.bool i) (.bool j) = decide (i = j) := by cases i <;> cases j <;> decide
    rwa [e] at h
  · have e : PyData.eqv (.bool i) (.bool j) = decide (i = j) := by cases i <;> cases j <;> decide
    rwa [e]
theorem tidy_i {n : Int} : O.tidy (.im (.int n)) = true := rfl
theorem tidy_t {n : Bool} : O.tidy (.im (.bl n)) = true := rfl
theorem tidy_n : O.tidy (.im .non) = true := rfl
theorem tidy_kd {k : Kd} : O.tidy (.im (.kd k)) = true := rfl
end PL

/-! P11 -/
set_option Elab.async false
set_option linter.all false
set_option maxRecDepth 100000
set_option maxHeartbeats 4000000
/-! P11: the end. -/
namespace PL
open PySem PySem.Spec L2 PyProof.Rows
/-- what is known of a script -/
def Scr (ns : List Int) : Prop := ns.length ≤ 63 ∧ ∀ z ∈ ns, Builtin.Int.intBits z ≤ 1048576
theorem walk {l : PySem.W.OpenLaw} {k : Nat} {q : Program} {loose : List Str} {XP : (Str → Option Value) → Heap → Prop} {YP : World → Heap → Prop} {d : DefRec} {K : Params → PySem.W.Frag} {x : Str} {R : Ctr}
    (hn : l.most = some 63) (hdf : d.params.defaults = []) (hr : Room k callerA)
    (hY : ∀ (w : World) (h : Heap), YP w h → (K w.params).In h)
    (F : ∀ (w : World) (mg : Str → Option Value) (fa : Addr) (h : Heap), (K w.params).In h → h.Ns mainGlobals mg → mg d.name = some (.ref fa) →
      ∃ (fd : FuncData) (G : Gx), G.K = K w.params ∧ (∀ (s : Shared) (u : Value), BindsTo s fd ⟨[u], []⟩ [(x, u)]) ∧
        ∀ base : Heap, (K w.params).In base → base.Ns mainGlobals mg → FnOk l.prog w (K w.params) mg base (L2.CX l.prog w) k fa fd [x] (spOf G R))
    (hR : ∀ ns, Scr ns → R.run [.scr ns] (fun o => o = O.t true) (fun _ => False)) :
    PySem.W.WalkO q loose XP YP l.row.toRowW d [] (fun f vs => PySem.call f vs) := by
  refine Att.attach_callB hn hdf fun w s₀ s₁ mg mb fa o pm cd doc a vs ns G Y ho hd hcd hmg hobj hints hlen hbits hg => ?_
  have KX := hY w _ Y
  obtain ⟨fd, Gx, eG, hb, hF⟩ := F w mg fa _ KX G.T.g hmg
  refine law_call KX G.T.g G.T.b G.T.builtins G.T.nolimit hg hobj hints (Nat.le_trans hlen (by decide)) hr hF hb (fun H hO hS => ?_) fun H e s' h => ?_
  · refine ⟨H, [.scr ns], Same.refl _, ⟨_, _, rfl, ⟨a, rfl, by rw [eG]; exact hS⟩, rfl⟩, R.mono (fun o e F' H' v A _ _ _ _ h _ _ => ?_) (fun _ z => z.elim) (hR ns ⟨hlen, hbits⟩)⟩
    subst e
    exact h.2
  · obtain ⟨_, _, _, _, _, _, _, _, _, _, _, _, z⟩ := h
    exact z
theorem nx {P : Prop} (h : P) : P := h
end PL

/-! P12 -/
set_option Elab.async false
set_option linter.all false
set_option maxRecDepth 100000
set_option maxHeartbeats 4000000
/-! P12: exceptions. -/
namespace PL
open PySem PySem.Spec L2 PyProof.Rows
section
variable {X : Cx} {pins : List (Addr × Obj)} {σ : L2.St} {H : Hp} {s : Shared} {a C : Addr} {d : Option Addr} {oe : Obj} {vs : Array Value}
theorem exq_ok {P : Program} {w : World} {h : Heap} (he : h.get? a = some oe) (hc : oe.cls = .ref C) (hd : oe.dict = d) (hv : oe.data = .fields vs) : ObjOk P w H h a (exq a C d) :=
  ⟨⟨oe, vs, he, hc, hd, hv⟩, ⟨_, he⟩, fun h1 h2 ⟨o, vs, e, r⟩ k => ⟨o, vs, k _ e, r⟩⟩
/-- a caught exception is tracked -/
theorem _root_.L2.Inv.track (I : Inv X ((a, oe) :: pins) σ H s) (hc : oe.cls = .ref C) (hd : oe.dict = d) (hv : oe.data = .fields vs) (n0 : X.s_0.heap.get? a = none) (np : ∀ p ∈ X.pn ++ pins, p.1 ≠ a) : Inv X pins σ (upd H a (exq a C d)) s := by
  obtain ⟨hg, na, nL, nF, ncell⟩ := I.pin (a, oe) (List.mem_append_right _ List.mem_cons_self)
  refine ⟨I.ok, I.os, I.bare, ⟨I.base.keep, I.base.slot, fun b o e n hx => ?_, I.base.there, fun b xs e => ?_, fun b o u e => ?_, fun b ps e => ?_⟩, I.loc, I.cell, ?_, fun x c e => ?_, fun p hp => ?_, fun b u e => ?_, I.len⟩
  · rw [upd_ne (fun z => by rw [z, n0] at e; cases e)]
    exact I.base.free b o e n hx
  · have q := I.base.tups b xs e
    rw [upd_ne (ne_of_none q na)]
    exact q
  · have q := I.base.frzs b o u e
    rw [upd_ne (ne_of_none q na)]
    exact q
  · obtain ⟨m, q⟩ := I.base.tbls b ps e
    exact ⟨m, by rw [upd_ne (ne_of_none q na)]; exact q⟩
  · rw [upd_ne (Ne.symm nL)]
    exact I.free
  · obtain ⟨v, q⟩ := I.cell x c e
    rw [upd_ne (fun z => ?_)]
    · exact I.freeC x c e
    · subst z
      obtain ⟨o, e1, e2⟩ := q
      rw [hg] at e1
      cases e1
      exact ncell v e2
  · obtain ⟨e1, e2, e3⟩ := I.pin p ((List.mem_append.mp hp).elim (fun h => List.mem_append_left _ h) fun h => List.mem_append_right _ (List.mem_cons_of_mem _ h))
    exact ⟨e1, by rw [upd_ne (np p hp)]; exact e2, e3⟩
  · by_cases z : b = a
    · subst z
      rw [upd_same] at e
      cases e
      exact exq_ok hg hc hd hv
    · rw [upd_ne z] at e
      refine (I.hok b u e).stay (fun _ _ _ q => q) (fun c q => ?_) fun c xs q => ?_
      · rw [upd_ne (ne_of_none q na)]; exact q
      · rw [upd_ne (ne_of_none q na)]; exact q
end
def wGot (K : PySem.W.Frag) (c : Value) (i j : Nat) (Wout : WX) (D : Ends) : WX := fun cls d σ H =>
  ∃ b, PySem.W.exmOne K cls c = some b ∧ (b = true → ∃ C, cls = .ref C ∧ ∀ a, H a = none → D.nx (((σ.set i (some (.ref a))).set j (some (.ref a))).set i none) (upd H a (exq a C d))) ∧ (b = false → Wout cls d σ H)
section
variable {X : Cx} {x n y : Str} {c : Value} {i j : Nat} {body : List Stmt} {np p1 p2 p3 pos pos' : Pos} {tb : WX → TS} {Wout : WX}
theorem ps_try_got (hs : X.stack = X.env :: X.outer) (hf : X.env.frame = some X.env.locals) (hN : X.N.Nodup) (hi : X.N[i]? = some n) (hln : X.env.kindOf n = some .local) (hvn : Vis X.env.scope n) (hj : X.N[j]? = some y) (hlj : X.env.scope.names.lookup y = some .local) (hil : i < X.N.length) (hex : X.ex = []) (hc : Names X x c) (tk : Takes X Wout)
    (hb : ∀ (W : WX) (pn : List (Addr × Obj)) (xe : Value → Shared → Prop), Takes (X.tr pn xe) W → PassesOwn (model X.prog X.w) X.A X.env xe → PSs (X.tr pn xe) body (tb W))
    (hsw : swapsWith (.Name n p2) (some (.Name y p1)) p3.line X.env = pure false) (hd1 : (n == ("__debug__" : Str)) = false) (hd2 : (n == ("__classdict__" : Str)) = false) :
    PS X (.Try body [.ExceptHandler (some (.Name x np)) (some n) [.Assign [.Name y p1] (.Name n p2) p3] pos'] [] [] pos) (fun D σ H => tb (wGot X.K c i j Wout D) D σ H) := by
  refine ⟨fun pins s σ H D I h => ?_⟩
  have ok := I.ok
  have hfr : X.A.frames = some (X.env :: X.outer) := by rw [ok.frames, hs]
  have hloc : Loc X.env.scope n := .inl hln
  refine wpAny_Try_except ?_
  refine wpAny_mono ((hb (wGot X.K c i j Wout D) (X.pn ++ pins) (fun e s₁ => wpAny (model X.prog X.w) X.A (noteFrame e X.env) (fun _ s₂ => wpAny (model X.prog X.w) X.A (setFlight e none) (fun _ s₃ =>
    wpAny (model X.prog X.w) X.A (handleBy e X.env [.ExceptHandler (some (.Name x np)) (some n) [.Assign [.Name y p1] (.Name n p2) p3] pos']) (SP X pins D) X.xe s₃) X.xe s₂) X.xe s₁) (fun u s' xx => ?_) PassesOwn.looking).run [] s σ H D (I.toTry _) h) (fun f s1 hsp => ?_) (fun e s1 he => he)
  · -- the catch
    obtain ⟨a, B, sI, pins', σ', H', cls, d, rfl, J', nb, up, sky, na, os, ag, b, hb1, hyes, hno⟩ := xx
    have J : Inv X pins σ' H' sI := J'.ofTry ok
    have sky' : Sky B (X.env :: X.outer) a (Zc cls d) X.env.locals s'.heap := by rw [← hs]; exact sky
    show wpAny (model X.prog X.w) X.A (noteFrame (.ref a) X.env) _ _ _
    refine Sky.land Zc.steady hfr hf sky' fun h3 fl3 up3 => ?_
    have J3 : Inv X pins σ' H' { s' with heap := h3 } := J.landed nb fl3.1 (up.trans up3) os ag
    obtain ⟨oe3, vs3, he3, hz3, hd3⟩ := fl3.there
    have notFr : ∀ {h : Heap} {o : Obj} {vs : Array Value}, h.FunFrames B (X.env :: X.outer) → h.get? a = some o → o.data = .fields vs → a ∉ frs (X.env :: X.outer) := fun {h o vs} ff e dd hm => by
      obtain ⟨_, o', e', hnf⟩ := ff.mem hm
      rw [e] at e'; cases e'
      exact hnf _ dd
    have nfr := notFr fl3.2.2.1 he3 hd3
    have nL : a ≠ X.env.locals := fun z => nfr (List.mem_filterMap.mpr ⟨X.env, List.mem_cons_self, by rw [hf, z]⟩)
    have nF : a ∉ X.fs := fun hm => by
      obtain ⟨e, he, q⟩ := List.mem_filterMap.mp hm
      exact nfr (List.mem_filterMap.mpr ⟨e, List.mem_cons_of_mem _ he, q⟩)
    have Ba : B.get? a = none := fl3.2.1
    have nI : sI.heap.get? a = none := by
      cases q : sI.heap.get? a with
      | none => rfl
      | some o =>
        have := nb a o q (by rw [hs]; exact nfr)
        rw [Ba] at this; cases this
    have n0 : X.s_0.heap.get? a = none := by
      cases q : X.s_0.heap.get? a with
      | none => rfl
      | some o =>
        obtain ⟨o', e⟩ := J.base.there a o q (by rw [hex]; exact fun z => nomatch z)
        rw [nI] at e; cases e
    have npn : ∀ p ∈ X.pn ++ pins, p.1 ≠ a := fun p hp z => by
      have := (J.pin p hp).1
      rw [z, nI] at this; cases this
    have S3 := J3.suite he3 hd3 na nL nF
    refine wpAny_handleBy_cons (codeAny_handlers_test ?_) (by intro q; cases q)
    have LT : PySem.W.Looks (model X.prog X.w) h3 (typeOf (.ref a)) cls := fun A Q E s k q => wpAny_typeOf_ref (k _ _ he3) (by rw [hz3.1]; exact q)
    have LM := PySem.W.exm_one (M := model X.prog X.w) (J3.kIn) LT hb1
    have test : ∀ {Q : Value → Shared → Prop} {E : Value → Shared → Prop}, Q c { s' with heap := h3 } → wpAny (model X.prog X.w) (X.A.mark (some (.ref a))) (eval (.Name x np) X.env) Q E { s' with heap := h3 } := fun {Q E} q => by
      obtain ⟨hg, hdbg, hm | ⟨hm, hv, hnn⟩⟩ := hc
      · exact ld_glob (X := X.suite a ((a, oe3) :: (X.pn ++ pins))) S3 hg hm q hdbg
      · exact ld_blt (X := X.suite a ((a, oe3) :: (X.pn ++ pins))) S3 hg hm hv q hnn hdbg
    refine test (LM.here ?_)
    cases b with
    | true =>
      refine codeAny_handlers_suite_as ?_
      refine HandSPX.lands_againZ fl3 fun h4 fl4 up4 => ?_
      have J4 : Inv X pins σ' H' { s' with heap := h4 } := J.landed nb fl4.1 ((up.trans up3).trans up4) os ag
      obtain ⟨oe4, vs4, he4, hz4, hd4⟩ := fl4.there
      have S4 := J4.suite he4 hd4 na nL nF
      obtain ⟨C, ecls, hyes'⟩ := hyes rfl
      refine store_ok (X := X.suite a ((a, oe4) :: (X.pn ++ pins))) (v := .ref a) S4 hN hi hloc rfl (fun s5 S5 => ?_) (.inr hln)
      have hst : PSs (X.suite a ((a, oe4) :: (X.pn ++ pins))) [.Assign [.Name y p1] (.Name n p2) p3] (tAsg (tVar i) (gName j)) :=
        pss_one (ps_set (X := X.suite a ((a, oe4) :: (X.pn ++ pins))) (i := j) hN hj (.inl hlj) (pe_var hi hvn hd1 hd2) hsw (.inr hlj))
      have lσ : i < σ'.length := by rw [J.len]; exact hil
      refine wpAny_mono (hst.run [] s5 _ H' { nx := fun σ6 H6 => σ6 = (σ'.set i (some (.ref a))).set j (some (.ref a)) ∧ H6 = H', rt := fun _ _ => False } S5 ⟨.ref a, List.getElem?_set_self lσ, rfl, rfl⟩) (fun f s6 hsp => ?_) (fun _ _ z => False.elim z)
      have end_ : ∀ {σ6 : L2.St} {H6 : Hp} {Q : Shared → Prop}, Inv (X.suite a ((a, oe4) :: (X.pn ++ pins))) [] σ6 H6 s6 → (∀ s7, Inv X pins (σ6.set i none) (upd H6 a (exq a C d)) s7 → Q s7) →
          wpAny (model X.prog X.w) X.A (do bindName X.env n .none; unbindBehindTheSuite X.env n pos') (fun _ s7 => Q s7) X.xe s6 := fun {σ6 H6 Q} S6 hq => by
        have S6' : Inv X ((a, oe4) :: pins) σ6 H6 s6 := ⟨ok, S6.os, S6.bare, S6.base, S6.loc, S6.cell, S6.free, S6.freeC, fun p hp => S6.pin p (by
          rcases List.mem_append.mp hp with hp | hp
          · exact List.mem_append_left _ (List.mem_cons_of_mem _ (List.mem_append_left _ hp))
          · rcases List.mem_cons.mp hp with e | hp
            · rw [e]; exact List.mem_append_left _ List.mem_cons_self
            · exact List.mem_append_left _ (List.mem_cons_of_mem _ (List.mem_append_right _ hp))), S6.hok, S6.len⟩
        exact gone_ok S6' hN hi hln fun s7 J7 => hq s7 (J7.track (by rw [hz4.1]; exact ecls) hz4.2 hd4 n0 npn)
      cases f with
      | next =>
        obtain ⟨σ6, H6, S6, e1, e2⟩ := hsp
        subst e1 e2
        exact end_ S6 fun s7 J7 => ⟨_, _, J7, hyes' a na⟩
      | brk =>
        obtain ⟨σ6, H6, S6, q6⟩ := hsp
        exact q6.elim
      | cont =>
        obtain ⟨σ6, H6, S6, q6⟩ := hsp
        exact q6.elim
      | ret u =>
        obtain ⟨v6, σ6, H6, S6, r6, q6⟩ := hsp
        exact q6.elim
    | false =>
      show wpAny _ X.A (handleBy (.ref a) X.env []) _ _ _
      refine wpAny_handleBy_nil ?_
      obtain ⟨k1, k2, k3, oe, vs, T, oT, ts', he, hz, hd, h1, hr⟩ := id fl3
      unfold PySem.passOn
      refine wpAny_bind (wpAny_field he hd h1 ?_)
      rw [if_neg (show ¬ ((Value.ref T == Value.none) = true) from by simp)]
      have fin : wpAny (model X.prog X.w) X.A (setFlight (.ref a) X.env.frame) (fun _ s4 => wpAny (model X.prog X.w) X.A (throw (.ref a) : Sem Flow) (SP X pins D) X.xe s4) X.xe { s' with heap := h3 } := by
        rw [hf]
        refine HandSPX.setFlight_upZ fl3 fun h4 hh4 up4 => wpAny_throw (tk _ _ ?_)
        exact ⟨a, B, sI, pins, σ', H', cls, d, rfl, J, nb, (up.trans up3).trans up4, .inr (.inr (by rw [hs]; exact hh4)), na, os, ag, hno rfl⟩
      first
        | exact wpAny_bind (wpAny_pure (wpAny_bind fin))
        | exact wpAny_bind fin
  · cases f with
    | next =>
      obtain ⟨σ', H', J', q⟩ := hsp
      exact wpAny_execs_nil ⟨σ', H', J'.ofTry ok, q⟩
    | brk =>
      obtain ⟨σ', H', J', q⟩ := hsp
      exact ⟨σ', H', J'.ofTry ok, q⟩
    | cont =>
      obtain ⟨σ', H', J', q⟩ := hsp
      exact ⟨σ', H', J'.ofTry ok, q⟩
    | ret u =>
      obtain ⟨v, σ', H', J', r, q⟩ := hsp
      exact ⟨v, σ', H', J'.ofTry ok, r, q⟩
end
end PL

/-! M1 -/
set_option Elab.async false
set_option linter.all false
set_option maxRecDepth 100000
set_option maxHeartbeats 4000000
/-! M1: whole numbers: floors, divisors, sizes. -/
namespace PL
open PySem PySem.Spec L2

theorem fmod_neg_bounds {x y : Int} (h : y < 0) : x.fmod y ≤ 0 ∧ y < x.fmod y := by
  have e : (-x).fmod (-y) = -x.fmod y := Int.neg_fmod_neg x y
  have h1 := Int.fmod_nonneg_of_pos (-x) (show 0 < -y by omega)
  have h2 := Int.fmod_lt_of_pos (-x) (show 0 < -y by omega)
  omega
theorem fmod_pos_bounds {x y : Int} (h : 0 < y) : 0 ≤ x.fmod y ∧ x.fmod y < y := ⟨Int.fmod_nonneg_of_pos x h, Int.fmod_lt_of_pos x h⟩
theorem fmod_lt {x y : Int} (h : y ≠ 0) : (x.fmod y).natAbs < y.natAbs := by
  rcases Int.lt_or_gt_of_ne h with h | h
  · have := fmod_neg_bounds (x := x) h; omega
  · have := fmod_pos_bounds (x := x) h; omega
theorem fmod_eq (x y : Int) : x.fmod y = x - y * x.fdiv y := Int.fmod_def x y
theorem gcd_fmod (x y : Int) : y.gcd (x.fmod y) = x.gcd y := by
  rw [fmod_eq, Int.mul_comm y, Int.gcd_sub_mul_right_right, Int.gcd_comm]
theorem fmod_pos {x y : Int} (h : 0 < y) : x.fmod y = x % y := by
  rw [Int.fmod_eq_emod]
  rw [if_pos (Or.inl (Int.le_of_lt h))]; omega
theorem fdiv_pos {x y : Int} (h : 0 < y) : x.fdiv y = x / y := Int.fdiv_eq_ediv_of_nonneg x (Int.le_of_lt h)
/-! sizes: x has less than n bits -/
def Sz (n : Nat) (x : Int) : Prop := x.natAbs < 2 ^ n
instance {n : Nat} {x : Int} : Decidable (Sz n x) := inferInstanceAs (Decidable (x.natAbs < 2 ^ n))
theorem Sz.mono {n m : Nat} {x : Int} (h : Sz n x) (l : n ≤ m) : Sz m x := Nat.lt_of_lt_of_le h (Nat.pow_le_pow_right (by decide) l)
theorem Sz.mul {n m : Nat} {x y : Int} (h : Sz n x) (k : Sz m y) : Sz (n + m) (x * y) := by
  unfold Sz at *
  rw [Int.natAbs_mul, Nat.pow_add]
  exact Nat.mul_lt_mul'' h k
theorem Sz.add {n : Nat} {x y : Int} (h : Sz n x) (k : Sz n y) : Sz (n + 1) (x + y) := by
  unfold Sz at *
  rw [Nat.pow_succ]
  omega
theorem Sz.sub {n : Nat} {x y : Int} (h : Sz n x) (k : Sz n y) : Sz (n + 1) (x - y) := by
  unfold Sz at *
  rw [Nat.pow_succ]
  omega
theorem Sz.neg {n : Nat} {x : Int} (h : Sz n x) : Sz n (-x) := by
  unfold Sz at *
  omega
theorem Sz.le {n : Nat} {x y : Int} (h : Sz n x) (k : y.natAbs ≤ x.natAbs) : Sz n y := Nat.lt_of_le_of_lt k h
theorem Sz.log2 {n : Nat} {x : Int} (h : Sz n x) (hn : 0 < n) : x.natAbs.log2 < n := PySem.Flt.log2_lt_of hn h
theorem Sz.bits {n : Nat} {x : Int} (h : Sz n x) (hn : 0 < n) : Builtin.Int.intBits x ≤ n := by
  unfold Builtin.Int.intBits
  have := h.log2 hn
  split <;> omega
theorem mulok {n m : Nat} {x y : Int} (h : Sz n x) (k : Sz m y) (hn : 0 < n) (hm : 0 < m) (l : n + m ≤ 134217728) : PySem.IntMulOk x y := by
  have h1 := h.bits hn
  have h2 := k.bits hm
  have e : bitsLine = 134217728 := by decide
  unfold IntMulOk
  intro z
  rw [Bool.and_eq_true] at z
  have z2 := z.2
  unfold Builtin.Int.intTooBig at z2
  have z3 := of_decide_eq_true z2
  rw [e] at z3
  omega
theorem mulok_l {x y : Int} (h : Sz 64 x) : PySem.IntMulOk x y := .of_left (h.bits (by decide))
theorem mulok_r {x y : Int} (h : Sz 64 y) : PySem.IntMulOk x y := .of_right (h.bits (by decide))
theorem divok {n : Nat} {y : Int} (h : Sz n y) (hn : 0 < n) (l : n ≤ 9000) : y.natAbs.log2 < 9000 := Nat.lt_of_lt_of_le (h.log2 hn) l
theorem fdiv_le {d r : Int} (h : r ≠ 0) : (d.fdiv r).natAbs ≤ d.natAbs := by
  have e := Int.fdiv_mul_add_fmod d r
  have hm := fmod_lt (x := d) h
  rcases Nat.lt_or_ge d.natAbs (d.fdiv r).natAbs with z | z
  · exfalso
    have h1 : ((d.fdiv r) * r).natAbs = (d.fdiv r).natAbs * r.natAbs := Int.natAbs_mul _ _
    have h2 : (d.natAbs + 1) * r.natAbs ≤ (d.fdiv r).natAbs * r.natAbs := Nat.mul_le_mul_right _ z
    have h3 : (d.natAbs + 1) * r.natAbs = d.natAbs * r.natAbs + r.natAbs := by rw [Nat.add_mul, Nat.one_mul]
    have h4 : d.natAbs * 1 ≤ d.natAbs * r.natAbs := Nat.mul_le_mul_left _ (by omega)
    omega
  · exact z
theorem Sz.fdiv {n : Nat} {x y : Int} (h : Sz n x) (k : y ≠ 0) : Sz n (x.fdiv y) := h.le (fdiv_le k)
theorem Sz.fmod {n : Nat} {x y : Int} (h : Sz n y) (k : y ≠ 0) : Sz n (x.fmod y) := h.le (Nat.le_of_lt (fmod_lt k))
theorem Sz.of_mul {n : Nat} {x y : Int} (h : Sz n (x * y)) (k : x ≠ 0) : Sz n y := by
  refine h.le ?_
  rw [Int.natAbs_mul]
  have : 1 * y.natAbs ≤ x.natAbs * y.natAbs := Nat.mul_le_mul_right _ (by omega)
  omega
theorem Sz.one {n : Nat} (h : 0 < n) : Sz n 1 := by
  unfold Sz
  exact Nat.lt_of_lt_of_le (by decide : (1 : Int).natAbs < 2 ^ 1) (Nat.pow_le_pow_right (by decide) h)
theorem Sz.zero {n : Nat} : Sz n 0 := by
  unfold Sz
  exact Nat.lt_of_lt_of_le (by decide) (Nat.pow_le_pow_right (by decide) (Nat.zero_le n))
end PL

/-! P13 -/
set_option Elab.async false
set_option linter.all false
set_option maxRecDepth 100000
set_option maxHeartbeats 4000000
/-! P13: comprehensions with a relation; primes. -/
namespace PL
open PySem PySem.Spec L2
theorem lcI_rel {items : List O} {g : WG} {e : W1 O} {S : List (Option O)} {Q : O → Prop} (P : Nat → O → Prop) (h : ∀ (i : Nat) o, items[i]? = some o → g.run o S (fun S2 => e.run S2 (fun u => u.nb = true ∧ P i u) (fun _ => False)))
    (q : ∀ us : List O, us.length = items.length → (∀ i u, us[i]? = some u → P i u) → Q (.ls us)) : lcI items g wYes e S Q := by
  refine ⟨fun i acc => (i ≤ items.length → acc.length = i) ∧ ∀ k u, acc[k]? = some u → P k u, ⟨fun _ => rfl, fun k u h => by simp at h⟩, fun i o acc ho ⟨hl, ha⟩ => ?_, fun acc ⟨hl, ha⟩ => q acc (hl (Nat.le_refl _)) ha⟩
  obtain ⟨hi, eo⟩ := List.getElem?_eq_some_iff.mp ho
  have hl' := hl (Nat.le_of_lt hi)
  refine g.mono (fun S2 z => ?_) (h i o ho)
  simp only [wYes, W1.pure, if_true]
  refine W1.le e z (fun u k => ⟨k.1, fun _ => by simp [hl'], fun k' u' hk => ?_⟩) (fun _ z => z)
  rcases Nat.lt_or_ge k' acc.length with hlt | hge
  · rw [List.getElem?_append_left hlt] at hk
    exact ha k' u' hk
  · rw [List.getElem?_append_right hge] at hk
    have : k' - acc.length = 0 := by
      rcases Nat.eq_zero_or_pos (k' - acc.length) with z | z
      · exact z
      · rw [List.getElem?_eq_none (by simp; omega)] at hk; cases hk
    rw [this] at hk
    simp at hk
    subst hk
    have : k' = i := by omega
    subst this
    exact k.2
theorem ints_of {p : Int → Prop} : ∀ {us : List O}, (∀ u ∈ us, ∃ n, u = O.i n ∧ p n) → ∃ ns : List Int, us = ns.map O.i ∧ ∀ n ∈ ns, p n
  | [], _ => ⟨[], rfl, fun n h => nomatch h⟩
  | u :: us, h => by
    obtain ⟨n, e, hn⟩ := h u List.mem_cons_self
    obtain ⟨ns, e2, h2⟩ := ints_of (us := us) fun v hv => h v (List.mem_cons_of_mem _ hv)
    refine ⟨n :: ns, by rw [e, e2]; rfl, fun m hm => ?_⟩
    rcases List.mem_cons.mp hm with rfl | hm
    · exact hn
    · exact h2 m hm
theorem lcI_ints {items : List O} {g : WG} {e : W1 O} {S : List (Option O)} {Q : O → Prop} (p : Int → Prop) (h : ∀ (i : Nat) o, items[i]? = some o → g.run o S (fun S2 => e.run S2 (fun u => u.nb = true ∧ ∃ n, u = O.i n ∧ p n) (fun _ => False)))
    (q : ∀ ns : List Int, ns.length = items.length → (∀ n ∈ ns, p n) → Q (.ls (ns.map O.i))) : lcI items g wYes e S Q :=
  lcI_rel (fun _ u => ∃ n, u = O.i n ∧ p n) h fun us hl ha => by
    obtain ⟨ns, e, hn⟩ := ints_of (us := us) fun u hu => by
      obtain ⟨i, hi⟩ := List.getElem?_of_mem hu
      exact ha i u hi
    subst e
    exact q ns (by simpa using hl) hn
/-! primes -/
def IsP (n : Int) : Prop := 2 ≤ n ∧ ∀ m : Int, 2 ≤ m → m * m ≤ n → ¬ m ∣ n
noncomputable def prB (n : Int) : Bool := @decide (IsP n) (Classical.propDecidable _)
theorem prB_true {n : Int} : prB n = true ↔ IsP n := by
  unfold prB
  exact @decide_eq_true_iff _ (Classical.propDecidable _)
theorem prB_of {n : Int} (h : IsP n) : prB n = true := prB_true.mpr h
theorem prB_no {n : Int} (h : ¬ IsP n) : prB n = false := by
  cases e : prB n
  · rfl
  · exact absurd (prB_true.mp e) h
theorem sq_bound {b n : Int} (h0 : 0 ≤ b) (h : b * b ≤ n) : b ≤ n := by
  rcases Int.lt_or_le b 1 with z | z
  · have : 0 ≤ b * b := Int.mul_nonneg h0 h0
    omega
  · have : 1 * b ≤ b * b := Int.mul_le_mul_of_nonneg_right z h0
    omega
/-- the way to the end of a trial -/
theorem isP_end {n b : Int} (hn : 2 ≤ n) (hb : n < b * b) (b0 : 0 ≤ b) (h : ∀ m : Int, 2 ≤ m → m < b → ¬ m ∣ n) : IsP n := by
  refine ⟨hn, fun m h2 hm => h m h2 ?_⟩
  rcases Int.lt_or_le m b with z | z
  · exact z
  · have h1 : b * b ≤ m * b := Int.mul_le_mul_of_nonneg_right z b0
    have h3 : m * b ≤ m * m := Int.mul_le_mul_of_nonneg_left z (by omega)
    omega
theorem notP_of {n b : Int} (h2 : 2 ≤ b) (hb : b * b ≤ n) (h : n.fmod b = 0) : ¬ IsP n := fun ⟨_, z⟩ => z b h2 hb (Int.dvd_of_fmod_eq_zero h)
theorem Sz.of_nonneg {n : Nat} {x : Int} (h0 : 0 ≤ x) (h : x < 2 ^ n) : Sz n x := by
  unfold Sz
  have : (x.natAbs : Int) < ((2 ^ n : Nat) : Int) := by
    rw [Int.natCast_pow]
    have e : (x.natAbs : Int) = x := by omega
    rw [e]
    exact h
  exact_mod_cast this
end PL

/-! P14 -/
set_option Elab.async false
set_option linter.all false
set_option maxRecDepth 100000
set_option maxHeartbeats 4000000
/-! P14: raise, try, isinstance of errors and kinds, classes made. -/
namespace PL
open PySem PySem.Spec L2 PyProof.Rows
/-! ### isinstance of an exception -/
section
open PySem.W PySem.Calls
variable {prog : Program} {w : World} {A : Around} {E : Value → Shared → Prop} {s : Shared} {K : Frag} {x D : Addr} {ox : Obj} {od : Option Obj}
theorem findObj_dat {C : Addr} {name : Str} {a g : Value} (hc : (clsIn K C).isSome = true) (ha : findIn K (.ref C) name = some (some a)) (hg : specialIn K a "__get__" = some (some g)) (ht : takesIn K a = some true) : findObj K C od name = some (.bind g a) := by
  obtain ⟨cd, hc⟩ := Option.isSome_iff_exists.mp hc
  unfold findObj
  rw [hc, Option.bind_some, ha, Option.bind_some]
  simp [hg, ht]
theorem kin_classD {Q : Option Value → Shared → Prop} (hga : findIn K (.ref D) "__getattribute__" = some (some (.builtin "BaseException.__getattribute__"))) (hgt : findIn K (.ref D) "__getattr__" = some none) (hsub : subIn K (.ref D) (.type "BaseException") = some true)
    (hdct : hasDictIn K D = true) (ha : findIn K (.ref D) "__class__" = some (some (.builtin "object.__class__")))
    (hn : specialIn K (.builtin "object.__class__") "__get__" = some (some (.builtin "getset_descriptor.__get__"))) (htk : takesIn K (.builtin "object.__class__") = some true) (hm : mroIn K D (.type "object") = some true)
    (X : K.In s.heap) (I : InstAt s.heap x ox D od) (h : Q (some (.ref D)) { s with toks := s.toks + 1 }) : wpAny (model prog w) A (getAttr? (.ref x) "__class__") Q E s := by
  have hf : findObj K D od "__class__" = some (.bind (.builtin "getset_descriptor.__get__") (.builtin "object.__class__")) := findObj_dat (by obtain ⟨cd, hc, _⟩ := any_some hdct; rw [hc]; rfl) ha hn htk
  obtain ⟨hp, g, d, t, os⟩ := s
  have L0 := I.type (M := model prog w)
  have L1 := looks_findIn (M := model prog w) X hga
  have L2 := looks_findIn (M := model prog w) X hgt
  have L3 := looks_find (M := model prog w) X I hf
  have sub : Looks (model prog w) hp (isInstance (.ref x) (.type "BaseException")) true := L0.andThen (looks_subIn X hsub)
  have hx0 : (false && onTheHeap (Value.builtin "BaseException.__getattribute__")) = false := rfl
  have hx2 : (Value.builtin "BaseException.__getattribute__" == Value.builtin "object.__getattribute__") = false := by decide +kernel
  have hx1 : (onTheHeap (Value.ref D) && Value.builtin "BaseException.__getattribute__" == Value.builtin "object.__getattribute__") = false := by rw [hx2]; rfl
  unfold getAttr? getAttrBy? getAttrBy
  refine wpAny_bind (wpAny_mkText (wpAny_bind (wpAny_attempt (wpAny_holding (wpAny_bind (L0.at (wpAny_bind (L1.at ?_))))))))
  show wpAny _ _ (if (onTheHeap (Value.ref D) && Value.builtin "BaseException.__getattribute__" == Value.builtin "object.__getattribute__") = true then _ else _) _ _ _
  rw [hx1, if_neg Bool.false_ne_true]
  unfold getAttrByItsOwn hookBefore
  refine wpAny_bind ?_
  rw [if_pos (show onTheHeap (Value.ref D) = true from rfl)]
  refine L2.at ?_
  refine wpAny_bind (wpAny_attempt (wpAny_holding ?_))
  unfold callGetattribute
  rw [hx0, if_neg Bool.false_ne_true]
  unfold boundAndCalled
  rw [PySem.F.excAttr_ValueError.ga.bind (.ref x)]
  refine wpAny_bind (wpAny_pure ?_)
  show wpAny _ _ (call (.builtin "BaseException.__getattribute__") [.ref x, .str "__class__" t]) _ _ _
  refine wpAny_call (codeAny_call_builtin PySem.F.excAttr_ValueError.ga.plain PySem.F.entry_bexc_ga ?_)
  refine @check_slot (model prog w) _ _ ⟨hp, g, d, t + 1, os⟩ "BaseException.__getattribute__" "BaseException" "__getattribute__" (.ref x) [.str "__class__" t] [] _ (by decide +kernel) (by decide +kernel) sub (PySem.F.args_bexc_ga (.ref x) (.str "__class__" t)) ?_
  unfold Builtin.«object.__getattribute__»
  refine wpAny_bind (wpAny_of_eq (a := ((Value.ref x : Value), [Value.str "__class__" t])) (by first | rfl | (simp only [slotArgs]; rfl)) ?_)
  refine wpAny_bind (wpAny_pure (wpAny_bind (L0.at (wpAny_bind (L3.at ?_)))))
  show wpAny _ _ (holding [Value.builtin "object.__class__"] (call (.builtin "getset_descriptor.__get__") [.builtin "object.__class__", .ref x, .ref D]) >>= ret) _ _ _
  refine wpAny_bind (wpAny_holding (wpAny_call (class_get (s := ⟨hp, g, d, t + 1, os⟩) (ox := ox) (od := od) X I hm ?_)))
  refine wpAny_pure ?_
  show wpAny _ _ (handedOut (.ref D)) _ _ _
  rw [handedOut_of (v := .ref D) rfl]
  first
    | exact wpAny_pure (wpAny_pure h)
    | exact wpAny_pure h
    | exact wpAny_pure (wpAny_bind (wpAny_pure (wpAny_pure h)))
theorem kitx_exD (hga : findIn K (.ref D) "__getattribute__" = some (some (.builtin "BaseException.__getattribute__"))) (hgt : findIn K (.ref D) "__getattr__" = some none) (hsub : subIn K (.ref D) (.type "BaseException") = some true) (hdct : hasDictIn K D = true) (ha : findIn K (.ref D) "__class__" = some (some (.builtin "object.__class__")))
    (hn : specialIn K (.builtin "object.__class__") "__get__" = some (some (.builtin "getset_descriptor.__get__"))) (htk : takesIn K (.builtin "object.__class__") = some true) (hm : mroIn K D (.type "object") = some true) :
    KitX K (.ref x) (.ref D) (fun h => InstAt h x ox D od) where
  ty := fun _ _ _ I => I.type
  it := fun _ _ X _ => by
    obtain ⟨cdD, hcD, _⟩ := any_some hdct
    unfold clsIn at hcD
    split at hcD
    · rename_i c' d' cd' sl' ho
      intro A' Q' E' s' k q
      unfold isType loadHead
      exact wpAny_bind (wpAny_loadPart (k _ _ (X _ _ ho)) (wpAny_pure q))
    · cases hcD
  ne := fun h tp dd its n sl X htp => by
    obtain ⟨cdD, hcD, _⟩ := any_some hdct
    refine Bool.eq_false_iff.mpr fun q => ?_
    have e : D = tp := Value.ref.inj (beq_iff_eq.mp q)
    subst e
    unfold clsIn at hcD
    split at hcD
    · rename_i c' d' cd' sl' ho
      have z := (X _ _ ho).symm.trans htp
      cases z
    · cases hcD
  ca := fun X I k => kin_classD hga hgt hsub hdct ha hn htk hm X I k
end
/-- a value's type: a caught exception too -/
inductive TyZ (K : PySem.W.Frag) (H : Hp) : V → Value → Prop where
  | x {v : V} {t : Value} (h : TyX K H v t) : TyZ K H v t
  | e {a C : Addr} {d : Option Addr} (h : H a = some (exq a C d)) (hd : ∀ dd, d = some dd → H dd ≠ none) (c : ExcC K C) : TyZ K H (.ref a) (.ref C)
theorem kit_ofZ {X : Cx} {pins : List (Addr × Obj)} {σ : L2.St} {H : Hp} {s : Shared} {x : V} {u t : Value} (I : Inv X pins σ H s) (rx : RelV x u) (ty : TyZ X.K H x t) : ∃ P : Heap → Prop, PySem.W.KitX X.K u t P ∧ P s.heap ∧ u ≠ .builtin "__main__.__loader__#opaque" := by
  cases ty with
  | x h => exact kit_of I rx h
  | @e a C d h hd c =>
    cases (show u = Value.ref a from rx)
    obtain ⟨⟨oe, vs, hget, h1, h2, h3⟩, _⟩ := I.hok a _ h
    obtain ⟨oc, od, oda, osl⟩ := oe
    dsimp only at h1 h2 h3
    subst h1 h2 h3
    cases od with
    | none => exact ⟨_, kitx_exD (od := none) c.hg c.hk c.hs c.hd c.ha c.hn c.ht c.hm, ⟨hget, rfl, rfl, trivial⟩, fun z => nomatch z⟩
    | some dd =>
      obtain ⟨o, ho⟩ : ∃ o, s.heap.get? dd = some o := by
        cases q : H dd with
        | none => exact absurd q (hd dd rfl)
        | some u => exact objOk_get (I.hok dd u q)
      exact ⟨_, kitx_exD (od := some o) c.hg c.hk c.hs c.hd c.ha c.hn c.ht c.hm, ⟨hget, rfl, rfl, ho⟩, fun z => nomatch z⟩
def rIsZ (K : PySem.W.Frag) : List V → Hp → VK → Prop := fun xs H Q => ∃ (x c : V) (t u : Value) (b : Bool), xs = [x, c] ∧ ClsV c u ∧ TyZ K H x t ∧ PySem.W.kitOne K t u = some b ∧ Q (.bl b) H
def rIsZT (K : PySem.W.Frag) : List V → Hp → VK → Prop := fun xs H Q => ∃ (x : V) (tp : Addr) (cs : List V) (t : Value) (us : List Value) (b : Bool), xs = [x, .ref tp] ∧ H tp = some (.tup cs) ∧ Paired ClsV cs us ∧ TyZ K H x t ∧ PySem.W.kitAny K t us = some b ∧ Q (.bl b) H
theorem call_isZ {X : Cx} : CallR X (.builtin "isinstance") (rIsZ X.K) := by
  intro pins s σ H xs us Q I r h
  obtain ⟨x, c, t, u, b, rfl, k, ty, e, q⟩ := h
  obtain ⟨u1, u2, rfl, r1, r2⟩ := vals2 r
  have e2 := k.eq r2
  subst e2
  obtain ⟨P, Z, p, hx⟩ := kit_ofZ I r1 ty
  exact PySem.W.kia_one Z I.kIn p e hx fun tk => ⟨.bl b, H, I.tok tk, rfl, q⟩
theorem call_isZT {X : Cx} : CallR X (.builtin "isinstance") (rIsZT X.K) := by
  intro pins s σ H xs us Q I r h
  obtain ⟨x, tp, cs, t, ws, b, rfl, hT, k, ty, e, q⟩ := h
  obtain ⟨u1, u2, rfl, r1, r2⟩ := vals2 r
  cases (show u2 = Value.ref tp from r2)
  obtain ⟨P, Z, p, hx⟩ := kit_ofZ I r1 ty
  obtain ⟨_, its, rv, o, h1, h2, n, h3⟩ := (show ObjOk X.prog X.w H s.heap tp (.tup cs) from I.hok tp _ hT)
  have e3 := ClsV.all k rv
  subst e3
  obtain ⟨oc, od, dt, sl⟩ := o
  simp only at h2 h3
  subst h2 h3
  exact PySem.W.kia_tup Z I.kIn p h1 e hx fun tk => ⟨.bl b, H, I.tok tk, rfl, q⟩
/-- a class that is asked for -/
inductive Tc where | ve | fe | x (e : Xn) | ck | cf | cr | cp
  deriving DecidableEq
def Tc.v (G : Gx) : Tc → V
  | .ve => .ty "ValueError" | .fe => .ref G.FE | .x e => .ref (G.xs e) | .ck => .ref G.CK | .cf => .ref G.CF | .cr => .ref G.CR | .cp => .ref G.CP
def Tc.u (G : Gx) : Tc → Value
  | .ve => .type "ValueError" | .fe => .ref G.FE | .x e => .ref (G.xs e) | .ck => .ref G.CK | .cf => .ref G.CF | .cr => .ref G.CR | .cp => .ref G.CP
theorem Tc.cls {G : Gx} : ∀ t : Tc, ClsV (t.v G) (t.u G)
  | .ve => .ty _ | .fe => .own _ | .x _ => .own _ | .ck => .own _ | .cf => .own _ | .cr => .own _ | .cp => .own _
/-- a kind's own classes -/
def Kd.isT : Kd → Tc → Bool
  | _, .ck => true
  | .b .fr, .cf => true
  | .b (.rs _), .cr => true
  | .po _, .cp => true
  | _, _ => false
def Xn.isT (n : Xn) : Tc → Bool
  | .ve => true | .fe => true | .x m => decide (n = m) | _ => false
def basicT : List String := ["NoneType", "int", "bool", "str", "tuple", "list", "dict"]
/-- a value's answer -/
def D.isT (d : D) (t : Tc) : Option Bool := match d with
  | .kd k => some (k.isT t)
  | .exn e => some (e.n.isT t)
  | .obj _ => none
  | .scr _ => none
  | .lsa _ _ => none
  | _ => some false
/-- what is known of the class t: b the plain values, k the kinds, e the errors ns -/
structure IsF (K : PySem.W.Frag) (G : Gx) (ns : List Xn) (ks : List Nat) (t : Tc) : Prop where
  b : ∀ T ∈ basicT, PySem.W.kitOne K (.type T) (t.u G) = some false
  e : ∀ n ∈ ns, PySem.W.kitOne K (.ref (G.xs n)) (t.u G) = some (n.isT t) ∧ ExcC K (G.xs n)
  k : ∀ i ∈ ks, ∀ kd : Kd, (match kd with | .b .fr => 0 | .b (.rs _) => 1 | .po _ => 2) = i → ∃ C, (match kd with | .b .fr => G.CF | .b (.rs _) => G.CR | .po _ => G.CP) = C ∧ PySem.W.kitOne K (.ref C) (t.u G) = some (kd.isT t) ∧
    Cls K C ∧ PySem.W.findIn K (.ref C) "__class__" = some (some (.builtin "object.__class__")) ∧ PySem.W.specialIn K (.builtin "object.__class__") "__get__" = some (some (.builtin "getset_descriptor.__get__")) ∧ PySem.W.takesIn K (.builtin "object.__class__") = some true ∧ PySem.W.mroIn K C (.type "object") = some true
end PL

/-! P15 -/
set_option Elab.async false
set_option linter.all false
set_option maxRecDepth 100000
set_option maxHeartbeats 4000000
/-! P15: the rules over errors and kinds. -/
namespace PL
open PySem PySem.Spec L2 PyProof.Rows
/-- what stands of an error's class -/
structure XOk (K : PySem.W.Frag) (mg : Str → Option Value) (x : Str) (C : Addr) : Prop where
  q : PySem.W.excIn K C [Value.type "ValueError", Value.type "Exception", Value.type "BaseException", Value.type "object"] "ValueError.__new__" = true
  g : mg x = some (.ref C)
  k : PySem.W.keepIn K (.ref C) = true
  s : PySem.W.subIn K (.ref C) (.type "BaseException") = some true
  t : PySem.W.typeIn K (.ref C) = some (.type "type")
def sRaise (e : Ex) : WS := ⟨fun S D => D.ex S e, fun l h => l.ex _ _ h⟩
def D.okS (ns : List Xn) (ks : List Nat) : D → Prop
  | .exn e => e.n ∈ ns
  | .kd k => (match k with | .b .fr => 0 | .b (.rs _) => 1 | .po _ => 2) ∈ ks
  | _ => True
def uIsX (t : Tc) (ns : List Xn) (ks : List Nat) : U1 := ⟨fun a Q => ∃ b, a.er.isT t = some b ∧ a.er.okS ns ks ∧ Q (O.t b), fun hq ⟨b, e, k, q⟩ => ⟨b, e, k, hq _ q⟩⟩
def uIsXT (ts : List Tc) (ns : List Xn) : U1 := ⟨fun a Q => ∃ f : Tc → Bool, (∀ t ∈ ts, a.er.isT t = some (f t)) ∧ a.er.okS ns [] ∧ Q (O.t (ts.any f)), fun hq ⟨b, e, k, q⟩ => ⟨b, e, k, hq _ q⟩⟩
theorem D.isT_ty {d : D} {t : String} {c : Tc} (h : d.ty = some t) : d.isT c = some false := by
  cases d <;> first | rfl | cases h
theorem tyZ {K : PySem.W.Frag} {G : Gx} {H : Hp} {ns : List Xn} {ks : List Nat} {t : Tc} (f : IsF K G ns ks t) (hx : ∀ n ∈ ns, ExcC K (G.xs n)) : ∀ (d : D) (v : V) (b : Bool), Re G H H d v → d.isT t = some b → d.okS ns ks → ∃ ty, TyZ K H v ty ∧ PySem.W.kitOne K ty (t.u G) = some b
  | .non, v, b, h, e, _ => by cases e; cases h; exact ⟨_, .x (.base .non), f.b "NoneType" (by decide)⟩
  | .bl x, v, b, h, e, _ => by cases e; cases h; exact ⟨_, .x (.base (.bl x)), f.b "bool" (by decide)⟩
  | .int x, v, b, h, e, _ => by cases e; cases h; exact ⟨_, .x (.base (.int x)), f.b "int" (by decide)⟩
  | .str x, v, b, h, e, _ => by cases e; cases h; exact ⟨_, .x (.base (.str x)), f.b "str" (by decide)⟩
  | .tup ds, v, b, ⟨a, vs, ev, q, z, r⟩, e, _ => by cases e; subst ev; exact ⟨_, .x (.base (.tup q)), f.b "tuple" (by decide)⟩
  | .lst ds, v, b, ⟨a, vs, ev, q, z, r⟩, e, _ => by cases e; subst ev; exact ⟨_, .x (.base (.lst q)), f.b "list" (by decide)⟩
  | .dic, v, b, ⟨a, ev, q⟩, e, _ => by cases e; subst ev; exact ⟨_, .x (.base (.dK q)), f.b "dict" (by decide)⟩
  | .scr _, _, _, _, e, _ => by cases e
  | .lsa _ _, _, _, _, e, _ => by cases e
  | .obj _, _, _, _, e, _ => by cases e
  | .exn x, v, b, ⟨a, d, ev, q, r⟩, e, m => by
    cases e
    subst ev
    refine ⟨_, .e q (fun dd ed => ?_) (hx _ m), (f.e _ m).1⟩
    subst ed
    cases x with
    | inverse r' =>
      obtain ⟨dd', e1, e2⟩ := r
      cases e1
      rw [e2]
      exact fun z => nomatch z
    | kind => exact nomatch (show some dd = none from r)
    | number => exact nomatch (show some dd = none from r)
    | fit => exact nomatch (show some dd = none from r)
    | turn => exact nomatch (show some dd = none from r)
    | text => exact nomatch (show some dd = none from r)
    | name => exact nomatch (show some dd = none from r)
    | row => exact nomatch (show some dd = none from r)
  | .kd k, v, b, h, e, m => by
    cases e
    match k, h, m with
    | .b .fr, ⟨p, dx, ev, q⟩, m =>
      subst ev
      obtain ⟨C, ec, h1, cl, ha, hn, htk, hm⟩ := f.k 0 m (.b .fr) rfl
      cases ec
      exact ⟨_, .x (.base (.ins q cl ha hn htk hm)), h1⟩
    | .b (.rs r), ⟨p, dx, ev, q⟩, m =>
      subst ev
      obtain ⟨C, ec, h1, cl, ha, hn, htk, hm⟩ := f.k 1 m (.b (.rs r)) rfl
      cases ec
      exact ⟨_, .x (.base (.ins q cl ha hn htk hm)), h1⟩
    | .po r, ⟨p, dx, u, ev, q, _⟩, m =>
      subst ev
      obtain ⟨C, ec, h1, cl, ha, hn, htk, hm⟩ := f.k 2 m (.po r) rfl
      cases ec
      exact ⟨_, .x (.base (.ins q cl ha hn htk hm)), h1⟩
section
variable {X : Cx} {c : Cc} {W : WX} {a : Expr} {pa : W1 O} {pos : Pos}
theorem ss_raise {e : Ex} {x m : Str} {j : Nat} {p p2 pos pos' : Pos} (hc : X.calm = true) (tk : Takes X W) (T : XOk X.K X.mg x (c.G.xs e.n)) (hd : RankAt (fun _ => none) none e) (hg : Gl X x := by rfl) (hdb : (x == ("__debug__" : Str)) = false := by decide) :
    SS X c W (.Raise (some (.Call (.Name x p) [.Constant (.str m) j p2] [] pos)) none pos') (sRaise e) :=
  PS.imp (ps_raise hc tk (pmk_own PySem.F.excBase_ValueError T.q T.g T.k (raises_own T.s T.t) hg hdb)) fun D σ H ⟨F, S, Ts, ts, nb, s, h⟩ => by
    refine h σ _ none F H s ⟨rfl, ?_⟩
    cases e with
    | inverse r =>
      obtain ⟨_, e, _⟩ := hd
      cases e
    | _ => rfl
theorem pe_tc {t : Tc} {x : Str} {p : Pos} (hm : X.mg x = some (t.u c.G)) (hg : Gl X x) (hdb : (x == ("__debug__" : Str)) = false) : PE X (.Name x p) (tC (t.v c.G)) := by
  refine pe_glob hg hm ?_ hdb
  cases t <;> exact rfl
/-- the class t under its name: ValueError is the builtins' -/
def TcAt (mg : Str → Option Value) (G : Gx) (x : Str) (t : Tc) : Prop := (t = .ve ∧ x = "ValueError" ∧ mg x = none) ∨ mg x = some (t.u G)
theorem pe_tcN {t : Tc} {x : Str} {p : Pos} (h : TcAt X.mg c.G x t) (hg : Gl X x) (hn : x ≠ "__name__") (hdb : (x == ("__debug__" : Str)) = false) : PE X (.Name x p) (tC (t.v c.G)) := by
  rcases h with ⟨rfl, rfl, hm⟩ | hm
  · exact pe_bltn hg hm (by decide +kernel) (show RelV (.ty "ValueError") _ from rfl) hn hdb
  · exact pe_tc hm hg hdb
theorem se_isX {t : Tc} {ns : List Xn} {ks : List Nat} {x : Str} {p p2 : Pos} (hK : X.K = c.G.K) (hm : X.mg "isinstance" = none) (hx : TcAt X.mg c.G x t) (f : IsF X.K c.G ns ks t) (ha : SE X c W a pa) (hgT : Gl X x := by rfl) (hg : Gl X "isinstance" := by rfl) (hn : x ≠ "__name__" := by decide) (hdb : (x == ("__debug__" : Str)) = false := by decide)
    (he : starEach [a, .Name x p2] X.env = (false, eval a X.env) :: starEach [.Name x p2] X.env := by rfl) (he2 : starEach [.Name x p2] X.env = (false, eval (.Name x p2) X.env) :: starEach [] X.env := by rfl) (hpl : (backTo pos (starEach [.Name x p2] X.env)).any (·.1) = false := by rfl) :
    SE X c W (.Call (.Name "isinstance" p) [a, .Name x p2] [] pos) (w1 pa (uIsX t ns ks)) :=
  PE.imp (pe_callB (x := "isinstance") call_isZ hg hm (by decide +kernel) (pa_cons ha (pa_cons (pe_tcN hx hgT hn hdb) pa_nil he2) he) (by decide) (by decide) he hpl) fun σ H Q ⟨F, S, Ts, ts, s, h⟩ => by
    refine ⟨F, S, Ts, ts, s, pa.mono (fun o ⟨b, e, k, q⟩ F1 H1 v s1 => ?_) (fun _ z => z) h⟩
    have q' := q F1 H1 _ (s1.pop.pushIm rfl)
    obtain ⟨ty, h1, h2⟩ := tyZ f (fun n m => (f.e n m).2) o.er v b s1.topEr e k
    exact ⟨v, _, ty, _, b, rfl, t.cls, h1, h2, q'⟩
/-- the classes of a tuple -/
inductive TcsAt (mg : Str → Option Value) (G : Gx) : List Tc → List Str → Prop where
  | nil : TcsAt mg G [] []
  | cons {t : Tc} {x : Str} {ts : List Tc} {xs : List Str} (h : TcAt mg G x t) (r : TcsAt mg G ts xs) : TcsAt mg G (t :: ts) (x :: xs)
theorem kitAny_of {K : PySem.W.Frag} {G : Gx} {ty : Value} {f : Tc → Bool} : ∀ {ts : List Tc}, (∀ t ∈ ts, PySem.W.kitOne K ty (t.u G) = some (f t)) → PySem.W.kitAny K ty (ts.map (Tc.u G)) = some (ts.any f)
  | [], _ => rfl
  | t :: ts, h => by
    show (match PySem.W.kitOne K ty (t.u G) with | some true => some true | some false => PySem.W.kitAny K ty (ts.map (Tc.u G)) | none => none) = _
    rw [h t List.mem_cons_self]
    cases e : f t
    · show PySem.W.kitAny K ty (ts.map (Tc.u G)) = _
      rw [kitAny_of fun t' ht => h t' (List.mem_cons_of_mem _ ht), List.any_cons, e, Bool.false_or]
    · rw [List.any_cons, e, Bool.true_or]
theorem tyZ_one {K : PySem.W.Frag} {G : Gx} {H : Hp} {ns : List Xn} {ts : List Tc} {g : Tc → Bool} {d : D} {v : V} (f : ∀ t ∈ ts, IsF K G ns [] t) (hne : ts ≠ []) (h : Re G H H d v) (e : ∀ t ∈ ts, d.isT t = some (g t)) (k : d.okS ns []) :
    ∃ ty, TyZ K H v ty ∧ ∀ t ∈ ts, PySem.W.kitOne K ty (t.u G) = some (g t) := by
  obtain ⟨t0, ts', rfl⟩ := List.exists_cons_of_ne_nil hne
  have f0 := f t0 List.mem_cons_self
  have base : ∀ T ∈ basicT, d.isT t0 = some false → (∀ t, d.isT t = some false) → ∀ t ∈ t0 :: ts', PySem.W.kitOne K (.type T) (t.u G) = some (g t) := fun T hT _ hall t ht => by
    have := (hall t).symm.trans (e t ht)
    rw [← Option.some.inj this]
    exact (f t ht).b T hT
  match d, h, e, k with
  | .non, h, e, k => cases h; exact ⟨_, .x (.base .non), base "NoneType" (by decide) rfl fun _ => rfl⟩
  | .bl x, h, e, k => cases h; exact ⟨_, .x (.base (.bl x)), base "bool" (by decide) rfl fun _ => rfl⟩
  | .int x, h, e, k => cases h; exact ⟨_, .x (.base (.int x)), base "int" (by decide) rfl fun _ => rfl⟩
  | .str x, h, e, k => cases h; exact ⟨_, .x (.base (.str x)), base "str" (by decide) rfl fun _ => rfl⟩
  | .tup ds, ⟨a, vs, ev, q, z, r⟩, e, k => subst ev; exact ⟨_, .x (.base (.tup q)), base "tuple" (by decide) rfl fun _ => rfl⟩
  | .lst ds, ⟨a, vs, ev, q, z, r⟩, e, k => subst ev; exact ⟨_, .x (.base (.lst q)), base "list" (by decide) rfl fun _ => rfl⟩
  | .dic, ⟨a, ev, q⟩, e, k => subst ev; exact ⟨_, .x (.base (.dK q)), base "dict" (by decide) rfl fun _ => rfl⟩
  | .scr _, _, e, _ => exact nomatch e t0 List.mem_cons_self
  | .lsa _ _, _, e, _ => exact nomatch e t0 List.mem_cons_self
  | .obj _, _, e, _ => exact nomatch e t0 List.mem_cons_self
  | .kd k', _, _, k => exact nomatch k
  | .exn x, h, e, k =>
    obtain ⟨ty, h1, _⟩ := tyZ f0 (fun n m => (f0.e n m).2) (.exn x) v _ h (e t0 List.mem_cons_self) k
    obtain ⟨a, d, ev, q, r⟩ := h
    subst ev
    refine ⟨.ref (G.xs x.n), .e q (fun dd ed => ?_) (f0.e _ k).2, fun t ht => ?_⟩
    · subst ed
      cases x with
      | inverse r' =>
        obtain ⟨dd', e1, e2⟩ := r
        cases e1
        rw [e2]
        exact fun z => nomatch z
      | kind => exact nomatch (show some dd = none from r)
      | number => exact nomatch (show some dd = none from r)
      | fit => exact nomatch (show some dd = none from r)
      | turn => exact nomatch (show some dd = none from r)
      | text => exact nomatch (show some dd = none from r)
      | name => exact nomatch (show some dd = none from r)
      | row => exact nomatch (show some dd = none from r)
    · have := e t ht
      rw [← this]
      exact ((f t ht).e _ k).1
theorem tc_paired {G : Gx} : ∀ ts : List Tc, Paired ClsV (ts.map (Tc.v G)) (ts.map (Tc.u G))
  | [] => .nil
  | t :: ts => .cons t.cls (tc_paired ts)
/-- a row of names that mean classes -/
theorem se_isXT {ts : List Tc} {ns : List Xn} {es : List Expr} {p p2 : Pos} {kt : Nat} (hK : X.K = c.G.K) (hm : X.mg "isinstance" = none) (hne : ts ≠ []) (hl : ts.length ≤ sizeLine) (hes : PA X es (fun σ H Q => Q (ts.map (Tc.v c.G)) H)) (f : ∀ t ∈ ts, IsF X.K c.G ns [] t) (ha : SE X c W a pa) (hg : Gl X "isinstance" := by rfl)
    (he : starEach [a, .Tuple es kt p2] X.env = (false, eval a X.env) :: starEach [.Tuple es kt p2] X.env := by rfl) (he2 : starEach [.Tuple es kt p2] X.env = (false, eval (.Tuple es kt p2) X.env) :: starEach [] X.env := by rfl) (hpl : (backTo pos (starEach [.Tuple es kt p2] X.env)).any (·.1) = false := by rfl) :
    SE X c W (.Call (.Name "isinstance" p) [a, .Tuple es kt p2] [] pos) (w1 pa (uIsXT ts ns)) :=
  PE.imp (pe_callB (x := "isinstance") call_isZT hg hm (by decide +kernel) (pa_cons ha (pa_cons (pe_tup hes) pa_nil he2) he) (by decide) (by decide) he hpl) fun σ H Q ⟨F, S, Ts, ts', s, h⟩ => by
    refine ⟨F, S, Ts, ts', s, pa.mono (fun o ⟨g, e, k, q⟩ F1 H1 v s1 => ?_) (fun _ z => z) h⟩
    refine ⟨by rw [List.length_map]; exact hl, fun tp n => ?_⟩
    have s2 := s1.alloc (o := .tup (ts.map (Tc.v c.G))) n
    obtain ⟨ty, h1, h2⟩ := tyZ_one f hne s2.topEr e k
    exact ⟨v, tp, _, ty, _, _, rfl, upd_same, tc_paired ts, h1, kitAny_of h2, q F1 _ _ (s2.pop.pushIm rfl)⟩
/-- try: .. except FrameError as e: got = e -/
def sTry (i j : Nat) (ns : List Xn) (p : WS) : WS := ⟨fun S D => p.run S { D with ex := fun S' e => e.n ∈ ns ∧ i < S'.length ∧ j < S'.length ∧ D.nx (((S'.set i (some (.im (.exn e)))).set j (some (.im (.exn e)))).set i none) },
  fun {S D D'} l h => p.mono (D := { D with ex := fun S' e => e.n ∈ ns ∧ i < S'.length ∧ j < S'.length ∧ D.nx (((S'.set i (some (.im (.exn e)))).set j (some (.im (.exn e)))).set i none) }) ⟨l.nx, l.rt, l.bk, l.ct, fun S' e z => ⟨z.1, z.2.1, z.2.2.1, l.nx _ z.2.2.2⟩⟩ h⟩
/-- what «except FrameError» takes -/
structure TryF (K : PySem.W.Frag) (mg : Str → Option Value) (G : Gx) (ns : List Xn) : Prop where
  g : mg "FrameError" = some (.ref G.FE)
  m : ∀ n ∈ ns, PySem.W.exmOne K (.ref (G.xs n)) (.ref G.FE) = some true
theorem ss_try {i j : Nat} {n y : Str} {ns : List Xn} {body : List Stmt} {np p1 p2 p3 pos pos' : Pos} {p : WS} (T : TryF X.K X.mg c.G ns) (hs : X.stack = X.env :: X.outer) (hf : X.env.frame = some X.env.locals) (hex : X.ex = []) (hN : X.N.Nodup) (hi : X.N[i]? = some n) (hj : X.N[j]? = some y)
    (hln : X.env.kindOf n = some .local) (hvn : Vis X.env.scope n) (hlj : X.env.scope.names.lookup y = some .local)
    (hb : ∀ (W : WX) (pn : List (Addr × Obj)) (xe : Value → Shared → Prop), Takes (X.tr pn xe) W → PassesOwn (model X.prog X.w) X.A X.env xe → SSs (X.tr pn xe) c W body p)
    (hg : Gl X "FrameError" := by rfl) (hsw : swapsWith (.Name n p2) (some (.Name y p1)) p3.line X.env = pure false := by rfl) (hd1 : (n == ("__debug__" : Str)) = false := by decide) (hd2 : (n == ("__classdict__" : Str)) = false := by decide) :
    SS X c W (.Try body [.ExceptHandler (some (.Name "FrameError" np)) (some n) [.Assign [.Name y p1] (.Name n p2) p3] pos'] [] [] pos) (sTry i j ns p) :=
  PS.imp (ps_try_got (Wout := fun _ _ _ _ => False) (tb := fun W => liftS c W p) hs hf hN hi hln hvn hj hlj (by
      rcases Nat.lt_or_ge i X.N.length with h | h
      · exact h
      · rw [List.getElem?_eq_none h] at hi; cases hi) hex ⟨hg, by decide, .inl T.g⟩ takes0 hb hsw hd1 hd2) fun D σ H ⟨F, S, Ts, ts, nb, s, h⟩ =>
    ⟨F, S, Ts, ts, nb, s, p.le h ⟨fun _ z => z, fun _ z => z, fun _ z => z, fun _ z => z, fun S' e ⟨m, li, lj, z⟩ σ' cls d F' H' s' ⟨ec, r⟩ => by
      subst ec
      refine ⟨true, T.m _ m, fun _ => ⟨_, rfl, fun a na => ?_⟩, fun z => nomatch z⟩
      have s2 := s'.alloc (o := exq a (c.G.xs e.n) d) na
      have k : Keep H' (upd H' a (exq a (c.G.xs e.n) d)) := Keep.of (upd_same_of na)
      have re : ∀ F'' : Hp, Re c.G F'' (upd H' a (exq a (c.G.xs e.n) d)) (.exn e) (.ref a) := fun _ => ⟨a, d, rfl, upd_same, r.mono k⟩
      obtain ⟨F2, _, _, s3⟩ := (s2.pushIm (re F'.F)).put rfl li
      obtain ⟨F3, _, _, s4⟩ := (s3.pushIm (re F2.F)).put rfl (by rw [List.length_set]; exact lj)
      have s5 := s4.drop i
      refine z F3 _ _ ?_
      obtain ⟨A, C, hA, hC, rest⟩ := s5.own
      exact ⟨s5.ext, s5.fb, s5.bh, s5.old, s5.dom, A, C, hA, hC.none_at i, rest⟩⟩⟩
/-! ### kinds made -/
structure Mk0 (K : PySem.W.Frag) (mg : Str → Option Value) (x : Str) (C : Addr) : Prop where
  makes : PySem.W.makesIn K C = true
  init : PySem.W.findIn K (.ref C) "__init__" = some (some (.builtin "object.__init__"))
  kp : PySem.W.keepIn K (.ref C) = true
  g : mg x = some (.ref C)
theorem run_make0 {pins : List (Addr × Obj)} {σ : L2.St} {H : Hp} {s : Shared} {Q : VK} {x : Str} {C : Addr} (M : Mk0 X.K X.mg x C) (I : Inv X pins σ H s)
    (h : ∀ x dx, H x = none → H dx = none → dx ≠ x → Q (.ref x) (upd (upd H dx (.own x)) x (.ins C dx []))) : wpAny (model X.prog X.w) X.A (call (.ref C) []) (EP X pins σ Q) X.xe s := by
  have hq := h (s.heap.objs.size + 1) s.heap.objs.size (I.hok.fresh (Nat.le_succ _)) (I.hok.fresh (Nat.le_refl _)) (Nat.ne_of_lt (Nat.lt_succ_self _))
  have I2 := Inv.made (C := C) I
  refine wpAny_call (make_map0 I.kIn M.makes M.init (fun self => PySem.W.Looks.of_pure (PySem.W.oi_bind self)) ?_)
  have e2 : ((s.heap.push PySem.W.emptyDict).push (PySem.W.instObj C s.heap.objs.size)).get? (s.heap.objs.size + 1) = some (PySem.W.instObj C s.heap.objs.size) := by
    have := Heap.get?_push_size (s.heap.push PySem.W.emptyDict) (o := PySem.W.instObj C s.heap.objs.size) rfl
    rwa [Heap.size_push] at this
  have t1 : PySem.W.Looks (model X.prog X.w) ((s.heap.push PySem.W.emptyDict).push (PySem.W.instObj C s.heap.objs.size)) (typeOf (.ref (s.heap.objs.size + 1))) (.ref C) := (PySem.W.Looks.ld e2).andThen .now
  have Y := PySem.W.makes_of (M := model X.prog X.w) I.kIn M.makes
  have t2 : PySem.W.Looks (model X.prog X.w) ((s.heap.push PySem.W.emptyDict).push (PySem.W.instObj C s.heap.objs.size)) (isInstance (.ref (s.heap.objs.size + 1)) (.type "object")) true :=
    t1.andThen (Y.top.keeps fun b o e => Heap.get?_push_of_some _ (Heap.get?_push_of_some _ e))
  obtain ⟨hh, g, d, t, os⟩ := s
  refine codeAny_call_builtin PySem.W.oi_plain PySem.W.entry_oi (@PySem.W.check_slot (model X.prog X.w) _ _ _ "object.__init__" "object" "__init__" (.ref (hh.objs.size + 1)) [] [] _ PySem.W.oi_kind PySem.W.oi_split t2 (PySem.W.oi_args (.ref (hh.objs.size + 1))) ?_)
  rw [PySem.W.oi_run]
  exact wpAny_pure ⟨rfl, V.ref (hh.objs.size + 1), _, I2, rfl, hq⟩
theorem upd2 {H : Hp} {x dx : Addr} {o : HO} (n : H x = none) (nd : H dx = none) (ne : dx ≠ x) : upd H dx o x = none := by rw [upd_ne (Ne.symm ne)]; exact n
/-- {} -/
theorem se_dic : SE X c W (.Dict [] [] pos) (wC .dic) := PE.imp pe_dnewK fun σ H Q ⟨F, S, Ts, ts, s, h⟩ => fun p n => h F _ _ ((s.alloc (o := .dK []) n).pushIm ⟨p, rfl, upd_same⟩)
theorem se_mkFr {p : Pos} (M : Mk0 X.K X.mg "Fractions" c.G.CF) (hg : Gl X "Fractions" := by rfl) : SE X c W (.Call (.Name "Fractions" p) [] [] pos) (wC (.kd (.b .fr))) := by
  refine ⟨fun pins s σ H Q I ⟨F, S, Ts, ts, sv, h⟩ => ?_⟩
  refine wpAny_Call_Name_kw (ld_glob I hg M.g ?_ (by decide))
  refine PySem.W.callWith_K0 I.kIn M.kp (run_make0 M I fun x dx nx nd ne => ?_)
  have s2 := (sv.alloc (o := .own x) nd).alloc (o := .ins c.G.CF dx []) (upd2 nx nd ne)
  exact h F _ _ (s2.pushIm ⟨x, dx, rfl, upd_same⟩)
/-- Rests(..) -/
def spMkR (G : Gx) : Sp := fun vs H Q E => ∃ (x dx : Addr) (d : D) (v : V) (F0 : Hp), vs = [.ref x, v] ∧ H x = some (.ins G.CR dx []) ∧ Same F0 H ∧ Re G F0 H d v ∧ d.ty.isSome = true ∧
  (∀ p, d = .int p → p < 1000000 → IsP p → ∀ H' : Hp, H' x = some (.ins G.CR dx [("prime", .int p)]) → (∀ b o, H b = some o → b ≠ x → H' b = some o) → Q .non H') ∧
  ((¬ ∃ p, d = .int p ∧ p < 1000000 ∧ IsP p) → ∀ cls dd H', Same H H' → ExAt G H' cls dd .kind → E cls dd H')
/-- what the first row of Rests.__init__ does -/
def KeepsInit (w : WS) : Prop := ∀ (x : V) (d : D) (D' : PEnds), d.ty.isSome = true → (∀ p, d = .int p → p < 1000000 → IsP p → D'.nx [some (.im (.obj x)), some (.im d)]) → ((¬ ∃ p, d = .int p ∧ p < 1000000 ∧ IsP p) → D'.ex [some (.im (.obj x)), some (.im d)] .kind) → w.run [some (.im (.obj x)), some (.im d)] D'
end
section
variable {P : Program} {w : World} {K : PySem.W.Frag} {mg : Str → Option Value} {base : Heap} {G : Gx}
theorem ok_init {qual : Str} {st st0 : Stmt} {f : Addr} {fd : FuncData} {k : Nat} {p : WS} {p1 p2 p3 p4 : Pos} (F : Fun K "__init__" qual st f fd) (S : FnScope ["self", "prime"] ["self", "prime"] (defScope st)) (cl : Cls K G.CR) (no : NoAttr K G.CR "prime")
    (hst : defBody st = [st0, .Assign [.Attribute (.Name "self" p1) "prime" p2] (.Name "prime" p3) p4])
    (hbody : ∀ (cdv : Value) (A : Around) (outer : List Env) (s : Shared) (H F0 : Hp) (E : XK), Room k (A.deeper (PyProof.Rows.envOfC qual (defScope st) s.heap.objs.size f cdv)) →
      SS (cxOf (L2.CX P w) P w K mg base ["self", "prime"] qual (defScope st) f cdv A outer s H E) ⟨G, F0, H⟩ (fun cls d _ H => E cls d H) st0 p)
    (hv1 : (defScope st).names.lookup ("self" : Str) = some .local) (hv2 : (defScope st).names.lookup ("prime" : Str) = some .local)
    (pure : KeepsInit p) : FnOk P w K mg base (L2.CX P w) (k + 1) f fd ["self", "prime"] (spMkR G) := by
  refine F.okX S (fun vs H Q E ⟨x, dx, d, v, F0, e, _⟩ => by subst e; rfl) (fun cdv A outer s H vs Q E hr ⟨x, dx, d, v, F0, e, hx, sm, re, ht, h1, h2⟩ => ?_)
  subst e
  rw [hst]
  refine ⟨_, pss_cons (hbody cdv A outer s H F0 E hr) (pss_one (ps_fld (pe_var (i := 0) rfl (.inl hv1)) (pe_var (i := 1) rfl (.inl hv2)) rfl)), ?_⟩
  refine ⟨⟨F0, F0⟩, [some (.im (.obj (.ref x))), some (.im d)], [], [], (fun o ho => by cases ho), ⟨Same.refl _, Same.refl _, sm, Same.refl _, fun _ _ => rfl, [], [], ⟨rfl, rfl⟩, ⟨_, _, [], [], rfl, rfl, ⟨rfl, rfl⟩, _, _, [], [], rfl, rfl, ⟨rfl, re⟩, rfl, rfl⟩, List.nodup_nil, (fun a ha => by cases ha), (fun a ha => by cases ha), (fun a ha => by cases ha)⟩, ?_⟩
  refine pure _ _ _ ht (fun q eq hq pq F' H' σ' s' => ?_) (fun nb σ' cls dd F' H' s' ex => h2 nb cls dd H' s'.old ex)
  subst eq
  have hx' := s'.old _ _ hx
  obtain ⟨A', C', hA, hC, _⟩ := s'.own
  obtain ⟨v0, t0, B0, C0, e0, _, r0, hC0⟩ := hC
  obtain ⟨v1, t1, B1, C1, e1, _, r1, hC1⟩ := hC0
  have z0 : v0 = .ref x := r0.2
  have z1 : v1 = .int q := r1.2
  subst e0
  subst e1
  refine ⟨_, rfl, _, rfl, x, _, dx, [], z0, hx', cl, no, by decide, ?_⟩
  subst z1
  exact h1 q rfl hq pq _ upd_same fun b o e hb => by rw [upd_ne hb]; exact s'.old b o e
end
section
variable {X : Cx} {c : Cc} {W : WX} {a : Expr} {pa : W1 O} {pos : Pos}
structure MkR (P : Program) (w : World) (K : PySem.W.Frag) (mg : Str → Option Value) (base : Heap) (k : Nat) (G : Gx) : Prop where
  ex : ∃ f fd, Mk K G.CR f ∧ FnOk P w K mg base (L2.CX P w) k f fd ["self", "prime"] (spMkR G) ∧ mg "Rests" = some (.ref G.CR) ∧ Binds K fd ["self", "prime"] []
def wMkR (pa : W1 O) : W1 O := ⟨fun S Q E => pa.run S (fun o => o.er.ty.isSome = true ∧ (∀ p, o.er = .int p → p < 1000000 → IsP p → Q (.im (.kd (.b (.rs p))))) ∧ ((¬ ∃ p, o.er = .int p ∧ p < 1000000 ∧ IsP p) → E .kind)) E,
  fun hq he h => pa.mono (fun o ⟨z1, z2, z3⟩ => ⟨z1, fun p e1 e2 e3 => hq _ (z2 p e1 e2 e3), fun n => he _ (z3 n)⟩) he h⟩
theorem run_makeAt {pins : List (Addr × Obj)} {σ : L2.St} {H : Hp} {s : Shared} {Q : VK} {E : XK} {CX : CXT} {k : Nat} {C f : Addr} {fd : FuncData} {ps : List Str} {sp : Sp} {ds : List Value} {dvs : List V} {us : List Value} {vs : List V} (M : Mk X.K C f) (F : FnOk X.prog X.w X.K X.mg X.base CX k f fd ps sp) (hr : Room (k + 1) X.A) (hb : Binds X.K fd ps ds) (hd : Vals dvs ds)
    (hx : PassesAt CX X σ E) (I : Inv X pins σ H s) (r : Vals vs us)
    (h : ∀ x dx, H x = none → H dx = none → dx ≠ x → sp (.ref x :: (vs ++ dvs)) (upd (upd H dx (.own x)) x (.ins C dx [])) (fun v H2 => v = .non ∧ Q (.ref x) H2) E) :
    wpAny (model X.prog X.w) X.A (call (.ref C) us) (EP X pins σ Q) X.xe s := by
  have hq := h (s.heap.objs.size + 1) s.heap.objs.size (I.hok.fresh (Nat.le_succ _)) (I.hok.fresh (Nat.le_refl _)) (Nat.ne_of_lt (Nat.lt_succ_self _))
  have I2 := Inv.made (C := C) I
  have r2 : Vals (V.ref (s.heap.objs.size + 1) :: (vs ++ dvs)) (Value.ref (s.heap.objs.size + 1) :: (us ++ ds)) := .cons rfl (r.append hd)
  have hl : (Value.ref (s.heap.objs.size + 1) :: us ++ ds).length = ps.length := by
    have e := r2.length
    rw [F.len _ _ _ _ hq] at e
    exact e.symm
  refine wpAny_call (make_map (f := f) I.kIn M.makes M.init (beq_iff_eq.mp M.fn) (codeAny_mono (F.run _ X.stack _ _ ⟨Value.ref (s.heap.objs.size + 1) :: us, []⟩ (Value.ref (s.heap.objs.size + 1) :: (us ++ ds)) _ _ E (hr.make C us [])
    (I2.env0.make C us []) (hb _ (Value.ref (s.heap.objs.size + 1) :: us) I2.kIn hl) r2 hq) fun r s' hq' => ?_))
  cases r with
  | error e => exact hx pins _ _ e s' I2 hq'
  | ok fl =>
    cases fl with
    | ret u =>
      obtain ⟨v, H', I3, rv, ev, q3⟩ := I2.after hq'
      subst ev
      exact ⟨rv, ⟨V.ref (s.heap.objs.size + 1), H', I3, rfl, q3⟩⟩
    | next => exact False.elim hq'
    | brk => exact False.elim hq'
    | cont => exact False.elim hq'
theorem se_mkRs {k j : Nat} {p : Pos} (M : MkR X.prog X.w X.K X.mg X.base k c.G) (hr : Room j X.A) (hk : k + 1 ≤ j) (tk : Takes X W) (ha : SE X c W a pa) (hg : Gl X "Rests" := by rfl)
    (he : starEach [a] X.env = (false, eval a X.env) :: starEach [] X.env := by rfl) (hpl : (backTo pos (starEach ([] : List Expr) X.env)).any (·.1) = false := by rfl) :
    SE X c W (.Call (.Name "Rests" p) [a] [] pos) (wMkR pa) := by
  obtain ⟨f, fd, M, F, hm, hb⟩ := M.ex
  refine ⟨fun pins s σ H Q I ⟨F0, S, Ts, ts, sv, h⟩ => ?_⟩
  refine wpAny_Call_Name_kw (ld_glob I hg hm ?_ (by decide))
  refine PySem.W.callWith_K (h₀ := X.base) I.ok.mod.kin M.kp (thn ((pa_cons ha pa_nil he).run pos pins s σ H (fun vs H1 => ∃ v F1 o, vs = [v] ∧ Sv c F1 H1 (o :: Ts) (v :: ts) S σ ∧ o.er.ty.isSome = true ∧
      (∀ p, o.er = .int p → p < 1000000 → IsP p → ∀ F' H' v, Sv c F' H' (.im (.kd (.b (.rs p))) :: Ts) (v :: ts) S σ → Q v H') ∧ ((¬ ∃ p, o.er = .int p ∧ p < 1000000 ∧ IsP p) → exK c W Ts ts S σ .kind)) I ?_) fun us s1 ⟨vs, H1, I1, r, v, F1, o, ev, s2, z1, z2, z3⟩ => ⟨I1.kIn, ?_⟩) he hpl
  · refine ⟨F0, S, Ts, ts, sv, W1.le pa h (fun o ⟨z1, z2, z3⟩ F1 H1 v s1 => ⟨v, F1, o, rfl, s1, z1, z2, z3⟩) (fun _ z => z)⟩
  · subst ev
    refine run_makeAt (E := WE W σ) (dvs := []) M F (hr.mono hk) hb .nil (passAt tk σ) I1 r fun x dx nx nd ne => ?_
    have s3 := (s2.alloc (o := .own x) nd).alloc (o := .ins c.G.CR dx []) (upd2 nx nd ne)
    refine ⟨x, dx, o.er, v, _, rfl, upd_same, Same.refl _, s3.topEr, z1, fun p ep hp pp H' hx' k => ⟨rfl, ?_⟩, fun nb cls dd H' sm ex => ?_⟩
    · have sm : Same H1 H' := fun b u e => k b u (by rw [upd_ne (ne_of_none e nx), upd_ne (ne_of_none e nd)]; exact e) (ne_of_none e nx)
      exact z2 p ep hp pp _ H' _ ((s2.pop.grow (Same.refl _) sm (s2.sub.trans sm) (fun _ _ => rfl)).pushIm ⟨x, dx, rfl, hx'⟩)
    · have sm1 : Same H1 H' := fun b u e => sm b u (by rw [upd_ne (ne_of_none e nx), upd_ne (ne_of_none e nd)]; exact e)
      exact z3 nb cls dd _ H' (s2.pop.grow (Same.refl _) sm1 (s2.sub.trans sm1) (fun _ _ => rfl)) ex
/-! ### a def with defaults -/
end
section
variable {P : Program} {w : World} {K : PySem.W.Frag} {mg : Str → Option Value} {base : Heap} {G : Gx}
theorem ok_ofD {x qual : Str} {ar : Arguments} {bd : List Stmt} {sc : Scope} {dvs : List V} {kws : List (Str × V)} {f : Addr} {fd : FuncData} {N ps : List Str} {k : Nat} {R : Ctr} {p : WS} (F : FunD K x qual ar bd sc dvs kws f fd) (S : FnScope N ps sc) (len : ∀ ds Q E, R.run ds Q E → ds.length = ps.length)
    (hbody : ∀ (cdv : Value) (A : Around) (outer : List Env) (s : Shared) (H F0 : Hp) (E : XK), Room k (A.deeper (PyProof.Rows.envOfC qual sc s.heap.objs.size f cdv)) →
      SSs (cxOf (L2.CX P w) P w K mg base N qual sc f cdv A outer s H E) ⟨G, F0, H⟩ (fun cls d _ H => E cls d H) bd p)
    (pure : ∀ ds Q E, R.run ds Q E → p.run (startS N ds) (bodyK Q E)) : FnOk P w K mg base (L2.CX P w) (k + 1) f fd ps (spOf G R) := by
  refine F.ok S (fun vs H Q E ⟨F0, ds, _, r, h⟩ => by rw [← r.length]; exact len _ _ _ h) (fun cdv A outer s H vs Q E hr ⟨F0, ds, sm, r, h⟩ => ⟨_, hbody cdv A outer s H F0 E hr, ?_⟩)
  refine ⟨⟨F0, F0⟩, startS N ds, [], [], (fun o ho => by cases ho), ⟨Same.refl _, Same.refl _, sm, Same.refl _, fun _ _ => rfl, [], [], ⟨rfl, rfl⟩, ?_, List.nodup_nil, (fun a ha => by cases ha), (fun a ha => by cases ha), (fun a ha => by cases ha)⟩, p.le (pure ds _ _ h) ⟨fun S' z F' H' σ' s' => ?_, fun o ⟨nb, z⟩ F' H' v S' σ' s' => ?_, fun _ z => z.elim, fun _ z => z.elim, fun S' e z σ' cls d F' H' s' x => z cls d H' s'.old x⟩⟩
  · unfold startS L2.start
    rw [r.length]
    exact SlL.start r
  · exact z F'.F H' .non [] s'.ext s'.sub s'.old s'.dom ⟨rfl, rfl⟩ List.nodup_nil fun a ha => by cases ha
  · obtain ⟨A, C, ⟨v', vr, A1, A2, e, eA, ho, r2⟩, hC, nd, no, nA, nC⟩ := s'.own
    cases e
    have e2 : A2 = [] := r2.2
    subst e2 eA
    rw [List.append_nil] at nd no
    exact z F'.F H' v A1 s'.ext s'.sub s'.old s'.dom (ho.ow nb) (List.nodup_append.mp nd).1 fun a ha => no a (List.mem_append_left _ ha)
end
end PL

/-! P16 -/
set_option Elab.async false
set_option linter.all false
set_option maxRecDepth 100000
set_option maxHeartbeats 4000000
/-! P16: methods as callers want them; contracts that may raise. -/
namespace PL
open PySem PySem.Spec L2 PyProof.Rows
theorem tidy_im {d : D} : O.tidy (.im d) = d.flat := rfl
theorem flat_int {n : Int} : D.flat (.int n) = true := rfl
theorem flat_bl {n : Bool} : D.flat (.bl n) = true := rfl
theorem flat_str {n : Str} : D.flat (.str n) = true := rfl
theorem flat_non : D.flat .non = true := rfl
theorem flat_dic : D.flat .dic = true := rfl
theorem isT_kd {k : Kd} {t : Tc} : D.isT (.kd k) t = some (k.isT t) := rfl
theorem okS_kd {k : Kd} {ns : List Xn} {ks : List Nat} : D.okS ns ks (.kd k) = ((match k with | .b .fr => 0 | .b (.rs _) => 1 | .po _ => 2) ∈ ks) := rfl
theorem flat_kd {k : Kd} : D.flat (.kd k) = true := rfl
theorem flat_tup {ds : List D} : D.flat (.tup ds) = D.flatL ds := rfl
theorem flatL_nil : D.flatL [] = true := rfl
theorem flatL_cons {d : D} {ds : List D} : D.flatL (d :: ds) = (d.flat && D.flatL ds) := rfl
theorem isPo_b {k : BK} : Kd.isPo (.b k) = false := rfl
theorem isFr_fr : Kd.isFr (.b .fr) = true := rfl
theorem isFr_rs {p : Int} : Kd.isFr (.b (.rs p)) = false := rfl
theorem isRs_fr : Kd.isRs (.b .fr) = false := rfl
theorem isRs_rs {p : Int} : Kd.isRs (.b (.rs p)) = true := rfl
theorem isT_exn {e : Ex} {t : Tc} : D.isT (.exn e) t = some (e.n.isT t) := rfl
theorem isT_non {t : Tc} : D.isT .non t = some false := rfl
theorem xT_x {n m : Xn} : n.isT (.x m) = decide (n = m) := rfl
theorem xT_ve {n : Xn} : n.isT .ve = true := rfl
theorem xT_fe {n : Xn} : n.isT .fe = true := rfl
theorem n_kind : Ex.n .kind = .kind := rfl
theorem n_number : Ex.n .number = .number := rfl
theorem n_fit : Ex.n .fit = .fit := rfl
theorem n_turn : Ex.n .turn = .turn := rfl
theorem n_inverse {r : Int} : Ex.n (.inverse r) = .inverse := rfl
theorem n_text : Ex.n .text = .text := rfl
theorem n_name : Ex.n .name = .name := rfl
theorem n_row : Ex.n .row = .row := rfl
theorem okS_exn {e : Ex} {ns : List Xn} {ks : List Nat} : D.okS ns ks (.exn e) = (e.n ∈ ns) := rfl
theorem okS_non {ns : List Xn} {ks : List Nat} : D.okS ns ks .non = True := rfl
theorem cell_get {cs : List Int} {i : Nat} (h : i < cs.length) : (cs.map O.i)[i]? = some (O.i (cellI cs i)) := by
  have := atI_i (cs := cs) (j := i) (by omega) (by omega)
  rwa [atI_ix] at this
theorem cells2 {xs : List Int} : List.map O.i xs ++ [O.im (D.int 0), O.im (D.int 0)] = (xs ++ [0, 0]).map O.i := by simp
theorem cells2D {xs : List Int} : List.map D.int xs ++ [D.int 0, D.int 0] = (xs ++ [0, 0]).map D.int := by simp
theorem cells1 {xs : List Int} : List.map O.i xs ++ [O.im (D.int 0)] = (xs ++ [0]).map O.i := by simp
theorem cells1D {xs : List Int} : List.map D.int xs ++ [D.int 0] = (xs ++ [0]).map D.int := by simp
theorem ite_yes {c : Prop} {i : Decidable c} {a b : Prop} (h : c) (q : a) : @ite Prop c i a b := by rw [if_pos h]; exact q
theorem ite_no {c : Prop} {i : Decidable c} {a b : Prop} (h : ¬ c) (q : b) : @ite Prop c i a b := by rw [if_neg h]; exact q
theorem mkT_1 {a : D} : mkT [.im a] = .im (.tup [a]) := rfl
theorem mkT_2 {a b : D} : mkT [.im a, .im b] = .im (.tup [a, b]) := rfl
theorem mkT_3 {a b c : D} : mkT [.im a, .im b, .im c] = .im (.tup [a, b, c]) := rfl
theorem mkT_4 {a b c d : D} : mkT [.im a, .im b, .im c, .im d] = .im (.tup [a, b, c, d]) := rfl
theorem intL_0 {lo : Int} : intL lo 0 = [] := rfl
theorem intL_s {lo : Int} {n : Nat} : intL lo (n + 1) = O.i lo :: intL (lo + 1) n := by
  unfold intL
  rw [List.range_succ_eq_map, List.map_cons, List.map_map]
  congr 1
  · simp
  · apply List.map_congr_left
    intro i _
    show O.i _ = O.i _
    congr 1
    simp
    omega
theorem atI_all {os : List O} {z : Int} (P : O → Prop) (h : ∀ o ∈ os, P o) (h0 : 0 ≤ z) (h1 : z < os.length) : ∃ o, atI os z = some o ∧ P o := by
  obtain ⟨k, rfl⟩ := Int.eq_ofNat_of_zero_le h0
  have hk : k < os.length := by omega
  exact ⟨os[k], by rw [atI_ix, List.getElem?_eq_getElem hk], h _ (List.getElem_mem hk)⟩
theorem kT_1 : Kd.isT (.b .fr) .ck = true := rfl
theorem kT_2 : Kd.isT (.b .fr) .cf = true := rfl
theorem kT_3 : Kd.isT (.b .fr) .cr = false := rfl
theorem kT_4 {p : Int} : Kd.isT (.b (.rs p)) .ck = true := rfl
theorem kT_5 {p : Int} : Kd.isT (.b (.rs p)) .cf = false := rfl
theorem kT_6 {p : Int} : Kd.isT (.b (.rs p)) .cr = true := rfl
theorem seq_cut {p q : WS} {S : List (Option O)} {D : PEnds} (I : List (Option O) → Prop) (h1 : p.run S { D with nx := I }) (h2 : ∀ S', I S' → q.run S' D) : (sSeq p q).run S D :=
  p.le (D := { D with nx := I }) (D' := { D with nx := fun S' => q.run S' D }) h1 ⟨h2, fun _ h => h, fun _ h => h, fun _ h => h, fun _ _ h => h⟩
theorem sigma_ex {α : Type} {β : α → Type} {p : Sigma β → Prop} : (∃ x, p x) ↔ ∃ a b, p ⟨a, b⟩ := ⟨fun ⟨⟨a, b⟩, h⟩ => ⟨a, b, h⟩, fun ⟨a, b, h⟩ => ⟨⟨a, b⟩, h⟩⟩
/-- a contract: refuses, or hands back -/
def Ctr.ex {α : Type} (args : α → List D) (pre : α → Prop) (bad : α → Option Ex) (val : α → O) : Ctr := ⟨fun ds Q E => ∃ a, ds = args a ∧ pre a ∧ (match bad a with | some e => E e | none => Q (val a)), fun hq he ⟨a, e, p, q⟩ => ⟨a, e, p, by
  revert q
  cases bad a with
  | some e => exact fun q => he _ q
  | none => exact fun q => hq _ q⟩⟩
theorem Ctr.ex_ok {α : Type} {args : α → List D} {pre : α → Prop} {bad : α → Option Ex} {val : α → O} {ds : List D} {Q : O → Prop} {E : Ex → Prop} (a : α) (h : ds = args a) (p : pre a) (b : bad a = none) (q : Q (val a)) : (Ctr.ex args pre bad val).run ds Q E :=
  ⟨a, h, p, by rw [b]; exact q⟩
theorem Ctr.ex_bad {α : Type} {args : α → List D} {pre : α → Prop} {bad : α → Option Ex} {val : α → O} {ds : List D} {Q : O → Prop} {E : Ex → Prop} (a : α) {e : Ex} (h : ds = args a) (p : pre a) (b : bad a = some e) (q : E e) : (Ctr.ex args pre bad val).run ds Q E :=
  ⟨a, h, p, by rw [b]; exact q⟩
section
variable {X : Cx} {c : Cc} {W : WX} {pos : Pos}
theorem se_gint {x : Str} {n : Int} (h : ∃ t, X.mg x = some (.int n t)) (hg : Gl X x := by rfl) (hdb : (x == ("__debug__" : Str)) = false := by decide) : SE X c W (.Name x pos) (wC (.int n)) := by
  obtain ⟨t, h⟩ := h
  exact se_C (pe_glob hg h (show RelV (.int n) _ from ⟨t, rfl⟩) hdb) fun _ _ _ => rfl
theorem se_gstr {x : Str} {n : Str} (h : ∃ t, X.mg x = some (.str n t)) (hg : Gl X x := by rfl) (hdb : (x == ("__debug__" : Str)) = false := by decide) : SE X c W (.Name x pos) (wC (.str n)) := by
  obtain ⟨t, h⟩ := h
  exact se_C (pe_glob hg h (show RelV (.str n) _ from ⟨t, rfl⟩) hdb) fun _ _ _ => rfl
end
theorem isF_nil {K : PySem.W.Frag} {G : Gx} {ns : List Xn} : ∀ t ∈ ([] : List Tc), IsF K G ns [] t := fun t h => nomatch h
theorem isF_cons {K : PySem.W.Frag} {G : Gx} {ns : List Xn} {t : Tc} {ts : List Tc} (h : IsF K G ns [] t) (r : ∀ t ∈ ts, IsF K G ns [] t) : ∀ u ∈ t :: ts, IsF K G ns [] u := fun u hu => by
  rcases List.mem_cons.mp hu with rfl | hu
  · exact h
  · exact r u hu
theorem IsF.noK {K : PySem.W.Frag} {G : Gx} {ns : List Xn} {ks : List Nat} {t : Tc} (h : IsF K G ns ks t) : IsF K G ns [] t := ⟨h.b, h.e, fun i hi => nomatch hi⟩
structure AtM (K : PySem.W.Frag) (Cs : List Addr) (m qual : Str) (st : Stmt) : Prop where
  ex : ∃ f fd, (∀ C ∈ Cs, Meth K C m f) ∧ Fun K m qual st f fd
structure AtMD (K : PySem.W.Frag) (Cs : List Addr) (m qual : Str) (st : Stmt) (dvs : List V) : Prop where
  ex : ∃ f fd, (∀ C ∈ Cs, Meth K C m f) ∧ FunD K m qual (defArgs st) (defBody st) (defScope st) dvs [] f fd
structure MDef (P : Program) (w : World) (K : PySem.W.Frag) (mg : Str → Option Value) (base : Heap) (k : Nat) (Cs : List Addr) (m : Str) (G : Gx) (R : Ctr) (dvs : List V) : Prop where
  ex : ∃ f fd ps ds, (∀ C ∈ Cs, Meth K C m f) ∧ FnOk P w K mg base (L2.CX P w) k f fd ps (spOf G R) ∧ Binds K fd ps ds ∧ Vals dvs ds
section
variable {P : Program} {w : World} {K : PySem.W.Frag} {mg : Str → Option Value} {base : Heap} {G : Gx}
theorem md_of {Cs : List Addr} {m qual : Str} {st : Stmt} {N ps : List Str} {k : Nat} {R : Ctr} {p : WS} (T : AtM K Cs m qual st) (S : FnScope N ps (defScope st)) (bd : ∀ f fd, Fun K m qual st f fd → Binds K fd ps []) (len : ∀ ds Q E, R.run ds Q E → ds.length = ps.length)
    (hbody : ∀ (f : Addr) (cdv : Value) (A : Around) (outer : List Env) (s : Shared) (H F0 : Hp) (E : XK), Room k (A.deeper (PyProof.Rows.envOfC qual (defScope st) s.heap.objs.size f cdv)) →
      SSs (cxOf (L2.CX P w) P w K mg base N qual (defScope st) f cdv A outer s H E) ⟨G, F0, H⟩ (fun cls d _ H => E cls d H) (defBody st) p)
    (pure : ∀ ds Q E, R.run ds Q E → p.run (startS N ds) (bodyK Q E)) : MDef P w K mg base (k + 1) Cs m G R [] := by
  obtain ⟨f, fd, hm, F⟩ := T.ex
  exact ⟨f, fd, ps, [], hm, ok_of F S len (hbody f) pure, bd f fd F, .nil⟩
theorem mdD_of {Cs : List Addr} {m qual : Str} {st : Stmt} {N ps : List Str} {k : Nat} {R : Ctr} {p : WS} {dvs : List V} (T : AtMD K Cs m qual st dvs) (S : FnScope N ps (defScope st)) (len : ∀ ds Q E, R.run ds Q E → ds.length = ps.length)
    (b0 : ∀ f fd, FunD K m qual (defArgs st) (defBody st) (defScope st) dvs [] f fd → ∃ ds, Vals (dvs.drop dvs.length) ds ∧ Binds K fd ps ds)
    (b1 : ∀ f fd, FunD K m qual (defArgs st) (defBody st) (defScope st) dvs [] f fd → ∃ ds, Vals (dvs.drop 0) ds ∧ Binds K fd ps ds)
    (hbody : ∀ (f : Addr) (cdv : Value) (A : Around) (outer : List Env) (s : Shared) (H F0 : Hp) (E : XK), Room k (A.deeper (PyProof.Rows.envOfC qual (defScope st) s.heap.objs.size f cdv)) →
      SSs (cxOf (L2.CX P w) P w K mg base N qual (defScope st) f cdv A outer s H E) ⟨G, F0, H⟩ (fun cls d _ H => E cls d H) (defBody st) p)
    (pure : ∀ ds Q E, R.run ds Q E → p.run (startS N ds) (bodyK Q E)) : MDef P w K mg base (k + 1) Cs m G R [] ∧ MDef P w K mg base (k + 1) Cs m G R dvs := by
  obtain ⟨f, fd, hm, F⟩ := T.ex
  have ok := ok_ofD (P := P) (w := w) (mg := mg) (base := base) F S len (hbody f) pure
  obtain ⟨d0, v0, e0⟩ := b0 f fd F
  obtain ⟨d1, v1, e1⟩ := b1 f fd F
  rw [List.drop_length] at v0
  exact ⟨⟨f, fd, ps, d0, hm, ok, e0, v0⟩, ⟨f, fd, ps, d1, hm, ok, e1, v1⟩⟩
theorem MDef.at_ {k j : Nat} {Cs : List Addr} {m : Str} {R R' : Ctr} {dvs : List V} {C : Addr} (M : MDef P w K mg base k Cs m G R dvs) (hC : C ∈ Cs) (cl : Cls K C) (hk : k ≤ j) (h : ∀ ds Q E, R'.run ds Q E → R.run ds Q E) : MAt P w K mg base j C m G R' dvs := by
  obtain ⟨f, fd, ps, ds, hm, F, b, v⟩ := M.ex
  exact ⟨cl, f, fd, ps, ds, hm C hC, (F.mono hk).imp fun vs H Q E ⟨F0, ds, sm, r, z⟩ => ⟨F0, ds, sm, r, h _ _ _ z⟩, b, v⟩
theorem MDef.fr {k j : Nat} {Cs : List Addr} {m : Str} {R : Ctr} {t : Kd → Bool} {dvs : List V} {C : Addr} (M : MDef P w K mg base k Cs m G (R.on t) dvs) (hC : C ∈ Cs) (cl : Cls K C) (hk : k ≤ j) : MAt P w K mg base j C m G (R.on t) dvs := M.at_ hC cl hk fun _ _ _ z => z
theorem MDef.all {k j : Nat} {Cs : List Addr} {m : Str} {R : Ctr} {t : Kd → Bool} {dvs : List V} {C : Addr} (M : MDef P w K mg base k Cs m G R dvs) (hC : C ∈ Cs) (cl : Cls K C) (hk : k ≤ j) : MAt P w K mg base j C m G (R.on t) dvs := M.at_ hC cl hk fun _ _ _ z => z.2
end
theorem MAt.up {P : Program} {w : World} {K : PySem.W.Frag} {mg : Str → Option Value} {base : Heap} {G : Gx} {k j : Nat} {C : Addr} {m : Str} {R : Ctr} {dvs : List V} (M : MAt P w K mg base k C m G R dvs) (hk : k ≤ j) : MAt P w K mg base j C m G R dvs := by
  obtain ⟨cl, f, fd, ps, ds, hm, F, b, v⟩ := M
  exact ⟨cl, f, fd, ps, ds, hm, F.mono hk, b, v⟩
/-! a method of a kind whose class is known -/
def wMeth1 (t : Kd → Bool) (po : W1 O) (q : W1 (List O)) (R : Ctr) (dds : List D) : W1 O := ⟨fun S Q E => po.run S (fun o => ∃ k, o = .im (.kd k) ∧ t k = true ∧ q.run S (fun os => R.run (.kd k :: O.erL os ++ dds) (fun u => (os.all O.nb = true ∨ u.tidy = true) ∧ Q u) E) E) E,
  fun hq he h => po.mono (fun o ⟨k, e, hb, z⟩ => ⟨k, e, hb, q.mono (fun os z => R.mono (fun u ⟨t, z⟩ => ⟨t, hq _ z⟩) he z) he z⟩) he h⟩
/-- the class of such kinds -/
structure ClsT (t : Kd → Bool) (G : Gx) (C : Addr) : Prop where
  at_ : ∀ (kd : Kd) (H : Hp) (v : V), t kd = true → KindAt G H kd v → ∃ a dx fs, v = .ref a ∧ H a = some (.ins C dx fs) ∧ ∀ m : Str, ¬ m = "prime" → ¬ m = "under" → fs.lookup m = none
theorem clsT_fr {G : Gx} : ClsT Kd.isFr G G.CF := ⟨fun kd H v h k => by
  match kd, h, k with
  | .b .fr, _, ⟨a, dx, e, q⟩ => exact ⟨a, dx, _, e, q, fun _ _ _ => rfl⟩⟩
theorem clsT_rs {G : Gx} : ClsT Kd.isRs G G.CR := ⟨fun kd H v h k => by
  match kd, h, k with
  | .b (.rs p), _, ⟨a, dx, e, q⟩ => exact ⟨a, dx, _, e, q, fun m n1 _ => by
      have n1 : (m == ("prime" : Str)) = false := by simpa using n1
      simp [List.lookup, n1]⟩⟩
theorem clsT_po {G : Gx} : ClsT Kd.isPo G G.CP := ⟨fun kd H v h k => by
  match kd, h, k with
  | .po _, _, ⟨a, dx, u, e, q, _⟩ => exact ⟨a, dx, _, e, q, fun m _ n1 => by
      have n1 : (m == ("under" : Str)) = false := by simpa using n1
      simp [List.lookup, n1]⟩⟩
section
variable {X : Cx} {c : Cc} {W : WX} {o e : Expr} {es : List Expr} {q : W1 (List O)} {po : W1 O} {R : Ctr} {k : Nat} {m : Str} {pos apos : Pos}
theorem se_meth1 {t : Kd → Bool} {C : Addr} {dds : List D} {dvs : List V} {pl : Sem Bool} (CT : ClsT t c.G C) (M : MAt X.prog X.w X.K X.mg X.base k C m c.G (R.on t) dvs) (hr : Room k X.A) (nm : ¬ m = ("prime" : Str) ∧ ¬ m = ("under" : Str)) (tk : Takes X W) (hd : ∀ G F H, ReL G F H dds dvs) (ho : SE X c W o po) (ha : SA X c W (e :: es) q)
    (hst : starEach (e :: es) X.env = (false, eval e X.env) :: starEach es X.env := by rfl) (hpl : (backTo pos (starEach es X.env)).any (·.1) = false := by rfl)
    (ht : eval (.Call (.Attribute o m apos) (e :: es) [] pos) X.env = (do
      let ov ← eval o X.env
      standAt apos.atName
      let (g, first) ← holding [ov] (getMethod ov m pl)
      callWith pos g first (backTo pos (starEach (e :: es) X.env)) (backToKw pos (keywordEach [] X.env))) := by rfl) :
    SE X c W (.Call (.Attribute o m apos) (e :: es) [] pos) (wMeth1 t po q R dds) := by
  refine ⟨fun pins s σ H Q I ⟨F, S, Ts, ts, sv, h⟩ => ?_⟩
  refine PySem.W.methodCall_KW (pl := pl) (thn (ho.run pins s σ H (fun v H1 => ∃ F1 kd, Sv c F1 H1 (.im (.kd kd) :: Ts) (v :: ts) S σ ∧ t kd = true ∧ q.run S (fun os => R.run (.kd kd :: O.erL os ++ dds) (fun u => (os.all O.nb = true ∨ u.tidy = true) ∧ ∀ F' H' v, Sv c F' H' (u :: Ts) (v :: ts) S σ → Q v H') (exK c W Ts ts S σ)) (exK c W Ts ts S σ)) I
    ⟨F, S, Ts, ts, sv, W1.le _ h (fun o' ⟨kd, eo, hb, z⟩ F1 H1 v s1 => ⟨F1, kd, eo ▸ s1, hb, z⟩) (fun _ z => z)⟩) fun u s1 ⟨v, H1, I1, rv, F1, kd, sv1, hb, z⟩ => ?_) ht
  obtain ⟨a, dx, fs, ev, hH, hl⟩ := CT.at_ kd H1 v hb (show KindAt c.G H1 kd v from sv1.topIm)
  obtain ⟨cl, g, fd, ps, ds, hm, hF, hB, hV⟩ := M
  subst ev
  obtain rfl : u = Value.ref a := rv
  refine getmeth_ok I1 hH cl hm (hl m nm.1 nm.2) ?_
  refine PySem.W.callWith_K (first := [.ref a]) (h₀ := X.base) I1.ok.mod.kin hm.kp (thn (ha.run pos pins s1 σ H1 (fun vs H2 => spOf c.G (R.on t) (.ref a :: vs ++ dvs) H2 Q (WE W σ)) I1 ?_) fun us s2 ⟨vs, H2, I2, r, q2⟩ => ⟨I2.kIn, ?_⟩) hst hpl
  · refine ⟨F1, S, _, _, sv1, W1.le _ z (fun os zz F2 H2 vs s2 el => ?_) (fun _ z => exK.pop _ z)⟩
    have s3 := s2.rot el
    refine call_core (R := R.on t) (os := .im (.kd kd) :: os) (vs := .ref a :: vs) s3 (by simp [el]) hd ⟨⟨kd, _, rfl, hb⟩, R.mono (fun u ⟨t, z⟩ => ⟨t.imp (fun h => by simp only [List.all_cons, h]; rfl) id, z⟩) (fun _ z => z) zz⟩
  · exact run_fnSD (dvs := dvs) (us := .ref a :: us) (vs := .ref a :: vs) (E := WE W) hF hr hB hV (passAt tk σ) I2 (.cons rfl r) q2
end
/-! own classes, asked for by plain values -/
theorem kit_own {K : PySem.W.Frag} {C : Addr} (h1 : PySem.W.isClsIn K C = true) (h2 : PySem.W.typeIn K (.ref C) = some (.type "type")) : ∀ T ∈ basicT, PySem.W.kitOne K (.type T) (.ref C) = some false := by
  intro T hT
  have e2 : ((PySem.W.clsIn K C).isSome && PySem.W.typeIn K (.ref C) == some (.type "type")) = true := by
    have h1' : (PySem.W.clsIn K C).isSome = true := h1
    rw [h1', h2] <;> rfl
  have e3 : PySem.W.kitOne K (.type T) (.ref C) = PySem.W.subIn K (.type T) (.ref C) := by
    show (if (Value.type T == Value.ref C) = true then some true else if ((PySem.W.clsIn K C).isSome && PySem.W.typeIn K (.ref C) == some (.type "type")) = true then PySem.W.subIn K (.type T) (.ref C) else none) = _
    rw [if_neg (by exact Bool.false_ne_true), if_pos e2]
  rw [e3]
  simp only [basicT, List.mem_cons, List.not_mem_nil, or_false] at hT
  rcases hT with rfl | rfl | rfl | rfl | rfl | rfl | rfl <;> rfl
theorem kit_ve {K : PySem.W.Frag} : ∀ T ∈ basicT, PySem.W.kitOne K (.type T) (.type "ValueError") = some false := by
  intro T hT
  simp only [basicT, List.mem_cons, List.not_mem_nil, or_false] at hT
  rcases hT with rfl | rfl | rfl | rfl | rfl | rfl | rfl <;> exact kit_ty (by decide +kernel)
theorem mem2 {α : Type} {P : α → Prop} {a : α} {l : List α} (h : P a) (r : ∀ n ∈ l, P n) : ∀ n ∈ a :: l, P n := List.forall_mem_cons.mpr ⟨h, r⟩
theorem mem0 {α : Type} {P : α → Prop} : ∀ n ∈ ([] : List α), P n := fun _ h => nomatch h
abbrev KitK (K : PySem.W.Frag) (C : Addr) (u : Value) (b : Bool) : Prop := PySem.W.kitOne K (.ref C) u = some b ∧ Cls K C ∧ PySem.W.findIn K (.ref C) "__class__" = some (some (.builtin "object.__class__")) ∧ PySem.W.specialIn K (.builtin "object.__class__") "__get__" = some (some (.builtin "getset_descriptor.__get__")) ∧ PySem.W.takesIn K (.builtin "object.__class__") = some true ∧ PySem.W.mroIn K C (.type "object") = some true
theorem kf_01 {K : PySem.W.Frag} {G : Gx} {t : Tc} (h0 : KitK K G.CF (t.u G) (Kd.isT (.b .fr) t)) (h1 : KitK K G.CR (t.u G) (Kd.isT (.b (.rs 0)) t)) : ∀ i ∈ ([0, 1] : List Nat), ∀ kd : Kd, (match kd with | .b .fr => 0 | .b (.rs _) => 1 | .po _ => 2) = i → ∃ C, (match kd with | .b .fr => G.CF | .b (.rs _) => G.CR | .po _ => G.CP) = C ∧ PySem.W.kitOne K (.ref C) (t.u G) = some (kd.isT t) ∧
    Cls K C ∧ PySem.W.findIn K (.ref C) "__class__" = some (some (.builtin "object.__class__")) ∧ PySem.W.specialIn K (.builtin "object.__class__") "__get__" = some (some (.builtin "getset_descriptor.__get__")) ∧ PySem.W.takesIn K (.builtin "object.__class__") = some true ∧ PySem.W.mroIn K C (.type "object") = some true := fun i hi kd e => by
  match kd, e with
  | .b .fr, _ => exact ⟨_, rfl, h0⟩
  | .b (.rs p), _ =>
    refine ⟨_, rfl, ?_⟩
    have : Kd.isT (.b (.rs p)) t = Kd.isT (.b (.rs 0)) t := by cases t <;> rfl
    rw [this]
    exact h1
  | .po _, e =>
    subst e
    simp at hi
end PL

/-! P17 -/
set_option Elab.async false
set_option linter.all false
set_option maxRecDepth 100000
set_option maxHeartbeats 4000000
/-! P17: lists changed in place. -/
namespace PL
open PySem PySem.Spec L2 PyProof.Rows
section
variable {c : Cc} {F : Fz} {H : Hp} {Ts : List O} {ts : List V} {S : List (Option O)} {σ : L2.St}
/-- what a list's owner may make of it: xs' holds acc', what it owns comes from there -/
def UpOk (G : Gx) (F H0 : Hp) (acc acc' : List O) (xs xs' : List V) (o : O) (y : V) : Prop := ∀ (H : Hp) (B A0 : List Addr), Keep H0 H → OwL G F H acc xs B → Ow G F H o y A0 → (A0 ++ B).Nodup → ∃ B', OwL G F H acc' xs' B' ∧ B'.Nodup ∧ ∀ a ∈ B', a ∈ A0 ++ B
theorem Sv.upTop {o : O} {y : V} {acc : List O} {D : Addr} (s : Sv c F H (o :: .ls acc :: Ts) (y :: .ref D :: ts) S σ) (nb : o.nb = true) :
    ∃ xs, H D = some (.lst xs) ∧ xs.length = acc.length ∧ ∀ (acc' : List O) (xs' : List V), acc'.length ≤ sizeLine → UpOk c.G F.F H acc acc' xs xs' o y → Sv c F (upd H D (.lst xs')) (.ls acc' :: Ts) (.ref D :: ts) S σ := by
  obtain ⟨A, C, ⟨v', vr, A0, R, ev, eA, ho, r⟩, hC, nd, no, nA, nC⟩ := s.own
  cases ev
  subst eA
  obtain ⟨w, wr, A3, A4, ew, eA2, hls, h4⟩ := r
  cases ew
  subst eA2
  obtain ⟨D', xs, B, eD, eB, nF, hD, zz, ol⟩ := (show Ow c.G F.F H (.ls acc) (.ref D) A3 from hls)
  cases eD
  subst eB
  refine ⟨xs, hD, ol.len.symm, fun acc' xs' zl up => ?_⟩
  have kp : Keep H (upd H D (.lst xs')) := fun b u q nl => by
    have : b ≠ D := fun e => by subst e; rw [hD] at q; cases q; exact nl _ rfl
    rw [upd_ne this]; exact q
  have inA : D ∈ A0 ++ (D :: B ++ A4) := by simp
  have nd0 : (D :: (A0 ++ B ++ A4 ++ C)).Nodup := by
    have : (A0 ++ (D :: B ++ A4) ++ C).Perm (D :: (A0 ++ B ++ A4 ++ C)) := by
      have := (List.perm_middle (a := D) (l₁ := A0) (l₂ := B ++ A4 ++ C))
      simpa using this
    exact this.nodup_iff.mp nd
  obtain ⟨nin, nd1⟩ := List.nodup_cons.mp nd0
  have ne : ∀ a, a ∈ A0 ++ B ++ A4 ++ C → upd H D (.lst xs') a = H a := fun a ha => upd_ne fun e => nin (e ▸ ha)
  have m0 : ∀ a ∈ A0, upd H D (.lst xs') a = H a := fun a ha => ne a (by simp [ha])
  have mB : ∀ a ∈ B, upd H D (.lst xs') a = H a := fun a ha => ne a (by simp [ha])
  have m4 : ∀ a ∈ A4, upd H D (.lst xs') a = H a := fun a ha => ne a (by simp [ha])
  have mC : ∀ a ∈ C, upd H D (.lst xs') a = H a := fun a ha => ne a (by simp [ha])
  have BD : F.B D = none := nA D inA
  rw [List.append_assoc, List.append_assoc] at nd1
  have ndAB : (A0 ++ B).Nodup := by
    rw [← List.append_assoc] at nd1
    exact (List.nodup_append.mp nd1).1
  obtain ⟨B', hB', ndB', sub⟩ := up (upd H D (.lst xs')) B A0 kp (OwL.mono (Same.refl _) kp acc xs B (fun a ha => ⟨(OwL.own ol a ha).1, mB a ha⟩) ol) (Ow.mono (Same.refl _) kp o y A0 (fun a ha => ⟨(ho.own a ha).1, m0 a ha⟩) (ho.ow nb)) ndAB
  rw [← List.append_assoc] at nd1
  have dis : ∀ a ∈ B', ∀ b ∈ A4 ++ C, a ≠ b := fun a ha b hb => (List.nodup_append.mp nd1).2.2 a (sub a ha) b hb
  have nD : D ∉ B' := fun h => nin (by have := sub D h; simp at this ⊢; rcases this with h | h <;> simp [h])
  have old : ∀ a, a ∈ (D :: B') ++ A4 → a ∈ A0 ++ (D :: B ++ A4) := fun a ha => by
    rcases List.mem_append.mp ha with ha | ha
    · rcases List.mem_cons.mp ha with rfl | ha
      · exact inA
      · have := sub a ha
        simp at this ⊢
        rcases this with h | h <;> simp [h]
    · simp [ha]
  refine ⟨s.ext, s.fb, fun a u q => ?_, fun a u q => ?_, s.dom, (D :: B') ++ A4, C, ?_, hC.monoAt kp mC, ?_, fun a ha => ?_, fun a ha => nA a (old a ha), fun a ha => (nC a ha).trans (mC a ha).symm⟩
  · have : a ≠ D := fun e => by subst e; rw [BD] at q; cases q
    rw [upd_ne this]; exact s.bh a u q
  · have : a ≠ D := fun e => by
      subst e
      have := no a (List.mem_append_left _ inA)
      rw [this] at q; cases q
    rw [upd_ne this]; exact s.old a u q
  · exact ⟨.ref D, ts, D :: B', A4, rfl, rfl, ⟨D, xs', B', rfl, rfl, nF, upd_same, zl, hB'⟩, h4.monoK (Same.refl _) (Same.refl _) kp fun a ha => ⟨(h4.own a ha).1, m4 a ha⟩⟩
  · rw [List.append_assoc, List.cons_append]
    refine List.nodup_cons.mpr ⟨fun h => ?_, List.nodup_append.mpr ⟨ndB', (List.nodup_append.mp nd1).2.1, dis⟩⟩
    rcases List.mem_append.mp h with h | h
    · exact nD h
    · exact nin (by simp at h ⊢; rcases h with h | h <;> simp [h])
  · rcases List.mem_append.mp ha with ha | ha
    · exact no a (List.mem_append_left _ (old a ha))
    · exact no a (List.mem_append_right _ ha)
theorem Sv.upSlot {o : O} {y : V} {acc : List O} {i : Nat} (s : Sv c F H (o :: Ts) (y :: ts) S σ) (nbT : ∀ o' ∈ o :: Ts, o'.nb = true) (e : S[i]? = some (some (.ls acc))) :
    ∃ D xs, σ[i]? = some (some (.ref D)) ∧ H D = some (.lst xs) ∧ xs.length = acc.length ∧ ∀ (acc' : List O) (xs' : List V), acc'.length ≤ sizeLine → UpOk c.G F.F H acc acc' xs xs' o y → ∃ F' : Fz, Sv c F' (upd H D (.lst xs')) Ts ts (S.set i (some (.ls acc'))) σ := by
  obtain ⟨w, F1, eF, ew, _, s1⟩ := s.move nbT e
  have s2 := s1.swap
  obtain ⟨D, ed⟩ : ∃ D, w = .ref D := by
    obtain ⟨A, h⟩ := s1.top
    obtain ⟨D, _, _, ed, _⟩ := (show Ow c.G F1.F H (.ls acc) w A from h)
    exact ⟨D, ed⟩
  subst ed
  obtain ⟨xs, hD, hl, up⟩ := s2.upTop (nbT o List.mem_cons_self)
  refine ⟨D, xs, ew, hD, hl, fun acc' xs' zl u => ?_⟩
  obtain ⟨F3, _, _, s3⟩ := (up acc' xs' zl (by rw [eF]; exact u)).put (i := i) rfl (by
    rw [List.length_set]
    exact (List.getElem?_eq_some_iff.mp e).1)
  rw [set_same ew, List.set_set] at s3
  exact ⟨F3, s3⟩
/-! what the changes do -/
theorem UpOk.append {G : Gx} {F H0 : Hp} {acc : List O} {xs : List V} {o : O} {y : V} : UpOk G F H0 acc (acc ++ [o]) xs (xs ++ [y]) o y := fun H B A0 _ h ho nd =>
  ⟨B ++ A0, OwL.snoc ho h, (List.perm_append_comm.nodup_iff).mp nd, fun a ha => by simp at ha ⊢; exact ha.symm⟩
theorem OwL.setAt {G : Gx} {F H : Hp} {o : O} {y : V} {A0 : List Addr} (ho : Ow G F H o y A0) : ∀ {acc : List O} {xs : List V} {B : List Addr} {j : Nat}, OwL G F H acc xs B → j < acc.length → (A0 ++ B).Nodup → ∃ B', OwL G F H (acc.set j o) (xs.set j y) B' ∧ B'.Nodup ∧ ∀ a ∈ B', a ∈ A0 ++ B
  | a :: acc, _, _, 0, ⟨v, vr, B1, B2, e, eB, h, r⟩, _, nd => by
    subst e eB
    have nd' : (A0 ++ B2).Nodup := nd.sublist ((List.sublist_append_right B1 B2).append_left A0)
    exact ⟨A0 ++ B2, ⟨y, vr, A0, B2, rfl, rfl, ho, r⟩, nd', fun b hb => by simp at hb ⊢; rcases hb with h | h <;> simp [h]⟩
  | a :: acc, _, _, j + 1, ⟨v, vr, B1, B2, e, eB, h, r⟩, hj, nd => by
    subst e eB
    have nd2 : (A0 ++ B2).Nodup := nd.sublist ((List.sublist_append_right B1 B2).append_left A0)
    obtain ⟨B', h1, h2, h3⟩ := OwL.setAt ho r (j := j) (by simpa using hj) nd2
    refine ⟨B1 ++ B', ⟨v, vr.set j y, B1, B', rfl, rfl, h, h1⟩, List.nodup_append.mpr ⟨nd.sublist ((List.sublist_append_left B1 B2).trans (List.sublist_append_right A0 _)), h2, fun x hx z hz e => ?_⟩, fun b hb => ?_⟩
    · subst e
      rcases List.mem_append.mp (h3 x hz) with hz | hz
      · exact (List.nodup_append.mp nd).2.2 x hz x (List.mem_append_left _ hx) rfl
      · exact (List.nodup_append.mp (List.nodup_append.mp nd).2.1).2.2 x hx x hz rfl
    · rcases List.mem_append.mp hb with hb | hb
      · simp [hb]
      · have := h3 b hb
        simp at this ⊢
        rcases this with h | h <;> simp [h]
theorem UpOk.set {G : Gx} {F H0 : Hp} {acc : List O} {xs : List V} {o : O} {y : V} {j : Nat} (hj : j < acc.length) : UpOk G F H0 acc (acc.set j o) xs (xs.set j y) o y := fun H B A0 _ h ho nd => OwL.setAt ho h hj nd
theorem UpOk.pop {G : Gx} {F H0 : Hp} {acc : List O} {xs : List V} {o : O} {y : V} (hl : xs.length = acc.length) : UpOk G F H0 acc acc.dropLast xs xs.dropLast o y := fun H B A0 _ h ho nd => by
  have hd : acc.dropLast = acc.take (acc.length - 1) := List.dropLast_eq_take ..
  have hx : xs.dropLast = xs.take (acc.length - 1) := by rw [List.dropLast_eq_take, hl]
  rw [hd, hx]
  have := takeN h (acc.length - 1) (List.nodup_append.mp nd).2.1
  obtain ⟨B', h1, h2, h3⟩ := this
  exact ⟨B', h1, h2, fun a ha => List.mem_append_right _ (h3 a ha)⟩
where
  takeN {G : Gx} {F H : Hp} : ∀ {acc : List O} {xs : List V} {B : List Addr}, OwL G F H acc xs B → ∀ n : Nat, B.Nodup → ∃ B', OwL G F H (acc.take n) (xs.take n) B' ∧ B'.Nodup ∧ ∀ a ∈ B', a ∈ B
    | [], _, _, ⟨e1, e2⟩, n, nd => by subst e1 e2; simp only [List.take_nil]; exact ⟨[], ⟨rfl, rfl⟩, nd, fun a h => h⟩
    | a :: acc, _, _, h, 0, nd => by simp only [List.take_zero]; exact ⟨[], ⟨rfl, rfl⟩, List.nodup_nil, fun a h => nomatch h⟩
    | a :: acc, _, _, ⟨v, vr, B1, B2, e, eB, h, r⟩, n + 1, nd => by
      subst e eB
      obtain ⟨B', h1, h2, h3⟩ := takeN r n (List.nodup_append.mp nd).2.1
      simp only [List.take_succ_cons]
      refine ⟨B1 ++ B', ⟨v, vr.take n, B1, B', rfl, rfl, h, h1⟩, List.nodup_append.mpr ⟨(List.nodup_append.mp nd).1, h2, fun x hx z hz e => (List.nodup_append.mp nd).2.2 x hx z (h3 z hz) e⟩, fun b hb => ?_⟩
      rcases List.mem_append.mp hb with hb | hb
      · exact List.mem_append_left _ hb
      · exact List.mem_append_right _ (h3 b hb)
end
/-! ### statements -/
section
variable {X : Cx} {c : Cc} {W : WX} {e k : Expr} {pe pk : W1 O} {pos : Pos} {i : Nat} {x : Str}
/-- the list that a slot owns -/
theorem Sv.look {c : Cc} {F : Fz} {H : Hp} {Ts : List O} {ts : List V} {S : List (Option O)} {σ : L2.St} {i : Nat} {acc : List O} (s : Sv c F H Ts ts S σ) (nb : ∀ o ∈ Ts, o.nb = true) (e : S[i]? = some (some (.ls acc))) : ∃ p xs, σ[i]? = some (some (.ref p)) ∧ H p = some (.lst xs) ∧ xs.length = acc.length := by
  obtain ⟨D, xs, e1, e2, e3, _⟩ := (s.pushIm (d := .non) (v := .non) rfl).upSlot (fun o' ho => by
    rcases List.mem_cons.mp ho with rfl | ho
    · rfl
    · exact nb _ ho) e
  exact ⟨D, xs, e1, e2, e3⟩
theorem nb_cons {o : O} {Ts : List O} (n : o.nb = true) (nb : ∀ o ∈ Ts, o.nb = true) : ∀ o' ∈ o :: Ts, o'.nb = true := fun o' ho => by
  rcases List.mem_cons.mp ho with rfl | ho
  · exact n
  · exact nb _ ho
def sAppend (i : Nat) (p : W1 O) : WS := ⟨fun S D => ∃ acc, S[i]? = some (some (.ls acc)) ∧ p.run S (fun o => o.nb = true ∧ acc.length < sizeLine ∧ D.nx (S.set i (some (.ls (acc ++ [o]))))) (D.ex S),
  fun l ⟨a, e, h⟩ => ⟨a, e, p.mono (fun o ⟨n, z, q⟩ => ⟨n, z, l.nx _ q⟩) (fun e z => l.ex _ e z) h⟩⟩
theorem ss_append (i : Nat) {p2 apos cpos : Pos} (he : SE X c W e pe) (hN : X.N[i]? = some x := by rfl) (hv : Vis X.env.scope x := by first | exact Or.inl rfl | exact Or.inr (Or.inl rfl) | exact Or.inr (Or.inr rfl))
    (hd : (x == ("__debug__" : Str)) = false := by decide) (hcd : (x == ("__classdict__" : Str)) = false := by decide)
    (hbase : attributeBase (.Name x p2) "append" X.env (eval (.Name x p2) X.env) = eval (.Name x p2) X.env := by rfl)
    (hfew : ((backTo cpos (starEach [e] X.env)).all (fun x => !x.1) && (backToKw cpos (keywordEach [] X.env)).all (fun x => x.1.isSome)
      && decide (([e] : List Expr).length + ([] : List Keyword).length + (if ([] : List Keyword).isEmpty then 0 else 1) < 30)) = true := by rfl)
    (hline : (apos.endLine == cpos.line) = true := by rfl) (hs : starEach [e] X.env = (false, eval e X.env) :: starEach [] X.env := by rfl) (hplain : (backTo cpos (starEach ([] : List Expr) X.env)).any (·.1) = false := by rfl)
    (hsw : swapsWith (.Call (.Attribute (.Name x p2) "append" apos) [e] [] cpos) none pos.line X.env = pure false := by rfl) :
    SS X c W (.Expr (.Call (.Attribute (.Name x p2) "append" apos) [e] [] cpos) pos) (sAppend i pe) :=
  PS.imp (ps_expr (pe_bm PySem.F.plainAttrs_list PySem.F.slot_list_append PySem.F.type_list_append mt_append (pe_var hN hv hd hcd) (pa_cons he pa_nil hs) hbase hfew hline hs hplain) hsw) fun D σ H ⟨F, S, Ts, ts, nb, s, acc, ea, h⟩ => by
    obtain ⟨p, xs, e1, e2, _⟩ := s.look nb ea
    refine ⟨_, e1, .inl ⟨rfl, _, SqL.of e2⟩, ?_⟩
    refine ⟨F, S, Ts, ts, s, pe.mono (fun o ⟨n, z, q⟩ F1 H1 v s1 => ?_) (fun e z => exK.st z) h⟩
    obtain ⟨D', xs', e3, e4, e5, up⟩ := s1.upSlot (nb_cons n nb) ea
    rw [e1] at e3
    cases e3
    obtain ⟨F', s2⟩ := up (acc ++ [o]) (xs' ++ [v]) (by rw [List.length_append]; exact z) UpOk.append
    exact ⟨p, xs', v, rfl, rfl, e4, by rw [e5]; exact z, q F' _ σ s2⟩
/-- x[k] = e -/
def sStore (i : Nat) (p q : W1 O) : WS := ⟨fun S D => ∃ acc, S[i]? = some (some (.ls acc)) ∧ p.run S (fun o => o.nb = true ∧ q.run S (fun k => ∃ n j, k = O.i n ∧ ixN acc.length n = some j ∧ D.nx (S.set i (some (.ls (acc.set j o))))) (D.ex S)) (D.ex S),
  fun l ⟨a, e, h⟩ => ⟨a, e, p.mono (fun o ⟨n, z⟩ => ⟨n, q.mono (fun k ⟨m, j, e1, e3, y⟩ => ⟨m, j, e1, e3, l.nx _ y⟩) (fun e z => l.ex _ e z) z⟩) (fun e z => l.ex _ e z) h⟩⟩
theorem ixN_lt {n : Nat} {i : Int} {j : Nat} (h : ixN n i = some j) : j < n := by
  unfold ixN at h
  split at h
  · split at h
    · cases h; omega
    · cases h
  · split at h
    · cases h; omega
    · cases h
theorem ss_store (i : Nat) {p2 p3 : Pos} (he : SE X c W e pe) (hk : SE X c W k pk) (hN : X.N[i]? = some x := by rfl) (hv : Vis X.env.scope x := by first | exact Or.inl rfl | exact Or.inr (Or.inl rfl) | exact Or.inr (Or.inr rfl))
    (hd : (x == ("__debug__" : Str)) = false := by decide) (hcd : (x == ("__classdict__" : Str)) = false := by decide)
    (ha : ∀ v, assign (.Subscript (.Name x p2) k p3) X.env v = (do
      let ov ← holding [v] (eval (.Name x p2) X.env)
      let iv ← holding [v, ov] (eval k X.env)
      standAt p3
      holding [v, ov, iv] (setItem ov iv v)
      release [v, ov, iv] []) := by intro _; rfl)
    (hs : swapsWithSole [.Subscript (.Name x p2) k p3] e pos.line X.env = pure false := by rfl) (hw : swappedStores [.Subscript (.Name x p2) k p3] e X.env = pure none := by rfl)
    (h1 : (assignEach [.Subscript (.Name x p2) k p3] X.env).map (·.2) = [assign (.Subscript (.Name x p2) k p3) X.env] := by rfl) :
    SS X c W (.Assign [.Subscript (.Name x p2) k p3] e pos) (sStore i pe pk) :=
  PS.imp (ps_asg he (pg_sub (pe_var hN hv hd hcd) hk set_list ha) hs hw h1) fun D σ H ⟨F, S, Ts, ts, nb, s, acc, ea, h⟩ => by
    obtain ⟨p, xs0, e1, _, _⟩ := s.look nb ea
    refine ⟨F, S, Ts, ts, s, pe.mono (fun o ⟨n, z⟩ F1 H1 v s1 => ?_) (fun e z => exK.st z) h⟩
    refine ⟨_, e1, F1, S, _, _, s1, pk.mono (fun kk ⟨m, j, ek, ej, y⟩ F2 H2 w s2 => ?_) (fun e z => exK.pop _ (exK.st z)) z⟩
    subst ek
    have hw := s2.int
    subst hw
    obtain ⟨D', xs, e3, e4, e5, up⟩ := s2.pop.upSlot (nb_cons n nb) ea
    rw [e1] at e3
    cases e3
    obtain ⟨zl⟩ : ∃ _ : Unit, acc.length ≤ sizeLine := ⟨(), by
      obtain ⟨A, C, _, hC, _⟩ := s2.own
      obtain ⟨v', B, _, ho, _⟩ := hC.get ea
      obtain ⟨_, _, _, _, _, _, _, z, _⟩ := (show Ow c.G F2.F H2 (.ls acc) v' B from ho)
      exact z⟩
    obtain ⟨F', s3⟩ := up (acc.set j o) (xs.set j v) (by rw [List.length_set]; assumption) (UpOk.set (ixN_lt ej))
    exact ⟨p, xs, m, j, rfl, rfl, e4, by rw [e5]; exact ej, y F' _ σ s3⟩
/-- x.extend(e) -/
def sExtend (i : Nat) (p : W1 O) : WS := ⟨fun S D => ∃ acc, S[i]? = some (some (.ls acc)) ∧ p.run S (fun o => ∃ os, o.its = some os ∧ o.isTrk = true ∧ os.all O.nb = true ∧ acc.length + os.length ≤ sizeLine ∧ D.nx (S.set i (some (.ls (acc ++ os))))) (D.ex S),
  fun l ⟨a, e, h⟩ => ⟨a, e, p.mono (fun o ⟨os, e, n, m, z, q⟩ => ⟨os, e, n, m, z, l.nx _ q⟩) (fun e z => l.ex _ e z) h⟩⟩
theorem itv_own {G : Gx} {F : Fz} {H H' : Hp} (k : Keep H H') : ∀ {os : List O} {vs : List V}, ItV G F H os vs → os.all O.nb = true → OwL G F.F H' os vs []
  | [], vs, ⟨e, _⟩, _ => by
    have : vs = [] := List.length_eq_zero_iff.mp e.symm
    exact ⟨this, rfl⟩
  | o :: os, vs, ⟨e, h⟩, nb => by
    obtain ⟨v, hv, hw⟩ := h 0 o rfl
    match vs, e, hv, h with
    | v' :: vs, e, hv, h =>
      cases hv
      rw [List.all_cons, Bool.and_eq_true] at nb
      refine ⟨v, vs, [], [], rfl, rfl, Ow.mono (Same.refl _) k o v [] (fun a ha => nomatch ha) (hw.ow nb.1), itv_own k ⟨by simpa using e, fun j o' ho => ?_⟩ nb.2⟩
      exact h (j + 1) o' ho
theorem OwL.app {G : Gx} {F H : Hp} {os : List O} {vs : List V} (h2 : OwL G F H os vs []) : ∀ {acc : List O} {xs : List V} {B : List Addr}, OwL G F H acc xs B → OwL G F H (acc ++ os) (xs ++ vs) B
  | [], _, _, ⟨e1, e2⟩ => by subst e1 e2; exact h2
  | a :: acc, _, _, ⟨v, vr, B, C, e, eA, h, r⟩ => by subst e eA; exact ⟨v, vr ++ vs, B, C, rfl, rfl, h, OwL.app h2 r⟩
theorem ss_extend (i : Nat) {p2 apos cpos : Pos} (he : SE X c W e pe) (hN : X.N[i]? = some x := by rfl) (hv : Vis X.env.scope x := by first | exact Or.inl rfl | exact Or.inr (Or.inl rfl) | exact Or.inr (Or.inr rfl))
    (hd : (x == ("__debug__" : Str)) = false := by decide) (hcd : (x == ("__classdict__" : Str)) = false := by decide)
    (hbase : attributeBase (.Name x p2) "extend" X.env (eval (.Name x p2) X.env) = eval (.Name x p2) X.env := by rfl)
    (hfew : ((backTo cpos (starEach [e] X.env)).all (fun x => !x.1) && (backToKw cpos (keywordEach [] X.env)).all (fun x => x.1.isSome)
      && decide (([e] : List Expr).length + ([] : List Keyword).length + (if ([] : List Keyword).isEmpty then 0 else 1) < 30)) = true := by rfl)
    (hline : (apos.endLine == cpos.line) = true := by rfl) (hs : starEach [e] X.env = (false, eval e X.env) :: starEach [] X.env := by rfl) (hplain : (backTo cpos (starEach ([] : List Expr) X.env)).any (·.1) = false := by rfl)
    (hsw : swapsWith (.Call (.Attribute (.Name x p2) "extend" apos) [e] [] cpos) none pos.line X.env = pure false := by rfl) :
    SS X c W (.Expr (.Call (.Attribute (.Name x p2) "extend" apos) [e] [] cpos) pos) (sExtend i pe) :=
  PS.imp (ps_expr (pe_bm PySem.F.plainAttrs_list PySem.F.slot_list_extend PySem.F.type_list_extend mt_extend (pe_var hN hv hd hcd) (pa_cons he pa_nil hs) hbase hfew hline hs hplain) hsw) fun D σ H ⟨F, S, Ts, ts, nb, s, acc, ea, h⟩ => by
    obtain ⟨p, xs, e1, e2, _⟩ := s.look nb ea
    refine ⟨_, e1, .inl ⟨rfl, _, SqL.of e2⟩, ?_⟩
    refine ⟨F, S, Ts, ts, s, pe.mono (fun o ⟨os, eo, tr, n, z, q⟩ F1 H1 v s1 => ?_) (fun e z => exK.st z) h⟩
    obtain ⟨F2, b, vs, g⟩ := s1.items eo
    rcases g with ⟨_, _, s2, ev, _, hb, hi, _⟩ | ⟨_, t, _⟩
    · subst ev
      have hb := hb tr
      obtain ⟨D', xs', e3, e4, e5, up⟩ := (s2.pop.pushIm (d := .non) (v := .non) rfl).upSlot (nb_cons rfl nb) ea
      rw [e1] at e3
      cases e3
      obtain ⟨F', s3⟩ := up (acc ++ os) (xs' ++ vs) (by rw [List.length_append]; exact z) (fun H' B A0 k h ho nd => ⟨B, OwL.app (itv_own k hi n) h, (List.nodup_append.mp nd).2.1, fun a ha => List.mem_append_right _ ha⟩)
      refine ⟨p, b, xs', vs, rfl, rfl, e4, hb, ?_, q F' _ σ s3⟩
      rw [e5, ← hi.1]
      exact z
    · rw [tr] at t; cases t
end
end PL

/-! M2 -/
set_option Elab.async false
set_option linter.all false
set_option maxRecDepth 100000
set_option maxHeartbeats 4000000
/-! M2: the numbers of a kind as a field. -/
namespace PL
open PySem PySem.Spec L2
open Lean.Grind (Field CommRing)
/-- a prime below a million -/
structure Pr where
  p : Int
  pr : IsP p
  lt : p < 1000000
theorem Pr.two (P : Pr) : 2 ≤ P.p := P.pr.1
theorem Pr.n_eq (P : Pr) : ((P.p.toNat - 1 + 1 : Nat) : Int) = P.p := by have := P.two; omega
abbrev Zp (P : Pr) : Type := Fin (P.p.toNat - 1 + 1)
/-- no factor between -/
theorem IsP.dvd {p d : Int} (h : IsP p) (h0 : 0 < d) (hd : d ∣ p) : d = 1 ∨ d = p := by
  obtain ⟨k, hk⟩ := hd
  have p2 := h.1
  have k0 : 0 < k := by
    rcases Int.lt_or_le 0 k with z | z
    · exact z
    · have := Int.mul_nonpos_of_nonneg_of_nonpos (Int.le_of_lt h0) z; omega
  rcases Int.lt_or_le d 2 with z | z
  · left; omega
  rcases Int.lt_or_le k 2 with y | y
  · right
    have : k = 1 := by omega
    rw [hk, this, Int.mul_one]
  exfalso
  rcases Int.lt_or_le d k with x | x
  · exact h.2 d z (by rw [hk]; exact Int.mul_le_mul_of_nonneg_left (Int.le_of_lt x) (by omega)) ⟨k, hk⟩
  · exact h.2 k y (by rw [hk]; exact Int.mul_le_mul_of_nonneg_right x (by omega)) ⟨d, by rw [hk, Int.mul_comm]⟩
theorem Pr.gcd (P : Pr) {x : Int} (h : x % P.p ≠ 0) : Int.gcd x P.p = 1 := by
  have hd : (Int.gcd x P.p : Int) ∣ P.p := Int.gcd_dvd_right ..
  have p2 := P.two
  have g0 : 0 < (Int.gcd x P.p : Int) := by
    have : Int.gcd x P.p ≠ 0 := fun z => by
      have := Int.gcd_eq_zero_iff.mp z
      omega
    omega
  rcases P.pr.dvd g0 hd with e | e
  · exact_mod_cast e
  · exfalso
    have : P.p ∣ x := by rw [← e]; exact Int.gcd_dvd_left ..
    exact h (Int.emod_eq_zero_of_dvd this)
/-- shares of two whole numbers -/
theorem bez (a b : Nat) : ∃ u v : Int, (Nat.gcd a b : Int) = a * u + b * v := by
  induction a, b using Nat.gcd.induction with
  | H0 n => exact ⟨0, 1, by simp⟩
  | H1 m n hm ih =>
    obtain ⟨u, v, e⟩ := ih
    refine ⟨v - (n / m : Nat) * u, u, ?_⟩
    rw [Nat.gcd_rec, e]
    have hd : (n : Int) = m * (n / m : Nat) + (n % m : Nat) := by exact_mod_cast (Nat.div_add_mod n m).symm
    generalize (n / m : Nat) = q at *
    generalize (n % m : Nat) = r at *
    rw [hd]
    grind
theorem Zp.val_lt {P : Pr} (x : Zp P) : (x.val : Int) < P.p := by have := x.isLt; have := P.n_eq; omega
theorem Zp.inv_ex {P : Pr} (x : Zp P) (h : x ≠ 0) : ∃ y : Zp P, x * y = 1 := by
  have hx : x.val ≠ 0 := fun z => h (Fin.ext z)
  have lt := Zp.val_lt x
  have g : Int.gcd (x.val : Int) P.p = 1 := P.gcd (by rw [Int.emod_eq_of_lt (by omega) lt]; omega)
  have hn : P.p.natAbs = P.p.toNat - 1 + 1 := by have := P.two; omega
  have g2 : Nat.gcd x.val (P.p.toNat - 1 + 1) = 1 := (congrArg (Nat.gcd x.val) hn).symm.trans (show Nat.gcd x.val P.p.natAbs = 1 from g)
  obtain ⟨u, v, e⟩ := bez x.val (P.p.toNat - 1 + 1)
  rw [g2] at e
  refine ⟨⟨(u % ((P.p.toNat - 1 + 1 : Nat) : Int)).toNat, ?_⟩, Fin.ext ?_⟩
  · have h1 := Int.emod_nonneg u (show ((P.p.toNat - 1 + 1 : Nat) : Int) ≠ 0 by omega)
    have h2 := Int.emod_lt_of_pos u (show 0 < ((P.p.toNat - 1 + 1 : Nat) : Int) by omega)
    omega
  · rw [Fin.val_mul]
    have h1 := Int.emod_nonneg u (show ((P.p.toNat - 1 + 1 : Nat) : Int) ≠ 0 by omega)
    have e1 : (((x.val * (u % ((P.p.toNat - 1 + 1 : Nat) : Int)).toNat) % (P.p.toNat - 1 + 1) : Nat) : Int) = 1 % ((P.p.toNat - 1 + 1 : Nat) : Int) := by
      rw [Int.natCast_emod, Int.natCast_mul, Int.toNat_of_nonneg h1, Int.mul_emod, Int.emod_emod, ← Int.mul_emod]
      have : (x.val : Int) * u = 1 - ((P.p.toNat - 1 + 1 : Nat) : Int) * v := by
        have : ((1 : Nat) : Int) = 1 := rfl
        omega
      rw [this, Int.sub_mul_emod_self_left]
    have e2 : ((1 : Zp P).val : Int) = 1 % ((P.p.toNat - 1 + 1 : Nat) : Int) := by
      show (((1 % (P.p.toNat - 1 + 1) : Nat)) : Int) = _
      rw [Int.natCast_emod]
      rfl
    exact_mod_cast e1.trans e2.symm
open Classical in
noncomputable instance {P : Pr} : Inv (Zp P) := ⟨fun x => if h : x = 0 then 0 else (Zp.inv_ex x h).choose⟩
noncomputable instance {P : Pr} : Div (Zp P) := ⟨fun x y => x * y⁻¹⟩
noncomputable instance {P : Pr} : HPow (Zp P) Int (Zp P) := ⟨fun x n => match n with
  | .ofNat k => x ^ k
  | .negSucc k => (x ^ (k + 1))⁻¹⟩
theorem Zp.inv0 {P : Pr} : (0 : Zp P)⁻¹ = 0 := by
  show (if h : (0 : Zp P) = 0 then 0 else _) = 0
  rw [dif_pos rfl]
theorem Zp.mul_inv {P : Pr} {x : Zp P} (h : x ≠ 0) : x * x⁻¹ = 1 := by
  show x * (if h : x = 0 then 0 else (Zp.inv_ex x h).choose) = 1
  rw [dif_neg h]
  exact (Zp.inv_ex x h).choose_spec
theorem Zp.zo {P : Pr} : (0 : Zp P) ≠ 1 := fun z => by
  have h : (0 : Zp P).val = (1 : Zp P).val := by rw [z]
  have h1 : (1 : Zp P).val = 1 % (P.p.toNat - 1 + 1) := rfl
  have := P.two
  rw [h1, Nat.mod_eq_of_lt (by omega)] at h
  have h0 : (0 : Zp P).val = 0 := rfl
  omega
theorem Zp.inv_uniq {P : Pr} {x y : Zp P} (h : x * y = 1) : x⁻¹ = y := by
  have hx : x ≠ 0 := fun z => by
    rw [z, Lean.Grind.Semiring.zero_mul] at h
    exact Zp.zo h
  have := Zp.mul_inv hx
  grind
noncomputable instance {P : Pr} : Field (Zp P) where
  div_eq_mul_inv := fun _ _ => rfl
  zero_ne_one := Zp.zo
  inv_zero := Zp.inv0
  mul_inv_cancel := fun h => Zp.mul_inv h
  zpow_zero := fun a => Lean.Grind.Semiring.pow_zero a
  zpow_succ := fun a n => Lean.Grind.Semiring.pow_succ a n
  zpow_neg := fun a n => by
    have one_inv : (1 : Zp P)⁻¹ = 1 := Zp.inv_uniq (Lean.Grind.Semiring.mul_one 1)
    cases n with
    | ofNat k =>
      cases k with
      | zero =>
        have e := Lean.Grind.Semiring.pow_zero a
        exact (e.trans one_inv.symm).trans (congrArg Inv.inv e.symm)
      | succ k => rfl
    | negSucc k =>
      show a ^ (k + 1) = ((a ^ (k + 1))⁻¹)⁻¹
      by_cases h : a ^ (k + 1) = 0
      · rw [h, Zp.inv0, Zp.inv0]
      · exact (Zp.inv_uniq (by rw [Lean.Grind.CommSemiring.mul_comm]; exact Zp.mul_inv h)).symm
/-- a kind of numbers -/
inductive FK where
  | fr
  | rs (P : Pr)
@[reducible] def FK.T : FK → Type
  | .fr => Rat
  | .rs P => Zp P
noncomputable instance FK.fld : (N : FK) → Field N.T
  | .fr => inferInstanceAs (Field Rat)
  | .rs P => inferInstanceAs (Field (Zp P))
instance FK.dec : (N : FK) → DecidableEq N.T
  | .fr => inferInstanceAs (DecidableEq Rat)
  | .rs P => inferInstanceAs (DecidableEq (Zp P))
def FK.k : FK → BK
  | .fr => .fr
  | .rs P => .rs P.p
theorem k_fr : FK.k .fr = .fr := rfl
theorem k_rs {P : Pr} : FK.k (.rs P) = .rs P.p := rfl
/-- a number's one form -/
def FK.enc : (N : FK) → N.T → D
  | .fr, q => .tup [.int q.num, .int q.den]
  | .rs _, x => .int x.val
/-- its size -/
def FK.sz : (N : FK) → Nat → N.T → Prop
  | .fr, n, q => Sz n q.num ∧ Sz n q.den
  | .rs _, _, _ => True
/-- a whole number in the kind -/
def FK.ofInt : (N : FK) → Int → N.T
  | .fr, z => (z : Rat)
  | .rs P, z => ⟨(z % P.p).toNat, by
      have := P.two
      have h1 := Int.emod_nonneg z (show P.p ≠ 0 by omega)
      have h2 := Int.emod_lt_of_pos z (show 0 < P.p by omega)
      have := P.n_eq
      omega⟩
end PL

/-! M3 -/
set_option Elab.async false
set_option linter.all false
set_option maxRecDepth 100000
set_option maxHeartbeats 4000000
/-! M3: numbers in their one form. -/
namespace PL
open PySem PySem.Spec L2
theorem Zp.val_ofInt {P : Pr} (z : Int) : (((FK.ofInt (.rs P) z : Zp P).val : Nat) : Int) = z.fmod P.p := by
  show ((z % P.p).toNat : Int) = _
  have := P.two
  have h1 := Int.emod_nonneg z (show P.p ≠ 0 by omega)
  rw [Int.toNat_of_nonneg h1, fmod_pos (by omega)]
theorem Zp.ext_int {P : Pr} {x y : Zp P} (h : (x.val : Int) = y.val) : x = y := Fin.ext (by exact_mod_cast h)
theorem Zp.emod_val {P : Pr} (x : Zp P) : (x.val : Int) % P.p = x.val := Int.emod_eq_of_lt (by omega) (Zp.val_lt x)
theorem Zp.val_mul {P : Pr} (x y : Zp P) : ((x * y).val : Int) = ((x.val : Int) * y.val) % P.p := by
  rw [Fin.val_mul, Int.natCast_emod, Int.natCast_mul, P.n_eq]
theorem Zp.val_add {P : Pr} (x y : Zp P) : ((x + y).val : Int) = ((x.val : Int) + y.val) % P.p := by
  rw [Fin.val_add, Int.natCast_emod, Int.natCast_add, P.n_eq]
theorem Zp.val_one {P : Pr} : ((1 : Zp P).val : Int) = 1 := by
  have := P.two
  show (((1 % (P.p.toNat - 1 + 1) : Nat)) : Int) = 1
  rw [Nat.mod_eq_of_lt (by omega)]
  rfl
theorem Zp.val_zero {P : Pr} : ((0 : Zp P).val : Int) = 0 := rfl
theorem Zp.ofInt_val {P : Pr} (z : Int) : (((FK.ofInt (.rs P) z : Zp P).val : Nat) : Int) = z % P.p := by
  rw [Zp.val_ofInt, fmod_pos (by have := P.two; omega)]
theorem FK.ofInt_mul (N : FK) (a b : Int) : N.ofInt (a * b) = N.ofInt a * N.ofInt b := by
  cases N with
  | fr => exact Rat.intCast_mul a b
  | rs P =>
    refine Zp.ext_int ?_
    rw [Zp.ofInt_val, Zp.val_mul, Zp.ofInt_val, Zp.ofInt_val, Int.mul_emod]
theorem FK.ofInt_add (N : FK) (a b : Int) : N.ofInt (a + b) = N.ofInt a + N.ofInt b := by
  cases N with
  | fr => exact Rat.intCast_add a b
  | rs P =>
    refine Zp.ext_int ?_
    rw [Zp.ofInt_val, Zp.val_add, Zp.ofInt_val, Zp.ofInt_val, Int.add_emod]
theorem FK.ofInt_one (N : FK) : N.ofInt 1 = 1 := by
  cases N with
  | fr => rfl
  | rs P =>
    refine Zp.ext_int ?_
    rw [Zp.ofInt_val, Zp.val_one, Int.emod_eq_of_lt (by decide) (by have := P.two; omega)]
theorem FK.ofInt_zero (N : FK) : N.ofInt 0 = 0 := by
  cases N with
  | fr => rfl
  | rs P =>
    refine Zp.ext_int ?_
    rw [Zp.ofInt_val, Zp.val_zero, Int.zero_emod]
theorem FK.ofInt_neg (N : FK) (a : Int) : N.ofInt (-a) = -N.ofInt a := by
  have h := N.ofInt_add (-a) a
  rw [Int.add_left_neg, N.ofInt_zero] at h
  grind
theorem FK.ofInt_sub (N : FK) (a b : Int) : N.ofInt (a - b) = N.ofInt a - N.ofInt b := by
  rw [Int.sub_eq_add_neg, N.ofInt_add, N.ofInt_neg]
  grind
theorem Zp.ofInt_of {P : Pr} (x : Zp P) : FK.ofInt (.rs P) (x.val : Int) = x := Zp.ext_int (by rw [Zp.ofInt_val, Zp.emod_val])
theorem Zp.ofInt_eq0 {P : Pr} {z : Int} : FK.ofInt (.rs P) z = 0 ↔ z.fmod P.p = 0 := by
  constructor
  · intro h
    have := congrArg (fun x : Zp P => (x.val : Int)) h
    rw [← Zp.val_ofInt]
    exact this
  · intro h
    refine Zp.ext_int ?_
    rw [Zp.val_ofInt, h]
    rfl
theorem FK.enc_inj (N : FK) {a b : N.T} (h : N.enc a = N.enc b) : a = b := by
  cases N with
  | fr =>
    have h' : D.tup [.int a.num, .int a.den] = D.tup [.int b.num, .int b.den] := h
    simp only [D.tup.injEq, List.cons.injEq, D.int.injEq, and_true] at h'
    exact Rat.ext h'.1 (by exact_mod_cast h'.2)
  | rs P =>
    have h' : D.int (a.val : Int) = D.int (b.val : Int) := h
    rw [D.int.injEq] at h'
    exact Zp.ext_int h'
/-! fractions -/
theorem by_help {g u v s : Int} (g0 : 0 < g) (hv : g * v ≠ 0) (hs : s = if g * v < 0 then -g else g) : (g * v).sign * (g * u) / g = (g * u).fdiv s ∧ ((g * v).natAbs : Int) / g = (g * v).fdiv s ∧ s ≠ 0 := by
  have gn : (g.natAbs : Int) = g := by omega
  have ev : ((g * v).natAbs : Int) / g = v.natAbs := by
    rw [Int.natAbs_mul, Int.natCast_mul, gn, Int.mul_ediv_cancel_left _ (by omega)]
  rcases Int.lt_or_le (g * v) 0 with h | h
  · rw [if_pos h] at hs
    subst hs
    have v0 : v < 0 := by
      rcases Int.lt_or_le v 0 with z | z
      · exact z
      · have := Int.mul_nonneg (Int.le_of_lt g0) z; omega
    have e1 : g * u = (-g) * (-u) := by rw [Int.neg_mul_neg]
    have e2 : g * v = (-g) * (-v) := by rw [Int.neg_mul_neg]
    refine ⟨?_, ?_, by omega⟩
    · rw [Int.sign_eq_neg_one_of_neg h, Int.neg_one_mul, ← Int.mul_neg, Int.mul_ediv_cancel_left _ (by omega), e1, Int.mul_fdiv_cancel_left _ (by omega)]
    · rw [ev, e2, Int.mul_fdiv_cancel_left _ (by omega)]
      omega
  · rw [if_neg (by omega)] at hs
    subst hs
    have v0 : 0 < v := by
      rcases Int.lt_or_le 0 v with z | z
      · exact z
      · have := Int.mul_nonpos_of_nonneg_of_nonpos (Int.le_of_lt g0) z; omega
    refine ⟨?_, ?_, by omega⟩
    · rw [Int.sign_eq_one_of_pos (by omega), Int.one_mul, Int.mul_ediv_cancel_left _ (by omega), Int.mul_fdiv_cancel_left _ (by omega)]
    · rw [ev, Int.mul_fdiv_cancel_left _ (by omega)]
      omega
theorem rat_by {t b : Int} (hb : b ≠ 0) (s : Int) (hs : s = if b < 0 then -(Int.gcd t b : Int) else (Int.gcd t b : Int)) :
    ((t : Rat) / (b : Rat)).num = t.fdiv s ∧ ((((t : Rat) / (b : Rat)).den : Nat) : Int) = b.fdiv s ∧ s ≠ 0 := by
  have g0 : 0 < (Int.gcd t b : Int) := by
    have : Int.gcd t b ≠ 0 := fun z => hb (Int.gcd_eq_zero_iff.mp z).2
    omega
  obtain ⟨u, hu⟩ : (Int.gcd t b : Int) ∣ t := Int.gcd_dvd_left ..
  obtain ⟨v, hv⟩ : (Int.gcd t b : Int) ∣ b := Int.gcd_dvd_right ..
  have e1 := Rat.num_divInt t b
  have e2 := Rat.den_divInt t b
  rw [if_neg hb] at e2
  rw [Rat.divInt_eq_div] at e1 e2
  rw [Int.gcd_comm b t] at e1 e2
  have e3 : ((((t : Rat) / (b : Rat)).den : Nat) : Int) = (b.natAbs : Int) / (Int.gcd t b : Int) := by rw [e2, Int.natCast_ediv]
  rw [e1, e3]
  generalize hg : (Int.gcd t b : Int) = g at *
  clear hg e1 e2 e3
  subst hu hv
  exact by_help g0 hb hs
/-- sizes of a fraction made -/
theorem rat_sz {t b : Int} {n : Nat} (hb : b ≠ 0) (ht : Sz n t) (sb : Sz n b) : FK.sz .fr n ((t : Rat) / (b : Rat)) := by
  obtain ⟨h1, h2, h3⟩ := rat_by (t := t) (b := b) hb _ rfl
  refine ⟨?_, ?_⟩
  · rw [h1]
    exact ht.le (fdiv_le h3)
  · rw [h2]
    exact sb.le (fdiv_le h3)
theorem rat_mk (q : Rat) : (q.num : Rat) / ((q.den : Int) : Rat) = q := by rw [← Rat.divInt_eq_div, Rat.num_divInt_den]
theorem rat_den (q : Rat) : ((q.den : Int) : Rat) ≠ 0 := fun h => by
  have : (q.den : Int) = 0 := by exact_mod_cast h
  have := q.den_nz
  omega
theorem rat_add (x y : Rat) : x + y = ((x.num * y.den + y.num * x.den : Int) : Rat) / ((x.den * y.den : Int) : Rat) := by
  rw [Rat.intCast_add, Rat.intCast_mul, Rat.intCast_mul, Rat.intCast_mul]
  have h1 := rat_mk x
  have h2 := rat_mk y
  have d1 := rat_den x
  have d2 := rat_den y
  generalize (x.num : Rat) = a at *
  generalize ((x.den : Int) : Rat) = b at *
  generalize (y.num : Rat) = c at *
  generalize ((y.den : Int) : Rat) = d at *
  subst h1 h2
  grind
theorem rat_mul (x y : Rat) : x * y = ((x.num * y.num : Int) : Rat) / ((x.den * y.den : Int) : Rat) := by
  rw [Rat.intCast_mul, Rat.intCast_mul]
  have h1 := rat_mk x
  have h2 := rat_mk y
  have d1 := rat_den x
  have d2 := rat_den y
  generalize (x.num : Rat) = a at *
  generalize ((x.den : Int) : Rat) = b at *
  generalize (y.num : Rat) = c at *
  generalize ((y.den : Int) : Rat) = d at *
  subst h1 h2
  grind
theorem rat_inv (x : Rat) : x⁻¹ = ((x.den : Int) : Rat) / (x.num : Rat) := by
  rw [Rat.inv_def, Rat.divInt_eq_div]
theorem FK.sz_mono (N : FK) {n m : Nat} {x : N.T} (h : N.sz n x) (l : n ≤ m) : N.sz m x := by
  cases N with
  | fr => exact ⟨h.1.mono l, h.2.mono l⟩
  | rs P => trivial
theorem FK.sz_inv (N : FK) {n : Nat} {x : N.T} (h : N.sz n x) (h0 : x ≠ 0) : N.sz n x⁻¹ := by
  cases N with
  | rs P => trivial
  | fr =>
    have e1 : ((x : Rat)⁻¹).num = (x : Rat).num.sign * (x : Rat).den := Rat.num_inv x
    have e2 : ((x : Rat)⁻¹).den = if (x : Rat).num = 0 then 1 else (x : Rat).num.natAbs := Rat.den_inv x
    have hn : (x : Rat).num ≠ 0 := fun z => h0 (Rat.num_eq_zero.mp z)
    rw [if_neg hn] at e2
    refine ⟨?_, ?_⟩
    · rw [e1]
      refine h.2.le ?_
      rw [Int.natAbs_mul]
      have : (x : Rat).num.sign.natAbs ≤ 1 := by
        rw [Int.natAbs_sign]
        split <;> omega
      exact Nat.le_trans (Nat.mul_le_mul_right _ this) (by omega)
    · rw [e2]
      exact h.1.le (by omega)
theorem FK.sz_mul (N : FK) {n m : Nat} {x y : N.T} (h : N.sz n x) (k : N.sz m y) : N.sz (n + m) (x * y) := by
  cases N with
  | rs P => trivial
  | fr =>
    have e := rat_mul x y
    have d0 : ((x : Rat).den * (y : Rat).den : Int) ≠ 0 := by
      have := (x : Rat).den_nz
      have := (y : Rat).den_nz
      exact Int.ne_of_gt (Int.mul_pos (by omega) (by omega))
    show FK.sz .fr (n + m) ((x : Rat) * y)
    rw [e]
    exact rat_sz d0 (h.1.mul k.1) (h.2.mul k.2)
theorem FK.sz_add (N : FK) {n m : Nat} {x y : N.T} (h : N.sz n x) (k : N.sz m y) : N.sz (n + m + 1) (x + y) := by
  cases N with
  | rs P => trivial
  | fr =>
    have e := rat_add x y
    have d0 : ((x : Rat).den * (y : Rat).den : Int) ≠ 0 := by
      have := (x : Rat).den_nz
      have := (y : Rat).den_nz
      exact Int.ne_of_gt (Int.mul_pos (by omega) (by omega))
    show FK.sz .fr (n + m + 1) ((x : Rat) + y)
    rw [e]
    refine rat_sz d0 ?_ ((h.2.mul k.2).mono (by omega))
    have h1 := h.1.mul k.2
    have h2 := k.1.mul h.2
    rw [Nat.add_comm m n] at h2
    exact h1.add h2
theorem FK.sz_neg (N : FK) {n : Nat} {x : N.T} (h : N.sz n x) : N.sz n (-x) := by
  cases N with
  | rs P => trivial
  | fr => exact ⟨by show Sz n (-(x : Rat)).num; rw [Rat.neg_num]; exact h.1.neg, h.2⟩
theorem FK.sz_ofInt (N : FK) {n : Nat} {z : Int} (h : Sz n z) (hn : 0 < n) : N.sz n (N.ofInt z) := by
  cases N with
  | rs P => trivial
  | fr => exact ⟨h, .one hn⟩
theorem rat_gcd (q : Rat) : Int.gcd q.num q.den = 1 := q.reduced
theorem rat_cross {t b : Int} (hb : b ≠ 0) : ((t : Rat) / (b : Rat)).num * b = t * ((t : Rat) / (b : Rat)).den := by
  have h1 := rat_mk ((t : Rat) / (b : Rat))
  have d1 := rat_den ((t : Rat) / (b : Rat))
  have hb' : (b : Rat) ≠ 0 := fun z => hb (by exact_mod_cast z)
  have h2 : ((((t : Rat) / (b : Rat)).num : Rat)) * (b : Rat) = (t : Rat) * ((((t : Rat) / (b : Rat)).den : Int) : Rat) := by
    generalize (((t : Rat) / (b : Rat)).num : Rat) = n at *
    generalize ((((t : Rat) / (b : Rat)).den : Int) : Rat) = d at *
    generalize (t : Rat) = x at *
    generalize (b : Rat) = y at *
    have h3 : n = x / y * d := by rw [← h1]; grind
    rw [h3]
    grind
  rw [← Rat.intCast_mul, ← Rat.intCast_mul] at h2
  exact_mod_cast h2
/-! equality of two numbers in their one form -/
theorem den_pos (q : Rat) : (0 : Int) < q.den := by have := q.den_nz; omega
theorem uEq_enc (N : FK) {neg : Bool} {a b : N.T} {Q : O → Prop} : (uEq neg).run (.im (N.enc a)) (.im (N.enc b)) Q = Q (O.t (neg ^^ decide (a = b))) := by
  cases N with
  | rs P =>
    have e : decide ((a.val : Int) = b.val) = decide (a = b) := by
      by_cases h : a = b
      · subst h; simp
      · simp only [h, decide_false, decide_eq_false_iff_not]
        exact fun z => h (Zp.ext_int z)
    show Q (O.t (neg ^^ decide ((a.val : Int) = b.val))) = _
    rw [e]
  | fr =>
    have e : PyData.eqv (.tuple [.int a.num, .int (a.den : Int)]) (.tuple [.int b.num, .int (b.den : Int)]) = decide (a = b) := by
      show ((a.num == b.num) && (((a.den : Int) == (b.den : Int)) && true)) = decide (a = b)
      by_cases h : a = b
      · subst h; simp
      · rw [decide_eq_false h]
        by_cases h1 : a.num = b.num
        · have h2 : ¬ (a.den : Int) = (b.den : Int) := fun z => h (Rat.ext h1 (by exact_mod_cast z))
          have : ((a.den : Int) == (b.den : Int)) = false := by simpa using h2
          rw [this]; simp
        · have : (a.num == b.num) = false := by simpa using h1
          rw [this]; rfl
    refine propext ⟨fun ⟨p, q, e1, e2, _, _, h⟩ => ?_, fun h => ⟨_, _, rfl, rfl, rfl, rfl, ?_⟩⟩
    · cases e1
      cases e2
      have h' := e ▸ h
      exact h'
    · exact e.symm ▸ h
theorem mkBo_enc (N : FK) {x : N.T} : mkBo (N.enc x) = .im (N.enc x) := by
  cases N <;> rfl
theorem mkBo_fr {a b : Int} : mkBo (.tup [.int a, .int b]) = .im (.tup [.int a, .int b]) := rfl
theorem mkBo_int {n : Int} : mkBo (.int n) = .im (.int n) := rfl
theorem mkBo_bl {n : Bool} : mkBo (.bl n) = .im (.bl n) := rfl
theorem mkBo_str {n : Str} : mkBo (.str n) = .im (.str n) := rfl
theorem mkBo_non : mkBo .non = .im .non := rfl
theorem mkBo_kd {n : Kd} : mkBo (.kd n) = .im (.kd n) := rfl
theorem mkBo_lst {ds : List D} : mkBo (.lst ds) = .bo (.lst ds) := rfl
theorem flat_enc (N : FK) {x : N.T} : D.flat (N.enc x) = true := by
  cases N <;> rfl
/-- one of three -/
theorem at3 {a b c : O} {z : Int} (h0 : 0 ≤ z) (h : z < 3) : atI [a, b, c] z = some a ∨ atI [a, b, c] z = some b ∨ atI [a, b, c] z = some c := by
  have : z = 0 ∨ z = 1 ∨ z = 2 := by omega
  rcases this with rfl | rfl | rfl
  · exact .inl rfl
  · exact .inr (.inl rfl)
  · exact .inr (.inr rfl)
end PL

/-! D1 -/
set_option Elab.async false
set_option linter.all false
set_option maxRecDepth 100000
set_option maxHeartbeats 4000000
/-! D1: divisor, shares, is_whole. -/
namespace PL
open PySem PySem.Spec L2
local macro_rules | `(tactic| walk_at "pl") => `(tactic| simp (config := { maxSteps := 1000000 }) only [sSeq, sIf, sRet, sRetV, sRetN, sAsg, sPar, sPar3, sAug, sNext, sExpr, sBreak, sCont, W1.pure, wV, wC, w1, w2, wT, wAnd, wOr, wNot, wAndV, wOrV, wNotV, wIf, wCons, wNil, wA, wL, wTp, wCall, uA1, uA2, uI, uIB, uIU, uEq_int, uEq_str, uEq_bl, uIsi, uLen, uInt, uIx, uCat, uLst, wSl, wItA, wR1, wR2, wZip, wEnum, wRev, wON, wOS, gF, gN, bodyK, startS,   nb_im, nb_ls, nb_tp, nb_bo, vw_im, vw_ls, vw_tp, er_im, er_bo, er_ls, er_tp, erL_nil, erL_cons, its_iml, its_imt, its_scr, its_bol, its_bot, its_ls, its_tp, trk_iml, trk_imt, trk_bot, trk_tp, isL_imt, isL_bot, isL_tp,  trk_bol, trk_ls, isL_iml, isL_scr, isL_bol, isL_ls, fz_im, fz_bo, fz_ls, fz_tp, ty_int, ty_bl, ty_str, ty_non, ty_tup, ty_lst, len_lst, len_tup, len_scr, all_nil, all_cons, Bool.and_self, true_or,   List.map_cons, List.map_nil, List.cons_append, List.nil_append, List.append_nil, List.length_cons, List.length_nil, List.replicate, List.getElem?_cons_zero, List.getElem?_cons_succ, List.set_cons_zero, List.set_cons_succ, List.set_nil, Option.some.injEq, exists_eq_left', exists_eq_left, exists_eq_right, exists_eq', exists_and_left, exists_and_right, and_true, true_and, and_assoc, O.im.injEq, D.int.injEq, D.bl.injEq, D.tup.injEq, D.lst.injEq, D.kd.injEq, D.scr.injEq, D.str.injEq, Ctr.fn, Ctr.rel, sFor_run, wLC_run, all_mem_nil,   tidy_i, tidy_t, tidy_n, tidy_kd, or_true, Bool.and_true,  mkL_nb, all_map_i, all_map_im, cutA_map, cutA_63, take_map', drop_map',  its_lsi, erL_append, erL_mapi, map_im_int, List.map_append, List.all_append, List.length_map, List.length_append,  unr_cons, unr_nil, whole_int, Option.isSome_some,  all_mem_cons, atI_0, atI_1, atI_2, atI_3, atI_4, isB_int_int, isB_int_bool, isB_int_str, isB_int_tuple, isB_int_list, isB_bool_int, isB_bool_bool, isB_bool_str, isB_bool_tuple, isB_bool_list, isB_str_int, isB_str_bool, isB_str_str, isB_str_tuple, isB_str_list, isB_tuple_int, isB_tuple_bool, isB_tuple_str, isB_tuple_tuple, isB_tuple_list, isB_list_int, ty_dic, isB_dict_int, isB_dict_bool, isB_dict_str, isB_dict_tuple, isB_dict_list, mkL_0, isB_list_bool, isB_list_str, isB_list_tuple, isB_list_list, isB_NoneType_int, isB_NoneType_bool, isB_NoneType_str, isB_NoneType_tuple, isB_NoneType_list, Prod.exists, Prod.forall, forall_exists_index, and_imp, forall_eq, forall_eq', Bool.false_xor, Bool.true_xor, List.cons.injEq, Nat.reduceAdd, Nat.reduceSub, Nat.reduceLT, Nat.lt_add_one, Nat.zero_lt_succ, Nat.zero_add,   Bool.not_eq_true', Bool.not_eq_false', Bool.not_true, Bool.not_false, decide_eq_false_iff_not, decide_eq_true_eq, if_true, if_false, Bool.false_eq_true, Bool.true_eq_false, reduceIte])
local macro_rules | `(tactic| walk_at "ds") => `(tactic| repeat refine And.intro (by first | with_reducible rfl | decide | exact mulok_r (by decide) | exact mulok_l (by decide) | exact szL (by decide)) ?_)
noncomputable def wt_divisor_1 : W1 Bool :=
  wT (w2 (wV 1) (wC (.int 0)) (uEq true))

noncomputable def wb_divisor_2 : WS :=
  sPar 0 1 (wCons (wV 1) (wCons (w2 (wV 0) (wV 1) uMod) (wNil)))

noncomputable def w_divisor : WS :=
  sSeq (sWhile wt_divisor_1 wb_divisor_2)
  (sRet (wA (wCons (wV 0) (wNil)) (uA1 uAbs)))

abbrev N_divisor : List Str := ["one", "other"]

noncomputable def wt_shares_1 : W1 Bool :=
  wT (w2 (wV 5) (wC (.int 0)) (uEq true))

noncomputable def wb_shares_2 : WS :=
  sSeq (sAsg (w2 (wV 2) (wV 5) uDiv) (gF 8))
  (sSeq (sPar 2 5 (wCons (wV 5) (wCons (w2 (wV 2) (w2 (wV 8) (wV 5) uMul) uSub) (wNil))))
  (sSeq (sPar 3 6 (wCons (wV 6) (wCons (w2 (wV 3) (w2 (wV 8) (wV 6) uMul) uSub) (wNil))))
  (sPar 4 7 (wCons (wV 7) (wCons (w2 (wV 4) (w2 (wV 8) (wV 7) uMul) uSub) (wNil))))))

noncomputable def w_shares : WS :=
  sSeq (sPar3 2 3 4 (wCons (wV 0) (wCons (wC (.int 1)) (wCons (wC (.int 0)) (wNil)))))
  (sSeq (sPar3 5 6 7 (wCons (wV 1) (wCons (wC (.int 0)) (wCons (wC (.int 1)) (wNil)))))
  (sSeq (sWhile wt_shares_1 wb_shares_2)
  (sSeq (sIf (wT (w2 (wV 2) (wC (.int 0)) uLt))
  (sRet (wTp (wCons (w1 (wV 2) uNeg) (wCons (w1 (wV 3) uNeg) (wCons (w1 (wV 4) uNeg) (wNil))))))
  (sNext))
  (sRet (wTp (wCons (wV 2) (wCons (wV 3) (wCons (wV 4) (wNil)))))))))

abbrev N_shares : List Str := ["one", "other", "d", "u", "v", "rest", "low", "high", "times"]

noncomputable def w_law_whole : WS :=
  sRet (wAndV (wA (wCons (wV 0) (wCons (wC (.obj (.ty "int"))) wNil)) (uA2 (uIsi "int"))) (wNotV (wA (wCons (wV 0) (wCons (wC (.obj (.ty "bool"))) wNil)) (uA2 (uIsi "bool")))))

abbrev N_law_whole : List Str := ["_law_found"]

def R_divisor : Ctr := Ctr.fn (fun p : Int × Int => [.int p.1, .int p.2]) (fun _ => True) fun p => O.i (Int.gcd p.1 p.2)
theorem p_divisor : Keeps ["one", "other"] w_divisor R_divisor := by
  rintro ds Q E ⟨⟨a, b⟩, rfl, _, q⟩
  unfold w_divisor
  simp only [sSeq]
  refine ⟨fun m S => ∃ x y : Int, S = [some (O.i x), some (O.i y)] ∧ m = y.natAbs ∧ Int.gcd x y = Int.gcd a b, ⟨_, a, b, rfl, rfl, rfl⟩, ?_⟩
  rintro m S ⟨x, y, rfl, rfl, h⟩
  unfold wt_divisor_1 wb_divisor_2
  walk_at "pl"
  split
  · rename_i hy
    exact ⟨hy, _, fmod_lt hy, rfl, by rw [gcd_fmod]; exact h⟩
  · rename_i hy
    have : y = 0 := Classical.not_not.mp hy
    subst this
    have e : (if x < 0 then -x else x) = (Int.gcd a b : Int) := by
      rw [← h, Int.gcd_zero_right]
      split <;> omega
    rw [e]
    exact q
def R_shares : Ctr := Ctr.rel (fun p : Int × Int => [.int p.1, .int p.2]) (fun p => Sz 4000 p.1 ∧ Sz 4000 p.2)
  (fun p (o : Int × Int) => (Int.gcd p.1 p.2 : Int) = p.1 * o.1 + p.2 * o.2 ∧ Sz 20000 o.1 ∧ Sz 20000 o.2)
  (fun p o => .im (.tup [.int (Int.gcd p.1 p.2), .int o.1, .int o.2]))
/-- floors of like signs -/
theorem step_signs {b d r : Int} (hb : b ≠ 0) (hd : 0 ≤ d * b) (hr : 0 < r * b) : 0 ≤ d.fdiv r ∧ 0 ≤ d.fmod r * b ∧ d.natAbs = (d.fdiv r).natAbs * r.natAbs + (d.fmod r).natAbs := by
  have e := Int.fdiv_mul_add_fmod d r
  rcases Int.lt_or_gt_of_ne hb with h | h
  · have r0 : r < 0 := by
      rcases Int.lt_or_le r 0 with z | z
      · exact z
      · have := Int.mul_nonpos_of_nonneg_of_nonpos z (Int.le_of_lt h); omega
    have d0 : d ≤ 0 := by
      rcases Int.lt_or_le 0 d with z | z
      · have := Int.mul_neg_of_pos_of_neg z h; omega
      · exact z
    have hm := fmod_neg_bounds (x := d) r0
    have q0 : 0 ≤ d.fdiv r := by
      rcases Int.lt_or_le (d.fdiv r) 0 with z | z
      · have : d.fdiv r * r ≥ -r := by
          have := Int.mul_le_mul_of_nonpos_right (show d.fdiv r ≤ -1 by omega) (Int.le_of_lt r0); omega
        omega
      · exact z
    refine ⟨q0, Int.mul_nonneg_of_nonpos_of_nonpos hm.1 (Int.le_of_lt h), ?_⟩
    have : (d.natAbs : Int) = (d.fdiv r).natAbs * r.natAbs + (d.fmod r).natAbs := by
      have e1 : (d.natAbs : Int) = -d := by omega
      have e2 : (r.natAbs : Int) = -r := by omega
      have e3 : ((d.fmod r).natAbs : Int) = -(d.fmod r) := by omega
      have e4 : ((d.fdiv r).natAbs : Int) = d.fdiv r := by omega
      rw [e1, e2, e3, e4, Int.mul_neg]; omega
    exact_mod_cast this
  · have r0 : 0 < r := by
      rcases Int.lt_or_le 0 r with z | z
      · exact z
      · have := Int.mul_nonpos_of_nonpos_of_nonneg z (Int.le_of_lt h); omega
    have d0 : 0 ≤ d := by
      rcases Int.lt_or_le d 0 with z | z
      · have := Int.mul_neg_of_neg_of_pos z h; omega
      · exact z
    have hm := fmod_pos_bounds (x := d) r0
    have q0 : 0 ≤ d.fdiv r := by rw [fdiv_pos r0]; exact Int.ediv_nonneg d0 (Int.le_of_lt r0)
    refine ⟨q0, Int.mul_nonneg hm.1 (Int.le_of_lt h), ?_⟩
    have : (d.natAbs : Int) = (d.fdiv r).natAbs * r.natAbs + (d.fmod r).natAbs := by
      have e1 : (d.natAbs : Int) = d := by omega
      have e2 : (r.natAbs : Int) = r := by omega
      have e3 : ((d.fmod r).natAbs : Int) = d.fmod r := by omega
      have e4 : ((d.fdiv r).natAbs : Int) = d.fdiv r := by omega
      rw [e1, e2, e3, e4]; omega
    exact_mod_cast this
/-- what holds of the shares between two turns -/
structure ShI (a b d u v r l h : Int) : Prop where
  e1 : d = a * u + b * v
  e2 : r = a * l + b * h
  g : Int.gcd d r = Int.gcd a b
  sd : Sz 4000 d
  sr : Sz 4000 r
  su : Sz 4001 u
  sl : Sz 4001 l
  sv : Sz 8003 v
  sh : Sz 8003 h
  ph : (d = a ∧ u = 1 ∧ v = 0 ∧ r = b ∧ l = 0 ∧ h = 1) ∨ (b ≠ 0 ∧ 0 ≤ d * b ∧ 0 ≤ r * b ∧ d.natAbs * l.natAbs + r.natAbs * u.natAbs = b.natAbs ∧ u * l ≤ 0)
theorem natAbs_opp {u w : Int} (h : u * w ≤ 0) : (u - w).natAbs = u.natAbs + w.natAbs := by
  rcases Int.lt_or_le u 0 with hu | hu
  · rcases Int.lt_or_le w 0 with hw | hw
    · have := Int.mul_pos_of_neg_of_neg hu hw; omega
    · omega
  · rcases Int.lt_or_le 0 w with hw | hw
    · rcases Int.lt_or_le 0 u with hu' | hu'
      · have := Int.mul_pos hu' hw; omega
      · omega
    · omega
theorem lin_id {a b d u v r l h : Int} (h1 : d = a * u + b * v) (h2 : r = a * l + b * h) (q : Int) : d - q * r = a * (u - q * l) + b * (v - q * h) := by
  subst h1 h2; grind
theorem nat_id (q m r l u : Nat) : r * (u + q * l) + m * l = (q * r + m) * l + r * u := by
  rw [Nat.mul_add, Nat.add_mul, Nat.mul_comm q r, Nat.mul_assoc]; omega
theorem int_id (l u q : Int) : l * (u - q * l) = u * l - q * (l * l) := by grind
theorem ShI.step {a b d u v r l h : Int} (I : ShI a b d u v r l h) (sa : Sz 4000 a) (sb : Sz 4000 b) (hr : r ≠ 0) : ShI a b r l h (d - d.fdiv r * r) (u - d.fdiv r * l) (v - d.fdiv r * h) := by
  have em : d - d.fdiv r * r = d.fmod r := by rw [fmod_eq, Int.mul_comm]
  have e3 : d - d.fdiv r * r = a * (u - d.fdiv r * l) + b * (v - d.fdiv r * h) := by
    have h1 := I.e1
    have h2 := I.e2
    exact lin_id h1 h2 _
  have sm : Sz 4000 (d - d.fdiv r * r) := by rw [em]; exact I.sr.fmod hr
  have bn : b ≠ 0 := by
    rcases I.ph with ⟨_, _, _, hb, _, _⟩ | ⟨hb, _⟩
    · rw [← hb]; exact hr
    · exact hb
  have key : (b ≠ 0 ∧ 0 ≤ r * b ∧ 0 ≤ (d - d.fdiv r * r) * b ∧ r.natAbs * (u - d.fdiv r * l).natAbs + (d - d.fdiv r * r).natAbs * l.natAbs = b.natAbs ∧ l * (u - d.fdiv r * l) ≤ 0) := by
    rcases I.ph with ⟨h1, h2, h3, h4, h5, h6⟩ | ⟨hb, hd, hrb, hs, hul⟩
    · rw [h2, h5, h4, h1, Int.mul_zero, Int.sub_zero]
      refine ⟨bn, ?_, ?_, by simp, by simp⟩
      · rcases Int.lt_or_le b 0 with z | z
        · exact Int.mul_nonneg_of_nonpos_of_nonpos (Int.le_of_lt z) (Int.le_of_lt z)
        · exact Int.mul_nonneg z z
      · have e4 : a - a.fdiv b * b = a.fmod b := by rw [fmod_eq, Int.mul_comm]
        rw [e4]
        rcases Int.lt_or_gt_of_ne bn with z | z
        · exact Int.mul_nonneg_of_nonpos_of_nonpos (fmod_neg_bounds z).1 (Int.le_of_lt z)
        · exact Int.mul_nonneg (fmod_pos_bounds z).1 (Int.le_of_lt z)
    · have hrb' : 0 < r * b := by
        rcases Int.lt_or_le 0 (r * b) with z | z
        · exact z
        · have : r * b = 0 := by omega
          rcases Int.mul_eq_zero.mp this with z | z
          · exact absurd z hr
          · exact absurd z hb
      obtain ⟨q0, m0, en⟩ := step_signs hb hd hrb'
      have hq : u * (d.fdiv r * l) ≤ 0 := by
        have e : u * (d.fdiv r * l) = d.fdiv r * (u * l) := by rw [← Int.mul_assoc, Int.mul_comm u, Int.mul_assoc]
        rw [e]
        exact Int.mul_nonpos_of_nonneg_of_nonpos q0 hul
      have en2 := natAbs_opp hq
      rw [Int.natAbs_mul] at en2
      refine ⟨hb, hrb, by rw [em]; exact m0, ?_, ?_⟩
      · rw [en2, em, ← hs, en]
        exact nat_id _ _ _ _ _
      · have e : l * (u - d.fdiv r * l) = u * l - d.fdiv r * (l * l) := by
          exact int_id _ _ _
        have : 0 ≤ d.fdiv r * (l * l) := Int.mul_nonneg q0 (by
          rcases Int.lt_or_le l 0 with z | z
          · exact Int.mul_nonneg_of_nonpos_of_nonpos (Int.le_of_lt z) (Int.le_of_lt z)
          · exact Int.mul_nonneg z z)
        omega
  obtain ⟨_, k1, k2, k3, k4⟩ := key
  have sl' : Sz 4001 (u - d.fdiv r * l) := by
    have : r.natAbs * (u - d.fdiv r * l).natAbs ≤ b.natAbs := by omega
    have h1 : 1 * (u - d.fdiv r * l).natAbs ≤ r.natAbs * (u - d.fdiv r * l).natAbs := Nat.mul_le_mul_right _ (by omega)
    exact (sb.le (by omega)).mono (by decide)
  have sv' : Sz 8003 (v - d.fdiv r * h) := by
    have e : b * (v - d.fdiv r * h) = (d - d.fdiv r * r) - a * (u - d.fdiv r * l) := by omega
    have s1 : Sz 8002 ((d - d.fdiv r * r) - a * (u - d.fdiv r * l)) := Sz.sub (n := 8001) (sm.mono (by decide)) (sa.mul sl')
    rw [← e] at s1
    exact (s1.of_mul bn).mono (by decide)
  refine ⟨I.e2, e3, ?_, I.sr, sm, I.sl, sl', I.sh, sv', .inr ⟨bn, k1, k2, ?_, k4⟩⟩
  · rw [em, gcd_fmod]; exact I.g
  · exact k3
theorem p_shares : Keeps N_shares w_shares R_shares := by
  rintro ds Q E ⟨⟨a, b⟩, rfl, ⟨sa, sb⟩, q⟩
  unfold w_shares
  walk_at "pl"
  refine ⟨fun m S => ∃ (d u v r l h : Int) (t : Option O), S = [some (O.i a), some (O.i b), some (O.i d), some (O.i u), some (O.i v), some (O.i r), some (O.i l), some (O.i h), t] ∧ m = r.natAbs ∧ ShI a b d u v r l h,
    ⟨_, a, 1, 0, b, 0, 1, none, rfl, rfl, ⟨by simp, by simp, rfl, sa, sb, .one (by decide), .zero, .zero, .one (by decide), .inl ⟨rfl, rfl, rfl, rfl, rfl, rfl⟩⟩⟩, ?_⟩
  rintro m S ⟨d, u, v, r, l, h, t, rfl, rfl, I⟩
  unfold wt_shares_1 wb_shares_2
  walk_at "pl"
  split
  · rename_i hr
    have st := I.sd.fdiv hr
    refine ⟨hr, divok I.sr (by decide) (by decide), mulok st I.sr (by decide) (by decide) (by decide), mulok st I.sl (by decide) (by decide) (by decide), mulok st I.sh (by decide) (by decide) (by decide),
      _, ?_, rfl, I.step sa sb hr⟩
    have e : d - d.fdiv r * r = d.fmod r := by rw [fmod_eq, Int.mul_comm]
    rw [e]; exact fmod_lt hr
  · rename_i hr
    have hr := Classical.not_not.mp hr
    have g : (Int.gcd a b : Int) = d.natAbs := by rw [← I.g, hr, Int.gcd_zero_right]
    have e := I.e1
    have q' : ∀ u' v', (Int.gcd a b : Int) = a * u' + b * v' → Sz 20000 u' → Sz 20000 v' → Q (.im (.tup [.int (Int.gcd a b), .int u', .int v'])) := fun u' v' h1 h2 h3 => q (u', v') ⟨h1, h2, h3⟩
    split
    · rename_i hd
      have z := q' (-u) (-v) (by rw [g, Int.mul_neg, Int.mul_neg]; omega) ((I.su.neg).mono (by decide)) ((I.sv.neg).mono (by decide))
      have : (Int.gcd a b : Int) = -d := by rw [g]; omega
      rw [this] at z
      exact ⟨by decide, rfl, z⟩
    · rename_i hd
      have z := q' u v (by rw [g]; omega) (I.su.mono (by decide)) (I.sv.mono (by decide))
      have : (Int.gcd a b : Int) = d := by rw [g]; omega
      rw [this] at z
      exact ⟨by decide, rfl, z⟩
def R_law_whole : Ctr := Ctr.fn (fun d : D => [d]) (fun d => d.ty.isSome = true) fun d => O.t d.whole
theorem p_law_whole : Keeps N_law_whole w_law_whole R_law_whole := by
  rintro ds Q E ⟨d, rfl, ht, q⟩
  unfold w_law_whole
  cases d <;> first | cases ht | skip
  all_goals (walk_at "pl"; exact q)
end PL

/-! D2 -/
set_option Elab.async false
set_option linter.all false
set_option maxRecDepth 100000
set_option maxHeartbeats 4000000
/-! D2: is_prime. -/
namespace PL
open PySem PySem.Spec L2
local macro_rules | `(tactic| walk_at "pl") => `(tactic| simp (config := { maxSteps := 1000000 }) only [sSeq, sIf, sRet, sRetV, sRetN, sAsg, sPar, sPar3, sAug, sNext, sExpr, sBreak, sCont, W1.pure, wV, wC, w1, w2, wT, wAnd, wOr, wNot, wAndV, wOrV, wNotV, wIf, wCons, wNil, wA, wL, wTp, wCall, uA1, uA2, uI, uIB, uIU, uEq_int, uEq_str, uEq_bl, uIsi, uLen, uInt, uIx, uCat, uLst, wSl, wItA, wR1, wR2, wZip, wEnum, wRev, wON, wOS, gF, gN, bodyK, startS,   nb_im, nb_ls, nb_tp, nb_bo, vw_im, vw_ls, vw_tp, er_im, er_bo, er_ls, er_tp, erL_nil, erL_cons, its_iml, its_imt, its_scr, its_bol, its_bot, its_ls, its_tp, trk_iml, trk_imt, trk_bot, trk_tp, isL_imt, isL_bot, isL_tp,  trk_bol, trk_ls, isL_iml, isL_scr, isL_bol, isL_ls, fz_im, fz_bo, fz_ls, fz_tp, ty_int, ty_bl, ty_str, ty_non, ty_tup, ty_lst, len_lst, len_tup, len_scr, all_nil, all_cons, Bool.and_self, true_or,   List.map_cons, List.map_nil, List.cons_append, List.nil_append, List.append_nil, List.length_cons, List.length_nil, List.replicate, List.getElem?_cons_zero, List.getElem?_cons_succ, List.set_cons_zero, List.set_cons_succ, List.set_nil, Option.some.injEq, exists_eq_left', exists_eq_left, exists_eq_right, exists_eq', exists_and_left, exists_and_right, and_true, true_and, and_assoc, O.im.injEq, D.int.injEq, D.bl.injEq, D.tup.injEq, D.lst.injEq, D.kd.injEq, D.scr.injEq, D.str.injEq, Ctr.fn, Ctr.rel, sFor_run, wLC_run, all_mem_nil,   tidy_i, tidy_t, tidy_n, tidy_kd, or_true, Bool.and_true,  mkL_nb, all_map_i, all_map_im, cutA_map, cutA_63, take_map', drop_map',  its_lsi, erL_append, erL_mapi, map_im_int, List.map_append, List.all_append, List.length_map, List.length_append,  unr_cons, unr_nil, whole_int, Option.isSome_some,  all_mem_cons, atI_0, atI_1, atI_2, atI_3, atI_4, isB_int_int, isB_int_bool, isB_int_str, isB_int_tuple, isB_int_list, isB_bool_int, isB_bool_bool, isB_bool_str, isB_bool_tuple, isB_bool_list, isB_str_int, isB_str_bool, isB_str_str, isB_str_tuple, isB_str_list, isB_tuple_int, isB_tuple_bool, isB_tuple_str, isB_tuple_tuple, isB_tuple_list, isB_list_int, ty_dic, isB_dict_int, isB_dict_bool, isB_dict_str, isB_dict_tuple, isB_dict_list, mkL_0, isB_list_bool, isB_list_str, isB_list_tuple, isB_list_list, isB_NoneType_int, isB_NoneType_bool, isB_NoneType_str, isB_NoneType_tuple, isB_NoneType_list, Prod.exists, Prod.forall, forall_exists_index, and_imp, forall_eq, forall_eq', Bool.false_xor, Bool.true_xor, List.cons.injEq, Nat.reduceAdd, Nat.reduceSub, Nat.reduceLT, Nat.lt_add_one, Nat.zero_lt_succ, Nat.zero_add,   Bool.not_eq_true', Bool.not_eq_false', Bool.not_true, Bool.not_false, decide_eq_false_iff_not, decide_eq_true_eq, if_true, if_false, Bool.false_eq_true, Bool.true_eq_false, reduceIte])
local macro_rules | `(tactic| walk_at "ds") => `(tactic| repeat refine And.intro (by first | with_reducible rfl | decide | exact mulok_r (by decide) | exact mulok_l (by decide) | exact szL (by decide)) ?_)
noncomputable def wt_is_prime_1 : W1 Bool :=
  wT (w2 (w2 (wV 1) (wV 1) uMul) (wV 0) uLe)

noncomputable def wb_is_prime_2 : WS :=
  sSeq (sIf (wT (w2 (w2 (wV 0) (wV 1) uMod) (wC (.int 0)) (uEq false)))
  (sRet (wC (.bl false)))
  (sNext))
  (sAug 1 (· + ·) (wC (.int 1)))

noncomputable def w_is_prime : WS :=
  sSeq (sIf (wT (w2 (wV 0) (wC (.int 2)) uLt))
  (sRet (wC (.bl false)))
  (sNext))
  (sSeq (sAsg (wC (.int 2)) (gF 1))
  (sSeq (sWhile wt_is_prime_1 wb_is_prime_2)
  (sRet (wC (.bl true)))))

abbrev N_is_prime : List Str := ["number", "by"]

noncomputable def R_is_prime : Ctr := Ctr.fn (fun n : Int => [.int n]) (fun n => n < 2 ^ 64) fun n => O.t (prB n)
theorem p_is_prime : Keeps N_is_prime w_is_prime R_is_prime := by
  rintro ds Q E ⟨n, rfl, hn, q⟩
  have q : Q (O.t (prB n)) := q
  unfold w_is_prime
  walk_at "pl"
  split
  · rename_i h
    rw [prB_no (fun z => by have := z.1; omega)] at q
    exact q
  · rename_i h2
    refine ⟨fun m S => ∃ b : Int, S = [some (O.i n), some (O.i b)] ∧ m = (n + 1 - b).toNat ∧ 2 ≤ b ∧ b ≤ n + 1 ∧ ∀ m : Int, 2 ≤ m → m < b → ¬ m ∣ n, ⟨_, 2, rfl, rfl, by omega, by omega, fun m h1 h2 => by omega⟩, ?_⟩
    rintro m S ⟨b, rfl, rfl, b2, bn, hb⟩
    unfold wt_is_prime_1 wb_is_prime_2
    walk_at "pl"
    have e64 : (2 : Int) ^ 64 = 18446744073709551616 := by decide
    rw [e64] at hn
    have sb : Sz 65 b := Sz.of_nonneg (by omega) (by have : (2 : Int) ^ 65 = 36893488147419103232 := by decide
                                                     omega)
    refine ⟨mulok sb sb (by decide) (by decide) (by decide), ?_⟩
    split
    · rename_i hle
      have hbn := sq_bound (by omega) hle
      refine ⟨by omega, ?_⟩
      split
      · rename_i hz
        rw [prB_no (notP_of b2 hle hz)] at q
        exact q
      · rename_i hz
        refine ⟨_, ?_, rfl, by omega, by omega, fun m h1 h2 => ?_⟩
        · omega
        · rcases Int.lt_or_le m b with z | z
          · exact hb m h1 z
          · have : m = b := by omega
            subst this
            exact fun z => hz (Int.fmod_eq_zero_of_dvd z)
    · rename_i hle
      rw [prB_of (isP_end (by omega) (by omega) (by omega) hb)] at q
      exact q
end PL

/-! D3 -/
set_option Elab.async false
set_option linter.all false
set_option maxRecDepth 100000
set_option maxHeartbeats 4000000
/-! D3: is_whole, the kinds' methods. -/
namespace PL
open PySem PySem.Spec L2
local macro_rules | `(tactic| walk_at "pl") => `(tactic| simp (config := { maxSteps := 1000000 }) only [sSeq, sIf, sRet, sRetV, sRetN, sAsg, sPar, sPar3, sAug, sNext, sExpr, sBreak, sCont, W1.pure, wV, wC, w1, w2, wT, wAnd, wOr, wNot, wAndV, wOrV, wNotV, wIf, wCons, wNil, wA, wL, wTp, wCall, uA1, uA2, uI, uIB, uIU, uEq_int, uEq_str, uEq_bl, uIsi, uLen, uInt, uIx, uCat, uLst, wSl, wItA, wR1, wR2, wZip, wEnum, wRev, wON, wOS, gF, gN, bodyK, startS,   nb_im, nb_ls, nb_tp, nb_bo, vw_im, vw_ls, vw_tp, er_im, er_bo, er_ls, er_tp, erL_nil, erL_cons, its_iml, its_imt, its_scr, its_bol, its_bot, its_ls, its_tp, trk_iml, trk_imt, trk_bot, trk_tp, isL_imt, isL_bot, isL_tp,  trk_bol, trk_ls, isL_iml, isL_scr, isL_bol, isL_ls, fz_im, fz_bo, fz_ls, fz_tp, ty_int, ty_bl, ty_str, ty_non, ty_tup, ty_lst, len_lst, len_tup, len_scr, all_nil, all_cons, Bool.and_self, true_or,   List.map_cons, List.map_nil, List.cons_append, List.nil_append, List.append_nil, List.length_cons, List.length_nil, List.replicate, List.getElem?_cons_zero, List.getElem?_cons_succ, List.set_cons_zero, List.set_cons_succ, List.set_nil, Option.some.injEq, exists_eq_left', exists_eq_left, exists_eq_right, exists_eq', exists_and_left, exists_and_right, and_true, true_and, and_assoc, O.im.injEq, D.int.injEq, D.bl.injEq, D.tup.injEq, D.lst.injEq, D.kd.injEq, D.scr.injEq, D.str.injEq, Ctr.fn, Ctr.rel, sFor_run, wLC_run, all_mem_nil, sRaise, uPrime, wMeth, wMeth1, sStore, sAppend, sExtend, k_fr, k_rs, wMkR, uIsX, uIsXT, sTry, sExpr, tidy_im, flat_int, flat_bl, flat_tup, flat_non, flat_str, flat_kd, flatL_nil, flatL_cons, isPo_b, Ctr.ex, Ctr.on, isFr_fr, isFr_rs, isRs_fr, isRs_rs, sigma_ex, D.kd.injEq, Kd.b.injEq, BK.rs.injEq, reduceCtorEq, false_and, and_false, exists_false, false_implies, true_implies, forall_const, List.mem_cons, List.not_mem_nil, or_false, isT_exn, isT_non, xT_x, xT_ve, xT_fe, n_kind, n_number, n_fit, n_turn, n_inverse, n_text, n_name, n_row, okS_exn, okS_non, decide_true, decide_false, eq_self, wCh, gLt, gLe, gGt, gGe, uEq_enc, mkT_1, mkT_2, mkT_3, mkT_4, mkBo_enc, mkBo_int, mkBo_bl, mkBo_str, mkBo_non, mkBo_kd, mkBo_lst, flat_enc, O.ls.injEq, mkBo_fr, false_or, isT_kd, okS_kd, flat_dic, kT_1, kT_2, kT_3, kT_4, kT_5, kT_6,  tidy_i, tidy_t, tidy_n, tidy_kd, or_true, Bool.and_true,  mkL_nb, all_map_i, all_map_im, cutA_map, cutA_63, take_map', drop_map',  its_lsi, erL_append, erL_mapi, map_im_int, List.map_append, List.all_append, List.length_map, List.length_append,  unr_cons, unr_nil, whole_int, Option.isSome_some,  all_mem_cons, atI_0, atI_1, atI_2, atI_3, atI_4, isB_int_int, isB_int_bool, isB_int_str, isB_int_tuple, isB_int_list, isB_bool_int, isB_bool_bool, isB_bool_str, isB_bool_tuple, isB_bool_list, isB_str_int, isB_str_bool, isB_str_str, isB_str_tuple, isB_str_list, isB_tuple_int, isB_tuple_bool, isB_tuple_str, isB_tuple_tuple, isB_tuple_list, isB_list_int, ty_dic, isB_dict_int, isB_dict_bool, isB_dict_str, isB_dict_tuple, isB_dict_list, mkL_0, isB_list_bool, isB_list_str, isB_list_tuple, isB_list_list, isB_NoneType_int, isB_NoneType_bool, isB_NoneType_str, isB_NoneType_tuple, isB_NoneType_list, Prod.exists, Prod.forall, forall_exists_index, and_imp, forall_eq, forall_eq', Bool.false_xor, Bool.true_xor, List.cons.injEq, Nat.reduceAdd, Nat.reduceSub, Nat.reduceLT, Nat.lt_add_one, Nat.zero_lt_succ, Nat.zero_add,   Bool.not_eq_true', Bool.not_eq_false', Bool.not_true, Bool.not_false, decide_eq_false_iff_not, decide_eq_true_eq, if_true, if_false, Bool.false_eq_true, Bool.true_eq_false, reduceIte])
local macro_rules | `(tactic| walk_at "ds") => `(tactic| repeat refine And.intro (by first | with_reducible rfl | decide | exact mulok_r (by decide) | exact mulok_l (by decide) | exact szL (by decide)) ?_)
def R_is_whole : Ctr := Ctr.fn (fun d : D => [d]) (fun d => d.ty.isSome = true) fun d => O.t d.whole
noncomputable def w_is_whole : WS :=
  sRet (wAndV (wA (wCons (wV 0) (wCons (wC (.obj (.ty "int"))) wNil)) (uA2 (uIsi "int"))) (wNotV (wA (wCons (wV 0) (wCons (wC (.obj (.ty "bool"))) wNil)) (uA2 (uIsi "bool")))))

abbrev N_is_whole : List Str := ["thing"]

theorem p_is_whole : Keeps N_is_whole w_is_whole R_is_whole := by
  rintro ds Q E ⟨d, rfl, ht, q⟩
  unfold w_is_whole
  cases d <;> first | cases ht | skip
  all_goals (walk_at "pl"; exact q)
noncomputable def R_number : Ctr := Ctr.ex (α := FK × Int × Int) (fun a => [.kd (.b a.1.k), .int a.2.1, .int a.2.2]) (fun a => Sz 1000000 a.2.1 ∧ Sz 8990 a.2.2) (fun a => if a.1.ofInt a.2.2 = 0 then some .number else none) (fun a => .im (a.1.enc (a.1.ofInt a.2.1 / a.1.ofInt a.2.2)))
/-- two sizes that fit -/
def FK.ok2o (N : FK) (x y : N.T) : Prop := ∃ n m, N.sz n x ∧ N.sz m y ∧ 0 < n ∧ 0 < m ∧ n + m ≤ 8980
/-- top and bottom apart -/
def FK.szq : (N : FK) → Nat → Nat → N.T → Prop
  | .fr, a, b, q => Sz a q.num ∧ Sz b q.den
  | .rs _, _, _, _ => True
def FK.ok2 (N : FK) (x y : N.T) : Prop := ∃ n m, N.szq 100000 n x ∧ N.szq 100000 m y ∧ 0 < n ∧ 0 < m ∧ n + m ≤ 8980
theorem FK.szq_of (N : FK) {n a b : Nat} {x : N.T} (h : N.sz n x) (ha : n ≤ a) (hb : n ≤ b) : N.szq a b x := by
  cases N with
  | fr => exact ⟨h.1.mono ha, h.2.mono hb⟩
  | rs P => trivial
theorem FK.szq_mono (N : FK) {a b a' b' : Nat} {x : N.T} (h : N.szq a b x) (ha : a ≤ a') (hb : b ≤ b') : N.szq a' b' x := by
  cases N with
  | fr => exact ⟨h.1.mono ha, h.2.mono hb⟩
  | rs P => trivial
theorem FK.ok2_of (N : FK) {x y : N.T} {n m : Nat} (sx : N.sz n x) (sy : N.sz m y) (h : n + m ≤ 8000) : N.ok2 x y := ⟨n + 1, m + 1, N.szq_of sx (by omega) (by omega), N.szq_of sy (by omega) (by omega), by omega, by omega, by omega⟩
theorem FK.ok2_q (N : FK) {x y : N.T} {n m : Nat} (sx : N.szq 100000 n x) (sy : N.szq 100000 m y) (h : n + m ≤ 8000) : N.ok2 x y := ⟨n + 1, m + 1, N.szq_mono sx (by omega) (by omega), N.szq_mono sy (by omega) (by omega), by omega, by omega, by omega⟩
noncomputable def R_back : Ctr := Ctr.ex (α := (N : FK) × N.T) (fun a => [.kd (.b a.1.k), a.1.enc a.2]) (fun a => a.1.sz 8990 a.2) (fun a => if a.2 = 0 then some .number else none) (fun a => .im (a.1.enc a.2⁻¹))
noncomputable def R_times : Ctr := Ctr.ex (α := (N : FK) × N.T × N.T) (fun a => [.kd (.b a.1.k), a.1.enc a.2.1, a.1.enc a.2.2]) (fun a => a.1.ok2 a.2.1 a.2.2) (fun a => none) (fun a => .im (a.1.enc (a.2.1 * a.2.2)))
noncomputable def R_over : Ctr := Ctr.ex (α := (N : FK) × N.T × N.T) (fun a => [.kd (.b a.1.k), a.1.enc a.2.1, a.1.enc a.2.2]) (fun a => a.1.ok2o a.2.1 a.2.2) (fun a => if a.2.2 = 0 then some .number else none) (fun a => .im (a.1.enc (a.2.1 / a.2.2)))
noncomputable def wi_Rests_init : WS :=
  sIf (wOr (wNot (wT (wCall (wCons (wV 1) (wNil)) R_is_whole))) (wOr (wT (w2 (wV 1) (wC (.int 1000000)) uGe)) (wNot (wT (wCall (wCons (wV 1) (wNil)) R_is_prime)))))
  (sRaise .kind)
  (sNext)

noncomputable def w_Fractions_number : WS :=
  sSeq (sIf (wT (w2 (wV 2) (wC (.int 0)) (uEq false)))
  (sRaise .number)
  (sNext))
  (sSeq (sAsg (wCall (wCons (wV 1) (wCons (wV 2) (wNil))) R_divisor) (gF 3))
  (sSeq (sIf (wT (w2 (wV 2) (wC (.int 0)) uLt))
  (sAsg (w1 (wV 3) uNeg) (gF 3))
  (sNext))
  (sRet (wTp (wCons (w2 (wV 1) (wV 3) uDiv) (wCons (w2 (wV 2) (wV 3) uDiv) (wNil)))))))

abbrev N_Fractions_number : List Str := ["self", "top", "bottom", "by"]

noncomputable def w_Fractions_times : WS :=
  sRet (wMeth1 Kd.isFr (wV 0) (wCons (w2 (w2 (wV 1) (wC (.int 0)) uIx) (w2 (wV 2) (wC (.int 0)) uIx) uMul) (wCons (w2 (w2 (wV 1) (wC (.int 1)) uIx) (w2 (wV 2) (wC (.int 1)) uIx) uMul) (wNil))) R_number [])

abbrev N_Fractions_times : List Str := ["self", "one", "other"]

noncomputable def w_Fractions_back : WS :=
  sRet (wMeth1 Kd.isFr (wV 0) (wCons (w2 (wV 1) (wC (.int 1)) uIx) (wCons (w2 (wV 1) (wC (.int 0)) uIx) (wNil))) R_number [])

abbrev N_Fractions_back : List Str := ["self", "one"]

noncomputable def w_Rests_number : WS :=
  sSeq (sIf (wT (w2 (wV 2) (wC (.int 1)) (uEq false)))
  (sRet (w2 (wV 1) (w1 (wV 0) uPrime) uMod))
  (sNext))
  (sRet (w2 (w2 (wV 1) (wMeth1 Kd.isRs (wV 0) (wCons (w2 (wV 2) (w1 (wV 0) uPrime) uMod) (wNil)) R_back []) uMul) (w1 (wV 0) uPrime) uMod))

abbrev N_Rests_number : List Str := ["self", "top", "bottom"]

noncomputable def w_Rests_times : WS :=
  sRet (w2 (w2 (wV 1) (wV 2) uMul) (w1 (wV 0) uPrime) uMod)

abbrev N_Rests_times : List Str := ["self", "one", "other"]

noncomputable def w_Rests_back : WS :=
  sSeq (sIf (wT (w2 (wV 1) (wC (.int 0)) (uEq false)))
  (sRaise .number)
  (sNext))
  (sRet (w2 (w2 (wCall (wCons (wV 1) (wCons (w1 (wV 0) uPrime) (wNil))) R_shares) (wC (.int 1)) uIx) (w1 (wV 0) uPrime) uMod))

abbrev N_Rests_back : List Str := ["self", "one"]

noncomputable def w_Kind_over : WS :=
  sRet (wMeth false (wV 0) (wCons (wV 1) (wCons (wMeth false (wV 0) (wCons (wV 2) (wNil)) R_back []) (wNil))) R_times [])

abbrev N_Kind_over : List Str := ["self", "one", "other"]

theorem p_Fractions_number : Keeps N_Fractions_number w_Fractions_number (R_number.on Kd.isFr) := by
  rintro ds Q E ⟨⟨k, r, e, hk⟩, ⟨N, t, b⟩, rfl, ⟨st, sb⟩, q⟩
  simp only at st sb q
  cases N with
  | rs P => cases e; cases hk
  | fr =>
    unfold w_Fractions_number R_divisor
    walk_at "pl"
    have z : FK.ofInt .fr b = 0 ↔ b = 0 := by
      show (b : Rat) = 0 ↔ b = 0
      exact ⟨fun h => by exact_mod_cast h, fun h => by rw [h]; rfl⟩
    split
    · rename_i hb
      rw [if_pos (z.mpr hb)] at q
      exact q
    · rename_i hb
      rw [if_neg (fun h => hb (z.mp h))] at q
      have q : Q (.im (.tup [.int ((t : Rat) / (b : Rat)).num, .int (((t : Rat) / (b : Rat)).den : Int)])) := q
      obtain ⟨h1, h2, h3⟩ := rat_by (t := t) (b := b) hb _ rfl
      have sg : Sz 8990 (Int.gcd t b : Int) := sb.le (by
        have : Int.gcd t b ∣ b.natAbs := Int.gcd_dvd_natAbs_right ..
        exact Nat.le_of_dvd (by omega) this)
      rw [h1, h2] at q
      split
      · rename_i hl
        rw [if_pos hl] at q h3
        have s2 := divok (sg.neg) (by decide) (by decide)
        exact ⟨h3, s2, h3, s2, szL (by decide), q⟩
      · rename_i hl
        rw [if_neg hl] at q h3
        have s2 := divok sg (by decide) (by decide)
        exact ⟨h3, s2, h3, s2, szL (by decide), q⟩
theorem mulok_of {n m : Nat} {x y : Int} (hx : Sz n x) (hy : Sz m y) (hn : 0 < n) (hm : 0 < m) (h : n + m ≤ 8980) : IntMulOk x y := mulok hx hy hn hm (by omega)
theorem p_Fractions_times : Keeps N_Fractions_times w_Fractions_times (R_times.on Kd.isFr) := by
  rintro ds Q E ⟨⟨k, r, e, hk⟩, ⟨N, x, y⟩, rfl, ⟨n, m, sx, sy, hn, hm, hnm⟩, q⟩
  cases N with
  | rs P => cases e; cases hk
  | fr =>
    have q : Q (.im (FK.enc .fr ((x : Rat) * y))) := q
    obtain ⟨x1, x2⟩ := sx
    obtain ⟨y1, y2⟩ := sy
    unfold w_Fractions_times R_number
    simp only [FK.enc]
    walk_at "pl"
    have d0 : ((x : Rat).den * (y : Rat).den : Int) ≠ 0 := by
      have := den_pos x
      have := den_pos y
      exact Int.ne_of_gt (Int.mul_pos ‹_› ‹_›)
    refine ⟨mulok x1 y1 (by decide) (by decide) (by decide), mulok_of x2 y2 hn hm hnm, .fr, rfl, (x1.mul y1).mono (by decide), (x2.mul y2).mono (by omega), ?_⟩
    rw [if_neg (fun h => d0 (by exact_mod_cast (show (((x : Rat).den * (y : Rat).den : Int) : Rat) = ((0 : Int) : Rat) from h)))]
    rw [rat_mul] at q
    exact q
theorem p_Fractions_back : Keeps N_Fractions_back w_Fractions_back (R_back.on Kd.isFr) := by
  rintro ds Q E ⟨⟨k, r, e, hk⟩, ⟨N, x⟩, rfl, sx, q⟩
  cases N with
  | rs P => cases e; cases hk
  | fr =>
    obtain ⟨x1, x2⟩ := sx
    have z : (x : Rat).num = 0 ↔ (x : Rat) = 0 := Rat.num_eq_zero
    unfold w_Fractions_back R_number
    simp only [FK.enc]
    walk_at "pl"
    refine ⟨.fr, rfl, x2.mono (by decide), x1, ?_⟩
    have zi : FK.ofInt .fr (x : Rat).num = 0 ↔ (x : Rat).num = 0 := by
      show (((x : Rat).num : Rat)) = 0 ↔ _
      exact ⟨fun h => by exact_mod_cast h, fun h => by rw [h]; rfl⟩
    simp only at q
    by_cases h : (x : Rat) = 0
    · rw [if_pos h] at q
      rw [if_pos (zi.mpr (z.mpr h))]
      exact q
    · rw [if_neg h] at q
      rw [if_neg (fun h' => h (z.mp (zi.mp h')))]
      have q : Q (.im (FK.enc .fr ((x : Rat)⁻¹))) := q
      rw [rat_inv] at q
      exact q
theorem p_Rests_times : Keeps N_Rests_times w_Rests_times (R_times.on Kd.isRs) := by
  rintro ds Q E ⟨⟨k, r, e, hk⟩, ⟨N, x, y⟩, rfl, _, q⟩
  cases N with
  | fr => cases e; cases hk
  | rs P =>
    unfold w_Rests_times
    simp only [FK.enc]
    walk_at "pl"
    have := P.two
    have := P.lt
    have sx : ∀ x : Zp P, Sz 20 (x.val : Int) := fun x => by
      have := Zp.val_lt x
      unfold Sz
      omega
    refine ⟨mulok (sx x) (sx y) (by decide) (by decide) (by decide), by omega, ?_⟩
    have q : Q (O.i (((x * y : Zp P)).val : Int)) := q
    rw [Zp.val_mul, ← fmod_pos (by omega)] at q
    exact q
theorem Pr.sz (P : Pr) : Sz 20 P.p := by
  have := P.two
  have := P.lt
  unfold Sz
  omega
theorem Zp.sz {P : Pr} (x : Zp P) : Sz 20 (x.val : Int) := by
  have := Zp.val_lt x
  have := P.lt
  unfold Sz
  omega
theorem Zp.inv_of {P : Pr} {x : Zp P} {u v : Int} (h : (x.val : Int) * u + P.p * v = 1) : x⁻¹ = FK.ofInt (.rs P) u := by
  refine Zp.inv_uniq (Zp.ext_int ?_)
  rw [Zp.val_mul, Zp.ofInt_val, Zp.val_one, Int.mul_emod, Int.emod_emod, ← Int.mul_emod]
  have : (x.val : Int) * u = 1 - P.p * v := by omega
  rw [this, Int.sub_mul_emod_self_left, Int.emod_eq_of_lt (by decide) (by have := P.two; omega)]
theorem p_Rests_back : Keeps N_Rests_back w_Rests_back (R_back.on Kd.isRs) := by
  rintro ds Q E ⟨⟨k, r, e, hk⟩, ⟨N, x⟩, rfl, _, q⟩
  cases N with
  | fr => cases e; cases hk
  | rs P =>
    have z : ((x : Zp P).val : Int) = 0 ↔ (x : Zp P) = 0 := ⟨fun h => Zp.ext_int h, fun h => by rw [h]; rfl⟩
    unfold w_Rests_back R_shares
    simp only [FK.enc]
    walk_at "pl"
    simp only at q
    split
    · rename_i h
      rw [if_pos (z.mp h)] at q
      exact q
    · rename_i h
      rw [if_neg (fun h' => h (z.mpr h'))] at q
      have q : Q (O.i (((x : Zp P)⁻¹).val : Int)) := q
      have p2 := P.two
      have pl := P.lt
      have g : Int.gcd ((x : Zp P).val : Int) P.p = 1 := P.gcd (by rw [Zp.emod_val]; exact h)
      refine ⟨(Zp.sz x).mono (by decide), P.sz.mono (by decide), fun u v he _ _ => ⟨by omega, ?_⟩⟩
      rw [g] at he
      rw [Zp.inv_of (u := u) (v := v) (by have : ((1 : Nat) : Int) = 1 := rfl
                                          omega), Zp.val_ofInt] at q
      exact q
theorem p_Rests_number : Keeps N_Rests_number w_Rests_number (R_number.on Kd.isRs) := by
  rintro ds Q E ⟨⟨k, r, e, hk⟩, ⟨N, t, b⟩, rfl, ⟨st, sb⟩, q⟩
  simp only at st sb q
  cases N with
  | fr => cases e; cases hk
  | rs P =>
    have p2 := P.two
    have pl := P.lt
    unfold w_Rests_number R_back
    simp only [FK.k]
    walk_at "pl"
    split
    · rename_i h
      subst h
      have n1 : FK.ofInt (.rs P) 1 ≠ 0 := by rw [FK.ofInt_one]; exact fun h => Zp.zo h.symm
      rw [if_neg n1] at q
      refine ⟨by omega, ?_⟩
      have e1 : FK.ofInt (.rs P) t / FK.ofInt (.rs P) 1 = FK.ofInt (.rs P) t := by
        rw [FK.ofInt_one]
        grind
      rw [e1] at q
      have q : Q (O.i (((FK.ofInt (.rs P) t : Zp P)).val : Int)) := q
      rw [Zp.val_ofInt] at q
      exact q
    · rename_i h
      refine ⟨by omega, .rs P, rfl, FK.ofInt (.rs P) b, ?_, trivial, ?_⟩
      · show D.int _ = D.int _
        rw [Zp.val_ofInt]
      by_cases hz : FK.ofInt (.rs P) b = 0
      · rw [if_pos hz] at q ⊢
        exact q
      · rw [if_neg hz] at q ⊢
        refine ⟨_, rfl, ?_, by omega, ?_⟩
        · exact mulok st (Zp.sz _) (by decide) (by decide) (by decide)
        have q : Q (O.i (((FK.ofInt (.rs P) t * (FK.ofInt (.rs P) b)⁻¹ : Zp P)).val : Int)) := q
        rw [← Zp.ofInt_of ((FK.ofInt (.rs P) b)⁻¹ : Zp P), ← FK.ofInt_mul (.rs P), Zp.val_ofInt] at q
        exact q
theorem p_Kind_over : Keeps N_Kind_over w_Kind_over R_over := by
  rintro ds Q E ⟨⟨N, x, y⟩, rfl, ⟨n, m, sx, sy, hn, hm, hnm⟩, q⟩
  simp only at sx sy q
  unfold w_Kind_over R_back R_times
  walk_at "pl"
  refine ⟨N, rfl, y, rfl, N.sz_mono sy (by omega), ?_⟩
  by_cases h : y = 0
  · rw [if_pos h] at q ⊢
    exact q
  · rw [if_neg h] at q ⊢
    refine ⟨N, rfl, x, rfl, y⁻¹, rfl, ⟨n, m, N.szq_of sx (by omega) (Nat.le_refl _), N.szq_of (N.sz_inv sy h) (by omega) (Nat.le_refl _), hn, hm, hnm⟩, ?_⟩
    have e : x / y = x * y⁻¹ := by grind
    rw [← e]
    exact q
theorem p_init : KeepsInit wi_Rests_init := by
  intro x d D' ht hg hb
  unfold wi_Rests_init R_is_whole R_is_prime
  have nb : ∀ d', (∀ n, d' ≠ D.int n) → d' = d → D'.ex [some (O.im (D.obj x)), some (O.im d)] .kind := fun d' h e => hb fun ⟨p, e', _⟩ => h p (e.trans e')
  cases d with
  | int n =>
    walk_at "pl"
    split
    · rename_i h
      exact hb fun ⟨p, e, h1, _⟩ => by cases e; omega
    · rename_i h
      refine ⟨by have e64 : (2 : Int) ^ 64 = 18446744073709551616 := by decide
                 omega, ?_⟩
      by_cases hp : IsP n
      · rw [if_neg (by rw [prB_of hp]; decide)]
        exact hg n rfl (by omega) hp
      · rw [if_pos (prB_no hp)]
        exact hb fun ⟨p, e, _, h2⟩ => by cases e; exact hp h2
  | _ =>
    first
      | (cases ht; done)
      | (walk_at "pl"
         exact nb _ (by intro n e; cases e) rfl)
end PL

/-! D4 -/
set_option Elab.async false
set_option linter.all false
set_option maxRecDepth 100000
set_option maxHeartbeats 4000000
/-! D4: the laws' own divisors and primes. -/
namespace PL
open PySem PySem.Spec L2
local macro_rules | `(tactic| walk_at "pl") => `(tactic| simp (config := { maxSteps := 1000000 }) only [sSeq, sIf, sRet, sRetV, sRetN, sAsg, sPar, sPar3, sAug, sNext, sExpr, sBreak, sCont, W1.pure, wV, wC, w1, w2, wT, wAnd, wOr, wNot, wAndV, wOrV, wNotV, wIf, wCons, wNil, wA, wL, wTp, wCall, uA1, uA2, uI, uIB, uIU, uEq_int, uEq_str, uEq_bl, uIsi, uLen, uInt, uIx, uCat, uLst, wSl, wItA, wR1, wR2, wZip, wEnum, wRev, wON, wOS, gF, gN, bodyK, startS,   nb_im, nb_ls, nb_tp, nb_bo, vw_im, vw_ls, vw_tp, er_im, er_bo, er_ls, er_tp, erL_nil, erL_cons, its_iml, its_imt, its_scr, its_bol, its_bot, its_ls, its_tp, trk_iml, trk_imt, trk_bot, trk_tp, isL_imt, isL_bot, isL_tp,  trk_bol, trk_ls, isL_iml, isL_scr, isL_bol, isL_ls, fz_im, fz_bo, fz_ls, fz_tp, ty_int, ty_bl, ty_str, ty_non, ty_tup, ty_lst, len_lst, len_tup, len_scr, all_nil, all_cons, Bool.and_self, true_or,   List.map_cons, List.map_nil, List.cons_append, List.nil_append, List.append_nil, List.length_cons, List.length_nil, List.replicate, List.getElem?_cons_zero, List.getElem?_cons_succ, List.set_cons_zero, List.set_cons_succ, List.set_nil, Option.some.injEq, exists_eq_left', exists_eq_left, exists_eq_right, exists_eq', exists_and_left, exists_and_right, and_true, true_and, and_assoc, O.im.injEq, D.int.injEq, D.bl.injEq, D.tup.injEq, D.lst.injEq, D.kd.injEq, D.scr.injEq, D.str.injEq, Ctr.fn, Ctr.rel, sFor_run, wLC_run, all_mem_nil, sRaise, uPrime, wMeth, wMeth1, sStore, sAppend, sExtend, k_fr, k_rs, wMkR, uIsX, uIsXT, sTry, sExpr, tidy_im, flat_int, flat_bl, flat_tup, flat_non, flat_str, flat_kd, flatL_nil, flatL_cons, isPo_b, Ctr.ex, Ctr.on, isFr_fr, isFr_rs, isRs_fr, isRs_rs, sigma_ex, D.kd.injEq, Kd.b.injEq, BK.rs.injEq, reduceCtorEq, false_and, and_false, exists_false, false_implies, true_implies, forall_const, List.mem_cons, List.not_mem_nil, or_false, isT_exn, isT_non, xT_x, xT_ve, xT_fe, n_kind, n_number, n_fit, n_turn, n_inverse, n_text, n_name, n_row, okS_exn, okS_non, decide_true, decide_false, eq_self, wCh, gLt, gLe, gGt, gGe, uEq_enc, mkT_1, mkT_2, mkT_3, mkT_4, mkBo_enc, mkBo_int, mkBo_bl, mkBo_str, mkBo_non, mkBo_kd, mkBo_lst, flat_enc, O.ls.injEq, mkBo_fr, false_or, isT_kd, okS_kd, flat_dic, kT_1, kT_2, kT_3, kT_4, kT_5, kT_6,  tidy_i, tidy_t, tidy_n, tidy_kd, or_true, Bool.and_true,  mkL_nb, all_map_i, all_map_im, cutA_map, cutA_63, take_map', drop_map',  its_lsi, erL_append, erL_mapi, map_im_int, List.map_append, List.all_append, List.length_map, List.length_append,  unr_cons, unr_nil, whole_int, Option.isSome_some,  all_mem_cons, atI_0, atI_1, atI_2, atI_3, atI_4, isB_int_int, isB_int_bool, isB_int_str, isB_int_tuple, isB_int_list, isB_bool_int, isB_bool_bool, isB_bool_str, isB_bool_tuple, isB_bool_list, isB_str_int, isB_str_bool, isB_str_str, isB_str_tuple, isB_str_list, isB_tuple_int, isB_tuple_bool, isB_tuple_str, isB_tuple_tuple, isB_tuple_list, isB_list_int, ty_dic, isB_dict_int, isB_dict_bool, isB_dict_str, isB_dict_tuple, isB_dict_list, mkL_0, isB_list_bool, isB_list_str, isB_list_tuple, isB_list_list, isB_NoneType_int, isB_NoneType_bool, isB_NoneType_str, isB_NoneType_tuple, isB_NoneType_list, Prod.exists, Prod.forall, forall_exists_index, and_imp, forall_eq, forall_eq', Bool.false_xor, Bool.true_xor, List.cons.injEq, Nat.reduceAdd, Nat.reduceSub, Nat.reduceLT, Nat.lt_add_one, Nat.zero_lt_succ, Nat.zero_add,   Bool.not_eq_true', Bool.not_eq_false', Bool.not_true, Bool.not_false, decide_eq_false_iff_not, decide_eq_true_eq, if_true, if_false, Bool.false_eq_true, Bool.true_eq_false, reduceIte])
local macro_rules | `(tactic| walk_at "ds") => `(tactic| repeat refine And.intro (by first | with_reducible rfl | decide | exact mulok_r (by decide) | exact mulok_l (by decide) | exact szL (by decide)) ?_)
def R_law_divisor : Ctr := Ctr.fn (fun p : Int × Int => [.int p.1, .int p.2]) (fun _ => True) fun p => O.i (Int.gcd p.1 p.2)
noncomputable def R_law_is_prime : Ctr := Ctr.fn (fun n : Int => [.int n]) (fun n => n < 2 ^ 64) fun n => O.t (prB n)
noncomputable def wt_law_divisor_1 : W1 Bool :=
  wT (w2 (wV 1) (wC (.int 0)) (uEq true))

noncomputable def wb_law_divisor_2 : WS :=
  sPar 0 1 (wCons (wV 1) (wCons (w2 (wV 0) (wV 1) uMod) (wNil)))

noncomputable def w_law_divisor : WS :=
  sSeq (sWhile wt_law_divisor_1 wb_law_divisor_2)
  (sRet (wA (wCons (wV 0) (wNil)) (uA1 uAbs)))

abbrev N_law_divisor : List Str := ["_law_one", "_law_other"]

noncomputable def wt_law_is_prime_1 : W1 Bool :=
  wT (w2 (w2 (wV 1) (wV 1) uMul) (wV 0) uLe)

noncomputable def wb_law_is_prime_2 : WS :=
  sSeq (sIf (wT (w2 (w2 (wV 0) (wV 1) uMod) (wC (.int 0)) (uEq false)))
  (sRet (wC (.bl false)))
  (sNext))
  (sAsg (w2 (wV 1) (wC (.int 1)) uAdd) (gF 1))

noncomputable def w_law_is_prime : WS :=
  sSeq (sAsg (wC (.int 2)) (gF 1))
  (sSeq (sWhile wt_law_is_prime_1 wb_law_is_prime_2)
  (sRet (w2 (wV 0) (wC (.int 1)) uGt)))

abbrev N_law_is_prime : List Str := ["_law_number_here", "_law_by"]

noncomputable def wt_law_prime_1 : W1 Bool :=
  wNot (wT (wCall (wCons (wV 0) (wNil)) R_law_is_prime))

noncomputable def wb_law_prime_2 : WS :=
  sAsg (w2 (wV 0) (wC (.int 1)) uAdd) (gF 0)

noncomputable def w_law_prime : WS :=
  sSeq (sWhile wt_law_prime_1 wb_law_prime_2)
  (sRetV 0)

abbrev N_law_prime : List Str := ["_law_number_here"]

theorem p_law_divisor : Keeps N_law_divisor w_law_divisor R_law_divisor := by
  rintro ds Q E ⟨⟨a, b⟩, rfl, _, q⟩
  unfold w_law_divisor
  simp only [sSeq]
  refine ⟨fun m S => ∃ x y : Int, S = [some (O.i x), some (O.i y)] ∧ m = y.natAbs ∧ Int.gcd x y = Int.gcd a b, ⟨_, a, b, rfl, rfl, rfl⟩, ?_⟩
  rintro m S ⟨x, y, rfl, rfl, h⟩
  unfold wt_law_divisor_1 wb_law_divisor_2
  walk_at "pl"
  split
  · rename_i hy
    exact ⟨hy, _, fmod_lt hy, rfl, by rw [gcd_fmod]; exact h⟩
  · rename_i hy
    have : y = 0 := Classical.not_not.mp hy
    subst this
    have e : (if x < 0 then -x else x) = (Int.gcd a b : Int) := by
      rw [← h, Int.gcd_zero_right]
      split <;> omega
    rw [e]
    exact q
theorem p_law_is_prime : Keeps N_law_is_prime w_law_is_prime R_law_is_prime := by
  rintro ds Q E ⟨n, rfl, hn, q⟩
  have q : Q (O.t (prB n)) := q
  have e64 : (2 : Int) ^ 64 = 18446744073709551616 := by decide
  rw [e64] at hn
  unfold w_law_is_prime
  walk_at "pl"
  refine ⟨fun m S => ∃ b : Int, S = [some (O.i n), some (O.i b)] ∧ m = (n + 1 - b).toNat ∧ 2 ≤ b ∧ (b ≤ n + 1 ∨ b = 2) ∧ ∀ m : Int, 2 ≤ m → m < b → ¬ m ∣ n, ⟨_, 2, rfl, rfl, by omega, by omega, fun m h1 h2 => by omega⟩, ?_⟩
  rintro m S ⟨b, rfl, rfl, b2, bn, hb⟩
  unfold wt_law_is_prime_1 wb_law_is_prime_2
  walk_at "pl"
  have sb : Sz 65 b := Sz.of_nonneg (by omega) (by have : (2 : Int) ^ 65 = 36893488147419103232 := by decide
                                                   omega)
  refine ⟨mulok sb sb (by decide) (by decide) (by decide), ?_⟩
  split
  · rename_i hle
    have hbn := sq_bound (by omega) hle
    refine ⟨by omega, ?_⟩
    split
    · rename_i hz
      rw [prB_no (notP_of b2 hle hz)] at q
      exact q
    · rename_i hz
      refine ⟨_, ?_, rfl, by omega, by omega, fun m h1 h2 => ?_⟩
      · omega
      · rcases Int.lt_or_le m b with z | z
        · exact hb m h1 z
        · have : m = b := by omega
          subst this
          exact fun z => hz (Int.fmod_eq_zero_of_dvd z)
  · rename_i hle
    have e : prB n = decide (1 < n) := by
      rcases Int.lt_or_le 1 n with z | z
      · rw [decide_eq_true z]
        exact prB_of (isP_end (by omega) (by omega) (by omega) hb)
      · rw [decide_eq_false (by omega)]
        exact prB_no fun h => by have := h.1; omega
    rw [e] at q
    exact q
theorem isP_all {n : Int} (h2 : 2 ≤ n) (k : Nat) (hk : n < k * k) (h : (List.range k).all (fun m => decide (m < 2) || decide (n % (m : Int) ≠ 0)) = true) : IsP n := by
  refine ⟨h2, fun m h2 hm hd => ?_⟩
  obtain ⟨j, rfl⟩ := Int.eq_ofNat_of_zero_le (show 0 ≤ m by omega)
  have hj : j < k := by
    rcases Nat.lt_or_ge j k with z | z
    · exact z
    · have : k * k ≤ j * j := Nat.mul_le_mul z z
      have : (k : Int) * k ≤ j * j := by exact_mod_cast this
      omega
  have z := List.all_eq_true.mp h j (List.mem_range.mpr hj)
  rw [Bool.or_eq_true, decide_eq_true_eq, decide_eq_true_eq] at z
  rcases z with z | z
  · omega
  · exact z (Int.emod_eq_zero_of_dvd hd)
theorem p999983 : IsP 999983 := isP_all (by decide) 1000 (by decide) (by decide +kernel)
theorem p11 : IsP 11 := isP_all (by decide) 4 (by decide) (by decide +kernel)
theorem p13 : IsP 13 := isP_all (by decide) 4 (by decide) (by decide +kernel)
theorem p2 : IsP 2 := isP_all (by decide) 2 (by decide) (by decide +kernel)
/-- the first prime from n on -/
def R_law_prime : Ctr := Ctr.rel (fun n : Int => [.int n]) (fun n => 2 ≤ n ∧ n ≤ 999983) (fun n (P : Pr) => n ≤ P.p ∧ P.p ≤ 999983 ∧ (n ≤ 13 → P.p ≤ 13)) (fun _ P => O.i P.p)
theorem p_law_prime : Keeps N_law_prime w_law_prime R_law_prime := by
  rintro ds Q E ⟨n, rfl, ⟨n2, nl⟩, q⟩
  unfold w_law_prime
  walk_at "pl"
  refine ⟨fun m S => ∃ b : Int, S = [some (O.i b)] ∧ m = (999983 - b).toNat ∧ n ≤ b ∧ b ≤ 999983 ∧ (n ≤ 13 → b ≤ 13), ⟨_, n, rfl, rfl, by omega, by omega, by omega⟩, ?_⟩
  rintro m S ⟨b, rfl, rfl, nb, bl, b13⟩
  unfold wt_law_prime_1 wb_law_prime_2 R_law_is_prime
  walk_at "pl"
  have e64 : (2 : Int) ^ 64 = 18446744073709551616 := by decide
  refine ⟨by omega, ?_⟩
  by_cases h : IsP b
  · rw [prB_of h]
    rw [if_neg (by decide)]
    exact q ⟨b, h, by omega⟩ ⟨nb, bl, b13⟩
  · rw [prB_no h]
    rw [if_pos (by decide)]
    have : b ≠ 999983 := fun z => h (z ▸ p999983)
    have : b ≠ 13 := fun z => h (z ▸ p13)
    exact ⟨_, by omega, rfl, by omega, by omega, by omega⟩
end PL

/-! D5 -/
set_option Elab.async false
set_option linter.all false
set_option maxRecDepth 100000
set_option maxHeartbeats 4000000
/-! D5: sums, differences, noughts, what is a number. -/
namespace PL
open PySem PySem.Spec L2
local macro_rules | `(tactic| walk_at "pl") => `(tactic| simp (config := { maxSteps := 1000000 }) only [sSeq, sIf, sRet, sRetV, sRetN, sAsg, sPar, sPar3, sAug, sNext, sExpr, sBreak, sCont, W1.pure, wV, wC, w1, w2, wT, wAnd, wOr, wNot, wAndV, wOrV, wNotV, wIf, wCons, wNil, wA, wL, wTp, wCall, uA1, uA2, uI, uIB, uIU, uEq_int, uEq_str, uEq_bl, uIsi, uLen, uInt, uIx, uCat, uLst, wSl, wItA, wR1, wR2, wZip, wEnum, wRev, wON, wOS, gF, gN, bodyK, startS,   nb_im, nb_ls, nb_tp, nb_bo, vw_im, vw_ls, vw_tp, er_im, er_bo, er_ls, er_tp, erL_nil, erL_cons, its_iml, its_imt, its_scr, its_bol, its_bot, its_ls, its_tp, trk_iml, trk_imt, trk_bot, trk_tp, isL_imt, isL_bot, isL_tp,  trk_bol, trk_ls, isL_iml, isL_scr, isL_bol, isL_ls, fz_im, fz_bo, fz_ls, fz_tp, ty_int, ty_bl, ty_str, ty_non, ty_tup, ty_lst, len_lst, len_tup, len_scr, all_nil, all_cons, Bool.and_self, true_or,   List.map_cons, List.map_nil, List.cons_append, List.nil_append, List.append_nil, List.length_cons, List.length_nil, List.replicate, List.getElem?_cons_zero, List.getElem?_cons_succ, List.set_cons_zero, List.set_cons_succ, List.set_nil, Option.some.injEq, exists_eq_left', exists_eq_left, exists_eq_right, exists_eq', exists_and_left, exists_and_right, and_true, true_and, and_assoc, O.im.injEq, D.int.injEq, D.bl.injEq, D.tup.injEq, D.lst.injEq, D.kd.injEq, D.scr.injEq, D.str.injEq, Ctr.fn, Ctr.rel, sFor_run, wLC_run, all_mem_nil, sRaise, uPrime, wMeth, wMeth1, sStore, sAppend, sExtend, k_fr, k_rs, wMkR, uIsX, uIsXT, sTry, sExpr, tidy_im, flat_int, flat_bl, flat_tup, flat_non, flat_str, flat_kd, flatL_nil, flatL_cons, isPo_b, Ctr.ex, Ctr.on, isFr_fr, isFr_rs, isRs_fr, isRs_rs, sigma_ex, D.kd.injEq, Kd.b.injEq, BK.rs.injEq, reduceCtorEq, false_and, and_false, exists_false, false_implies, true_implies, forall_const, List.mem_cons, List.not_mem_nil, or_false, isT_exn, isT_non, xT_x, xT_ve, xT_fe, n_kind, n_number, n_fit, n_turn, n_inverse, n_text, n_name, n_row, okS_exn, okS_non, decide_true, decide_false, eq_self, wCh, gLt, gLe, gGt, gGe, uEq_enc, mkT_1, mkT_2, mkT_3, mkT_4, mkBo_enc, mkBo_int, mkBo_bl, mkBo_str, mkBo_non, mkBo_kd, mkBo_lst, flat_enc, O.ls.injEq, mkBo_fr, false_or, isT_kd, okS_kd, flat_dic, kT_1, kT_2, kT_3, kT_4, kT_5, kT_6,  tidy_i, tidy_t, tidy_n, tidy_kd, or_true, Bool.and_true,  mkL_nb, all_map_i, all_map_im, cutA_map, cutA_63, take_map', drop_map',  its_lsi, erL_append, erL_mapi, map_im_int, List.map_append, List.all_append, List.length_map, List.length_append,  unr_cons, unr_nil, whole_int, Option.isSome_some,  all_mem_cons, atI_0, atI_1, atI_2, atI_3, atI_4, isB_int_int, isB_int_bool, isB_int_str, isB_int_tuple, isB_int_list, isB_bool_int, isB_bool_bool, isB_bool_str, isB_bool_tuple, isB_bool_list, isB_str_int, isB_str_bool, isB_str_str, isB_str_tuple, isB_str_list, isB_tuple_int, isB_tuple_bool, isB_tuple_str, isB_tuple_tuple, isB_tuple_list, isB_list_int, ty_dic, isB_dict_int, isB_dict_bool, isB_dict_str, isB_dict_tuple, isB_dict_list, mkL_0, isB_list_bool, isB_list_str, isB_list_tuple, isB_list_list, isB_NoneType_int, isB_NoneType_bool, isB_NoneType_str, isB_NoneType_tuple, isB_NoneType_list, Prod.exists, Prod.forall, forall_exists_index, and_imp, forall_eq, forall_eq', Bool.false_xor, Bool.true_xor, List.cons.injEq, Nat.reduceAdd, Nat.reduceSub, Nat.reduceLT, Nat.lt_add_one, Nat.zero_lt_succ, Nat.zero_add,   Bool.not_eq_true', Bool.not_eq_false', Bool.not_true, Bool.not_false, decide_eq_false_iff_not, decide_eq_true_eq, if_true, if_false, Bool.false_eq_true, Bool.true_eq_false, reduceIte])
local macro_rules | `(tactic| walk_at "ds") => `(tactic| repeat refine And.intro (by first | with_reducible rfl | decide | exact mulok_r (by decide) | exact mulok_l (by decide) | exact szL (by decide)) ?_)
noncomputable def R_plus : Ctr := Ctr.fn (α := (N : FK) × N.T × N.T) (fun a => [.kd (.b a.1.k), a.1.enc a.2.1, a.1.enc a.2.2]) (fun a => a.1.ok2 a.2.1 a.2.2) (fun a => .im (a.1.enc (a.2.1 + a.2.2)))
noncomputable def R_minus : Ctr := Ctr.fn (α := (N : FK) × N.T × N.T) (fun a => [.kd (.b a.1.k), a.1.enc a.2.1, a.1.enc a.2.2]) (fun a => a.1.ok2 a.2.1 a.2.2) (fun a => .im (a.1.enc (a.2.1 - a.2.2)))
noncomputable def R_is_nought : Ctr := Ctr.fn (α := (N : FK) × N.T) (fun a => [.kd (.b a.1.k), a.1.enc a.2]) (fun a => True) (fun a => O.t (decide (a.2 = 0)))
def numF : D → Bool
  | .tup [.int n, .int b] => decide (0 < b ∧ Int.gcd n b = 1)
  | _ => false
def numR (P : Pr) : D → Bool
  | .int n => decide (0 ≤ n ∧ n < P.p)
  | _ => false
def FK.isNum : FK → D → Bool
  | .fr => numF
  | .rs P => numR P
/-- its parts are plain -/
def D.plain2 (d : D) : Prop := d.ty.isSome = true ∧ ∀ a b, d = .tup [a, b] → a.ty.isSome = true ∧ b.ty.isSome = true
def R_is_number : Ctr := Ctr.fn (fun a : FK × D => [.kd (.b a.1.k), a.2]) (fun a => a.2.plain2) (fun a => O.t (a.1.isNum a.2))
noncomputable def R_law_lowest : Ctr := Ctr.fn (fun p : Int × Int => [.int p.1, .int p.2]) (fun p => 0 < p.2 ∧ Sz 8990 p.2) (fun p => .im (FK.enc .fr ((p.1 : Rat) / (p.2 : Rat))))
noncomputable def w_Fractions_plus : WS :=
  sRet (wMeth1 Kd.isFr (wV 0) (wCons (w2 (w2 (w2 (wV 1) (wC (.int 0)) uIx) (w2 (wV 2) (wC (.int 1)) uIx) uMul) (w2 (w2 (wV 2) (wC (.int 0)) uIx) (w2 (wV 1) (wC (.int 1)) uIx) uMul) uAdd) (wCons (w2 (w2 (wV 1) (wC (.int 1)) uIx) (w2 (wV 2) (wC (.int 1)) uIx) uMul) (wNil))) R_number [])

abbrev N_Fractions_plus : List Str := ["self", "one", "other"]

noncomputable def w_Rests_plus : WS :=
  sRet (w2 (w2 (wV 1) (wV 2) uAdd) (w1 (wV 0) uPrime) uMod)

abbrev N_Rests_plus : List Str := ["self", "one", "other"]

noncomputable def w_Kind_minus : WS :=
  sRet (wMeth false (wV 0) (wCons (wV 1) (wCons (wMeth false (wV 0) (wCons (wMeth false (wV 0) (wCons (w1 (wC (.int 1)) uNeg) (wNil)) R_number [.int 1]) (wCons (wV 2) (wNil))) R_times []) (wNil))) R_plus [])

abbrev N_Kind_minus : List Str := ["self", "one", "other"]

noncomputable def w_Kind_is_nought : WS :=
  sRet (w2 (wV 1) (wMeth false (wV 0) (wCons (wC (.int 0)) (wNil)) R_number [.int 1]) (uEq false))

abbrev N_Kind_is_nought : List Str := ["self", "one"]

noncomputable def w_law_lowest : WS :=
  sSeq (sAsg (wCall (wCons (wV 0) (wCons (wV 1) (wNil))) R_law_divisor) (gF 2))
  (sRet (wTp (wCons (w2 (wV 0) (wV 2) uDiv) (wCons (w2 (wV 1) (wV 2) uDiv) (wNil)))))

abbrev N_law_lowest : List Str := ["_law_top", "_law_bottom", "_law_by"]

noncomputable def w_Fractions_is_number : WS :=
  sSeq (sIf (wOr (wNot (wT (wA (wCons (wV 1) (wCons (wC (.obj (.ty "tuple"))) wNil)) (uA2 (uIsi "tuple"))))) (wT (w2 (wA (wCons (wV 1) (wNil)) (uA1 uLen)) (wC (.int 2)) (uEq true))))
  (sRet (wC (.bl false)))
  (sNext))
  (sSeq (sIf (wOr (wNot (wT (wCall (wCons (w2 (wV 1) (wC (.int 0)) uIx) (wNil)) R_is_whole))) (wNot (wT (wCall (wCons (w2 (wV 1) (wC (.int 1)) uIx) (wNil)) R_is_whole))))
  (sRet (wC (.bl false)))
  (sNext))
  (sRet (wAndV (w2 (w2 (wV 1) (wC (.int 1)) uIx) (wC (.int 0)) uGt) (w2 (wCall (wCons (w2 (wV 1) (wC (.int 0)) uIx) (wCons (w2 (wV 1) (wC (.int 1)) uIx) (wNil))) R_divisor) (wC (.int 1)) (uEq false)))))

abbrev N_Fractions_is_number : List Str := ["self", "thing"]

noncomputable def w_Rests_is_number : WS :=
  sRet (wAndV (wCall (wCons (wV 1) (wNil)) R_is_whole) (wCh (wC (.int 0)) (wV 1) (w1 (wV 0) uPrime) gLe gLt))

abbrev N_Rests_is_number : List Str := ["self", "thing"]

theorem p_Fractions_plus : Keeps N_Fractions_plus w_Fractions_plus (R_plus.on Kd.isFr) := by
  rintro ds Q E ⟨⟨k, r, e, hk⟩, ⟨N, x, y⟩, rfl, ⟨n, m, sx, sy, hn, hm, hnm⟩, q⟩
  cases N with
  | rs P => cases e; cases hk
  | fr =>
    have q : Q (.im (FK.enc .fr ((x : Rat) + y))) := q
    obtain ⟨x1, x2⟩ := sx
    obtain ⟨y1, y2⟩ := sy
    unfold w_Fractions_plus R_number
    simp only [FK.enc]
    walk_at "pl"
    have d0 : ((x : Rat).den * (y : Rat).den : Int) ≠ 0 := by
      have := den_pos x
      have := den_pos y
      exact Int.ne_of_gt (Int.mul_pos ‹_› ‹_›)
    refine ⟨mulok x1 y2 (by decide) hm (by omega), mulok y1 x2 (by decide) hn (by omega), mulok_of x2 y2 hn hm hnm, .fr, rfl, ?_, (x2.mul y2).mono (by omega), ?_⟩
    · have h1 := (x1.mul y2).mono (m := 200000) (by omega)
      have h2 := (y1.mul x2).mono (m := 200000) (by omega)
      exact (h1.add h2).mono (by decide)
    rw [if_neg (fun h => d0 (by exact_mod_cast (show (((x : Rat).den * (y : Rat).den : Int) : Rat) = ((0 : Int) : Rat) from h)))]
    rw [rat_add] at q
    exact q
theorem p_Rests_plus : Keeps N_Rests_plus w_Rests_plus (R_plus.on Kd.isRs) := by
  rintro ds Q E ⟨⟨k, r, e, hk⟩, ⟨N, x, y⟩, rfl, _, q⟩
  cases N with
  | fr => cases e; cases hk
  | rs P =>
    unfold w_Rests_plus
    simp only [FK.enc]
    walk_at "pl"
    have := P.two
    refine ⟨by omega, ?_⟩
    have q : Q (O.i (((x + y : Zp P)).val : Int)) := q
    rw [Zp.val_add, ← fmod_pos (by omega)] at q
    exact q
theorem FK.one_ne (N : FK) : N.ofInt 1 ≠ 0 := by
  rw [N.ofInt_one]
  exact fun h => Lean.Grind.Field.zero_ne_one h.symm
theorem FK.div_one (N : FK) (z : Int) : N.ofInt z / N.ofInt 1 = N.ofInt z := by
  rw [N.ofInt_one]
  grind
theorem FK.szq_neg (N : FK) {a b : Nat} {x : N.T} (h : N.szq a b x) : N.szq a b (-x) := by
  cases N with
  | fr => exact ⟨by rw [Rat.neg_num]; exact h.1.neg, by rw [Rat.neg_den]; exact h.2⟩
  | rs P => trivial
theorem p_Kind_minus : Keeps N_Kind_minus w_Kind_minus R_minus := by
  rintro ds Q E ⟨⟨N, x, y⟩, rfl, ⟨n, m, sx, sy, hn, hm, hnm⟩, q⟩
  simp only at sx sy q
  unfold w_Kind_minus R_number R_times R_plus
  walk_at "pl"
  have ep : N.ofInt (-1) * y = -y := by
    rw [N.ofInt_neg, N.ofInt_one]
    grind
  refine ⟨N, rfl, Sz.mono (n := 1) (by decide) (by decide), Sz.mono (n := 1) (by decide) (by decide), ?_⟩
  rw [if_neg N.one_ne, N.div_one]
  refine ⟨N, rfl, _, rfl, y, rfl, ⟨1, m, N.szq_of (N.sz_ofInt (n := 1) (by decide) (by decide)) (by decide) (by decide), sy, by decide, hm, by omega⟩, N, rfl, x, rfl, _, rfl, ?_, ?_⟩
  · rw [ep]
    exact ⟨n, m, sx, N.szq_neg sy, hn, hm, hnm⟩
  · rw [ep]
    have : x + -y = x - y := by grind
    rw [this]
    exact q
theorem p_Kind_is_nought : Keeps N_Kind_is_nought w_Kind_is_nought R_is_nought := by
  rintro ds Q E ⟨⟨N, x⟩, rfl, _, q⟩
  simp only at q
  unfold w_Kind_is_nought R_number
  walk_at "pl"
  refine ⟨N, rfl, Sz.mono (n := 1) (by decide) (by decide), Sz.mono (n := 1) (by decide) (by decide), ?_⟩
  rw [if_neg N.one_ne, N.div_one, N.ofInt_zero]
  show (uEq false).run (O.im (N.enc x)) (O.im (N.enc 0)) fun o => o.nb = true ∧ Q o
  rw [uEq_enc]
  exact ⟨rfl, by simpa using q⟩
theorem p_law_lowest : Keeps N_law_lowest w_law_lowest R_law_lowest := by
  rintro ds Q E ⟨⟨t, b⟩, rfl, ⟨hb, sb⟩, q⟩
  simp only at hb sb
  have q : Q (.im (.tup [.int ((t : Rat) / (b : Rat)).num, .int (((t : Rat) / (b : Rat)).den : Int)])) := q
  unfold w_law_lowest R_law_divisor
  walk_at "pl"
  obtain ⟨h1, h2, h3⟩ := rat_by (t := t) (b := b) (by omega) _ rfl
  rw [if_neg (show ¬ b < 0 by omega)] at h1 h2 h3
  have sg : Sz 8990 (Int.gcd t b : Int) := sb.le (by
    have : Int.gcd t b ∣ b.natAbs := Int.gcd_dvd_natAbs_right ..
    exact Nat.le_of_dvd (by omega) this)
  rw [h1, h2] at q
  have s2 := divok sg (by decide) (by decide)
  exact ⟨h3, s2, h3, s2, szL (by decide), q⟩
theorem p_Rests_is_number : Keeps N_Rests_is_number w_Rests_is_number (R_is_number.on Kd.isRs) := by
  rintro ds Q E ⟨⟨k, r, e, hk⟩, ⟨N, d⟩, rfl, ⟨ht, h2⟩, q⟩
  cases N with
  | fr => cases e; cases hk
  | rs P =>
    unfold w_Rests_is_number R_is_whole
    have q : Q (O.t (FK.isNum (.rs P) d)) := q
    cases d with
    | int n =>
      walk_at "pl"
      have e : FK.isNum (.rs P) (.int n) = decide (0 ≤ n ∧ n < P.p) := rfl
      rw [e] at q
      split
      · rename_i h
        simpa [h] using q
      · rename_i h
        simpa [h] using q
    | _ =>
      first
        | (cases ht; done)
        | (walk_at "pl"
           exact q)
theorem numF_no {d : D} (h : ∀ a b, d ≠ .tup [.int a, .int b]) : numF d = false := by
  unfold numF
  split
  · exact absurd rfl (h _ _)
  · rfl
theorem whole_ex {d : D} (h : d.whole = true) : ∃ n, d = .int n := by
  cases d with
  | int n => exact ⟨n, rfl⟩
  | _ => cases h
theorem p_Fractions_is_number : Keeps N_Fractions_is_number w_Fractions_is_number (R_is_number.on Kd.isFr) := by
  rintro ds Q E ⟨⟨k, r, e, hk⟩, ⟨N, d⟩, rfl, ⟨ht, h2⟩, q⟩
  cases N with
  | rs P => cases e; cases hk
  | fr =>
    unfold w_Fractions_is_number R_is_whole R_divisor
    have q : Q (O.t (FK.isNum .fr d)) := q
    cases d with
    | tup xs =>
      by_cases hl : xs.length = 2
      · match xs, hl with
        | [a, b], _ =>
          obtain ⟨ha, hb⟩ := h2 a b rfl
          by_cases wa : a.whole = true
          · obtain ⟨n, rfl⟩ := whole_ex wa
            by_cases wb : b.whole = true
            · obtain ⟨m, rfl⟩ := whole_ex wb
              have e : FK.isNum .fr (.tup [.int n, .int m]) = decide (0 < m ∧ Int.gcd n m = 1) := rfl
              rw [e] at q
              walk_at "pl"
              refine ite_no (by decide) ?_
              split
              · rename_i h
                have e2 : decide (((Int.gcd n m : Nat) : Int) = 1) = decide (0 < m ∧ Int.gcd n m = 1) := by
                  by_cases g : Int.gcd n m = 1
                  · simp [g, h]
                  · have : ¬ ((Int.gcd n m : Nat) : Int) = 1 := fun z => g (by exact_mod_cast z)
                    simp [g, this]
                rw [e2]
                exact q
              · rename_i h
                simpa [h] using q
            · have e : FK.isNum .fr (.tup [.int n, b]) = false := numF_no fun x y e => by
                simp only [D.tup.injEq, List.cons.injEq, and_true] at e
                exact wb (by rw [e.2]; rfl)
              rw [e] at q
              walk_at "pl"
              exact ite_no (by decide) ⟨hb, ite_yes (by simpa using wb) q⟩
          · have e : FK.isNum .fr (.tup [a, b]) = false := numF_no fun x y e => by
              simp only [D.tup.injEq, List.cons.injEq, and_true] at e
              exact wa (by rw [e.1]; rfl)
            rw [e] at q
            walk_at "pl"
            exact ite_no (by decide) ⟨ha, ite_yes (by simpa using wa) q⟩
      · have : FK.isNum .fr (.tup xs) = false := numF_no fun a b e => by cases e; exact hl rfl
        rw [this] at q
        walk_at "pl"
        rw [if_pos (by omega)]
        exact q
    | _ =>
      first
        | (cases ht; done)
        | (walk_at "pl"
           exact q)
/-! the contracts, to be used -/
section
variable {Q : O → Prop} {E : Ex → Prop}
theorem number_ok (N : FK) (t b : Int) (st : Sz 1000000 t) (sb : Sz 8990 b) (h : N.ofInt b ≠ 0) (q : Q (.im (N.enc (N.ofInt t / N.ofInt b)))) : R_number.run [.kd (.b N.k), .int t, .int b] Q E := ⟨⟨N, t, b⟩, rfl, ⟨st, sb⟩, by simp only [if_neg h]; exact q⟩
theorem number1_ok (N : FK) (t : Int) (st : Sz 1000000 t) (q : Q (.im (N.enc (N.ofInt t)))) : R_number.run [.kd (.b N.k), .int t, .int 1] Q E := number_ok N t 1 st (Sz.mono (n := 1) (by decide) (by decide)) N.one_ne (by rw [N.div_one]; exact q)
theorem number_bad (N : FK) (t b : Int) (st : Sz 1000000 t) (sb : Sz 8990 b) (h : N.ofInt b = 0) (q : E .number) : R_number.run [.kd (.b N.k), .int t, .int b] Q E := ⟨⟨N, t, b⟩, rfl, ⟨st, sb⟩, by simp only [if_pos h]; exact q⟩
theorem back_ok (N : FK) (x : N.T) (s : N.sz 8990 x) (h : x ≠ 0) (q : Q (.im (N.enc x⁻¹))) : R_back.run [.kd (.b N.k), N.enc x] Q E := ⟨⟨N, x⟩, rfl, s, by simp only [if_neg h]; exact q⟩
theorem back_bad (N : FK) (x : N.T) (s : N.sz 8990 x) (h : x = 0) (q : E .number) : R_back.run [.kd (.b N.k), N.enc x] Q E := ⟨⟨N, x⟩, rfl, s, by simp only [if_pos h]; exact q⟩
theorem over_ok (N : FK) (x y : N.T) (s : N.ok2o x y) (h : y ≠ 0) (q : Q (.im (N.enc (x / y)))) : R_over.run [.kd (.b N.k), N.enc x, N.enc y] Q E := ⟨⟨N, x, y⟩, rfl, s, by simp only [if_neg h]; exact q⟩
theorem over_bad (N : FK) (x y : N.T) (s : N.ok2o x y) (h : y = 0) (q : E .number) : R_over.run [.kd (.b N.k), N.enc x, N.enc y] Q E := ⟨⟨N, x, y⟩, rfl, s, by simp only [if_pos h]; exact q⟩
theorem times_ok (N : FK) (x y : N.T) (s : N.ok2 x y) (q : Q (.im (N.enc (x * y)))) : R_times.run [.kd (.b N.k), N.enc x, N.enc y] Q E := ⟨⟨N, x, y⟩, rfl, s, q⟩
theorem plus_ok (N : FK) (x y : N.T) (s : N.ok2 x y) (q : Q (.im (N.enc (x + y)))) : R_plus.run [.kd (.b N.k), N.enc x, N.enc y] Q E := ⟨⟨N, x, y⟩, rfl, s, q⟩
theorem minus_ok (N : FK) (x y : N.T) (s : N.ok2 x y) (q : Q (.im (N.enc (x - y)))) : R_minus.run [.kd (.b N.k), N.enc x, N.enc y] Q E := ⟨⟨N, x, y⟩, rfl, s, q⟩
theorem nought_ok (N : FK) (x : N.T) (q : Q (O.t (decide (x = 0)))) : R_is_nought.run [.kd (.b N.k), N.enc x] Q E := ⟨⟨N, x⟩, rfl, trivial, q⟩
theorem lowest_ok (t b : Int) (hb : 0 < b) (sb : Sz 8990 b) (q : Q (.im (FK.enc .fr ((t : Rat) / (b : Rat))))) : R_law_lowest.run [.int t, .int b] Q E := ⟨⟨t, b⟩, rfl, ⟨hb, sb⟩, q⟩
end
theorem rat_num (q : Rat) : (q.num : Rat) = q * ((q.den : Int) : Rat) := by
  have h1 := rat_mk q
  have d1 := rat_den q
  generalize (q.num : Rat) = n at *
  generalize ((q.den : Int) : Rat) = d at *
  rw [← h1]
  grind
end PL

/-! P18 -/
set_option Elab.async false
set_option linter.all false
set_option maxRecDepth 100000
set_option maxHeartbeats 4000000
/-! P18: lists within lists changed in place. -/
namespace PL
open PySem PySem.Spec L2 PyProof.Rows
section
variable {c : Cc} {F : Fz} {H : Hp} {Ts : List O} {ts : List V} {S : List (Option O)} {σ : L2.St}
/-- a row within a list -/
theorem OwL.inner {G : Gx} {F H : Hp} {r : List O} : ∀ {acc : List O} {xs : List V} {B : List Addr} {k : Nat}, OwL G F H acc xs B → acc[k]? = some (.ls r) → ∃ Dk ys Bk, xs[k]? = some (.ref Dk) ∧ H Dk = some (.lst ys) ∧ F Dk = none ∧ OwL G F H r ys Bk ∧ (Dk :: Bk).Sublist B ∧
    ∀ (H' : Hp) (A0 : List Addr) (r' : List O) (ys' : List V) (Bk' : List Addr), Keep H H' → (∀ a ∈ B, a ≠ Dk → H' a = H a) → H' Dk = some (.lst ys') → r'.length ≤ sizeLine → OwL G F H' r' ys' Bk' → Bk'.Nodup → (∀ a ∈ Bk', a ∈ A0 ++ Bk) → (A0 ++ B).Nodup →
      ∃ B', OwL G F H' (acc.set k (.ls r')) xs B' ∧ B'.Nodup ∧ ∀ a ∈ B', a ∈ A0 ++ B
  | [], _, _, k, _, h => by simp at h
  | a :: acc, _, _, 0, ⟨v, vr, B1, B2, e, eB, h, t⟩, ha => by
    simp at ha
    subst ha e eB
    obtain ⟨Dk, ys, Bk, ev, eB1, nF, hD, z, ol⟩ := (show Ow G F H (.ls r) v B1 from h)
    subst ev eB1
    refine ⟨Dk, ys, Bk, rfl, hD, nF, ol, List.sublist_append_left _ _, fun H' A0 r' ys' Bk' kp st hD' z' o' nd' sub nd => ?_⟩
    have nd2 : (A0 ++ (Dk :: (Bk ++ B2))).Nodup := by simpa using nd
    have dD : Dk ∉ A0 ∧ Dk ∉ Bk ++ B2 := ⟨fun h => (List.nodup_append.mp nd2).2.2 Dk h Dk List.mem_cons_self rfl, (List.nodup_cons.mp (List.nodup_append.mp nd2).2.1).1⟩
    have nD : Dk ∉ Bk' := fun h => by
      rcases List.mem_append.mp (sub Dk h) with h | h
      · exact dD.1 h
      · exact dD.2 (List.mem_append_left _ h)
    refine ⟨(Dk :: Bk') ++ B2, ⟨.ref Dk, vr, Dk :: Bk', B2, rfl, rfl, ⟨Dk, ys', Bk', rfl, rfl, nF, hD', z', o'⟩, OwL.mono (Same.refl _) kp acc vr B2 (fun b hb => ⟨(OwL.own t b hb).1, st b (by simp [hb]) fun e => dD.2 (by rw [← e]; exact List.mem_append_right _ hb)⟩) t⟩, ?_, fun b hb => ?_⟩
    · rw [List.cons_append]
      refine List.nodup_cons.mpr ⟨fun h => ?_, List.nodup_append.mpr ⟨nd', ?_, fun x hx y hy e => ?_⟩⟩
      · rcases List.mem_append.mp h with h | h
        · exact nD h
        · exact dD.2 (List.mem_append_right _ h)
      · exact nd2.sublist ((((List.sublist_append_right Bk B2).trans (List.sublist_cons_self _ _))).trans (List.sublist_append_right A0 _))
      · subst e
        rcases List.mem_append.mp (sub x hx) with h | h
        · exact (List.nodup_append.mp nd2).2.2 x h x (by simp [hy]) rfl
        · have := (List.nodup_cons.mp (List.nodup_append.mp nd2).2.1).2
          exact (List.nodup_append.mp this).2.2 x h x hy rfl
    · simp at hb ⊢
      rcases hb with rfl | h | h
      · simp
      · have := sub b h
        simp at this
        rcases this with h | h <;> simp [h]
      · simp [h]
  | a :: acc, _, _, k + 1, ⟨v, vr, B1, B2, e, eB, h, t⟩, ha => by
    subst e eB
    obtain ⟨Dk, ys, Bk, e1, hD, nF, ol, sb, up⟩ := OwL.inner t (k := k) (by simpa using ha)
    refine ⟨Dk, ys, Bk, by simpa using e1, hD, nF, ol, sb.trans (List.sublist_append_right _ _), fun H' A0 r' ys' Bk' kp st hD' z' o' nd' sub nd => ?_⟩
    have nd2 : (A0 ++ B2).Nodup := nd.sublist ((List.sublist_append_right B1 B2).append_left A0)
    have inB2 : Dk ∈ B2 := sb.subset List.mem_cons_self
    have nB1 : Dk ∉ B1 := fun h => (List.nodup_append.mp (List.nodup_append.mp nd).2.1).2.2 Dk h Dk inB2 rfl
    obtain ⟨B', h1, h2, h3⟩ := up H' A0 r' ys' Bk' kp (fun b hb n => st b (List.mem_append_right _ hb) n) hD' z' o' nd' sub nd2
    refine ⟨B1 ++ B', ⟨v, vr, B1, B', rfl, rfl, Ow.mono (Same.refl _) kp a v B1 (fun b hb => ⟨(Ow.own h b hb).1, st b (List.mem_append_left _ hb) fun e => nB1 (e ▸ hb)⟩) h, h1⟩, List.nodup_append.mpr ⟨nd.sublist ((List.sublist_append_left B1 B2).trans (List.sublist_append_right A0 _)), h2, fun x hx y hy e => ?_⟩, fun b hb => ?_⟩
    · subst e
      rcases List.mem_append.mp (h3 x hy) with h | h
      · exact (List.nodup_append.mp nd).2.2 x h x (List.mem_append_left _ hx) rfl
      · exact (List.nodup_append.mp (List.nodup_append.mp nd).2.1).2.2 x hx x h rfl
    · rcases List.mem_append.mp hb with hb | hb
      · simp [hb]
      · have := h3 b hb
        simp at this ⊢
        rcases this with h | h <;> simp [h]
theorem Sv.upTop2 {o : O} {y : V} {acc r : List O} {D : Addr} {k : Nat} (s : Sv c F H (o :: .ls acc :: Ts) (y :: .ref D :: ts) S σ) (nb : o.nb = true) (ek : acc[k]? = some (.ls r)) :
    ∃ xs Dk ys, H D = some (.lst xs) ∧ xs.length = acc.length ∧ xs[k]? = some (.ref Dk) ∧ H Dk = some (.lst ys) ∧ ys.length = r.length ∧ D ≠ Dk ∧ ∀ (r' : List O) (ys' : List V), r'.length ≤ sizeLine → UpOk c.G F.F H r r' ys ys' o y → Sv c F (upd H Dk (.lst ys')) (.ls (acc.set k (.ls r')) :: Ts) (.ref D :: ts) S σ := by
  obtain ⟨A, C, ⟨v', vr, A0, R, ev, eA, ho, rr⟩, hC, nd, no, nA, nC⟩ := s.own
  cases ev
  subst eA
  obtain ⟨w, wr, A3, A4, ew, eA2, hls, h4⟩ := rr
  cases ew
  subst eA2
  obtain ⟨D', xs, B, eD, eB, nF, hD, zz, ol⟩ := (show Ow c.G F.F H (.ls acc) (.ref D) A3 from hls)
  cases eD
  subst eB
  obtain ⟨Dk, ys, Bk, e1, hDk, nFk, olk, sb, up2⟩ := OwL.inner ol ek
  have inB : Dk ∈ B := sb.subset List.mem_cons_self
  have nd0 : (A0 ++ (D :: (B ++ (A4 ++ C)))).Nodup := by simpa using nd
  have ndB : (D :: (B ++ (A4 ++ C))).Nodup := (List.nodup_append.mp nd0).2.1
  have nD : D ∉ B ++ (A4 ++ C) := (List.nodup_cons.mp ndB).1
  have neD : D ≠ Dk := fun e => nD (by rw [e]; exact List.mem_append_left _ inB)
  refine ⟨xs, Dk, ys, hD, ol.len.symm, e1, hDk, olk.len.symm, neD, fun r' ys' zl up => ?_⟩
  have kp : Keep H (upd H Dk (.lst ys')) := fun b u q nl => by
    have : b ≠ Dk := fun e => by subst e; rw [hDk] at q; cases q; exact nl _ rfl
    rw [upd_ne this]; exact q
  have ndB2 : (B ++ (A4 ++ C)).Nodup := (List.nodup_cons.mp ndB).2
  have n0 : Dk ∉ A0 := fun h => (List.nodup_append.mp nd0).2.2 Dk h Dk (by simp [inB]) rfl
  have n4 : Dk ∉ A4 ++ C := fun h => (List.nodup_append.mp ndB2).2.2 Dk inB Dk h rfl
  have m0 : ∀ a ∈ A0, upd H Dk (.lst ys') a = H a := fun a ha => upd_ne fun e => n0 (e ▸ ha)
  have mB : ∀ a ∈ B, a ≠ Dk → upd H Dk (.lst ys') a = H a := fun a _ n => upd_ne n
  have m4 : ∀ a ∈ A4, upd H Dk (.lst ys') a = H a := fun a ha => upd_ne fun e => n4 (e ▸ List.mem_append_left _ ha)
  have mC : ∀ a ∈ C, upd H Dk (.lst ys') a = H a := fun a ha => upd_ne fun e => n4 (e ▸ List.mem_append_right _ ha)
  have inA : ∀ a ∈ B, a ∈ A0 ++ (D :: B ++ A4) := fun a ha => by simp [ha]
  have BD : F.B Dk = none := nA Dk (inA _ inB)
  have ndAB : (A0 ++ B).Nodup := nd0.sublist ((((List.sublist_append_left B _).trans (List.sublist_cons_self _ _))).append_left A0)
  have mk : ∀ a ∈ Bk, upd H Dk (.lst ys') a = H a := fun a ha => upd_ne fun e => by
    have : (Dk :: Bk).Nodup := ((List.nodup_append.mp ndB2).1).sublist sb
    exact (List.nodup_cons.mp this).1 (e ▸ ha)
  have ndk : (A0 ++ Bk).Nodup := ndAB.sublist (((List.sublist_cons_self Dk Bk).trans sb).append_left A0)
  obtain ⟨Bk', hk', ndk', subk⟩ := up (upd H Dk (.lst ys')) Bk A0 kp (OwL.mono (Same.refl _) kp r ys Bk (fun a ha => ⟨(OwL.own olk a ha).1, mk a ha⟩) olk) (Ow.mono (Same.refl _) kp o y A0 (fun a ha => ⟨(ho.own a ha).1, m0 a ha⟩) (ho.ow nb)) ndk
  obtain ⟨B', hB', ndB', sub⟩ := up2 (upd H Dk (.lst ys')) A0 r' ys' Bk' kp mB upd_same zl hk' ndk' subk ndAB
  have old : ∀ a, a ∈ (D :: B') ++ A4 → a ∈ A0 ++ (D :: B ++ A4) := fun a ha => by
    rcases List.mem_append.mp ha with ha | ha
    · rcases List.mem_cons.mp ha with rfl | ha
      · simp
      · have := sub a ha
        simp at this ⊢
        rcases this with h | h <;> simp [h]
    · simp [ha]
  have nD0 : D ∉ A0 := fun h => (List.nodup_append.mp nd0).2.2 D h D List.mem_cons_self rfl
  refine ⟨s.ext, s.fb, fun a u q => ?_, fun a u q => ?_, s.dom, (D :: B') ++ A4, C, ?_, hC.monoAt kp mC, ?_, fun a ha => ?_, fun a ha => nA a (old a ha), fun a ha => (nC a ha).trans (mC a ha).symm⟩
  · have : a ≠ Dk := fun e => by subst e; rw [BD] at q; cases q
    rw [upd_ne this]; exact s.bh a u q
  · have : a ≠ Dk := fun e => by
      subst e
      have := no a (List.mem_append_left _ (inA _ inB))
      rw [this] at q; cases q
    rw [upd_ne this]; exact s.old a u q
  · exact ⟨.ref D, ts, D :: B', A4, rfl, rfl, ⟨D, xs, B', rfl, rfl, nF, by rw [upd_ne neD]; exact hD, by rw [List.length_set]; exact zz, hB'⟩, h4.monoK (Same.refl _) (Same.refl _) kp fun a ha => ⟨(h4.own a ha).1, m4 a ha⟩⟩
  · rw [List.append_assoc, List.cons_append]
    refine List.nodup_cons.mpr ⟨fun h => ?_, List.nodup_append.mpr ⟨ndB', (List.nodup_append.mp ndB2).2.1, fun x hx y hy e => ?_⟩⟩
    · rcases List.mem_append.mp h with h | h
      · rcases List.mem_append.mp (sub D h) with h | h
        · exact nD0 h
        · exact nD (List.mem_append_left _ h)
      · exact nD (List.mem_append_right _ h)
    · subst e
      rcases List.mem_append.mp (sub x hx) with h | h
      · exact (List.nodup_append.mp nd0).2.2 x h x (by
          simp at hy ⊢
          rcases hy with h | h <;> simp [h]) rfl
      · exact (List.nodup_append.mp ndB2).2.2 x h x hy rfl
  · rcases List.mem_append.mp ha with ha | ha
    · exact no a (List.mem_append_left _ (old a ha))
    · exact no a (List.mem_append_right _ ha)
theorem Sv.upSlot2 {o : O} {y : V} {acc r : List O} {i k : Nat} (s : Sv c F H (o :: Ts) (y :: ts) S σ) (nbT : ∀ o' ∈ o :: Ts, o'.nb = true) (e : S[i]? = some (some (.ls acc))) (ek : acc[k]? = some (.ls r)) :
    ∃ D xs Dk ys, σ[i]? = some (some (.ref D)) ∧ H D = some (.lst xs) ∧ xs.length = acc.length ∧ xs[k]? = some (.ref Dk) ∧ H Dk = some (.lst ys) ∧ ys.length = r.length ∧ D ≠ Dk ∧ ∀ (r' : List O) (ys' : List V), r'.length ≤ sizeLine → UpOk c.G F.F H r r' ys ys' o y →
      ∃ F' : Fz, Sv c F' (upd H Dk (.lst ys')) Ts ts (S.set i (some (.ls (acc.set k (.ls r'))))) σ := by
  obtain ⟨w, F1, eF, ew, _, s1⟩ := s.move nbT e
  have s2 := s1.swap
  obtain ⟨D, ed⟩ : ∃ D, w = .ref D := by
    obtain ⟨A, h⟩ := s1.top
    obtain ⟨D, _, _, ed, _⟩ := (show Ow c.G F1.F H (.ls acc) w A from h)
    exact ⟨D, ed⟩
  subst ed
  obtain ⟨xs, Dk, ys, h1, h2, h3, h4, h5, h6, up⟩ := s2.upTop2 (nbT o List.mem_cons_self) ek
  refine ⟨D, xs, Dk, ys, ew, h1, h2, h3, h4, h5, h6, fun r' ys' zl u => ?_⟩
  obtain ⟨F3, _, _, s3⟩ := (up r' ys' zl (by rw [eF]; exact u)).put (i := i) rfl (by
    rw [List.length_set]
    exact (List.getElem?_eq_some_iff.mp e).1)
  rw [set_same ew, List.set_set] at s3
  exact ⟨F3, s3⟩
theorem SlL.any_at {G : Gx} {F H : Hp} : ∀ {S : List (Option O)} {σ : L2.St} {A : List Addr} (j : Nat) (v : Option V), SlL G F H (S.set j none) σ A → SlL G F H (S.set j none) (σ.set j v) A
  | [], _, _, _, _, ⟨e, eA⟩ => by subst e; exact ⟨rfl, eA⟩
  | a :: S, _, _, 0, v, ⟨x, τ, e, r⟩ => by subst e; exact ⟨v, τ, rfl, r⟩
  | none :: S, _, _, j + 1, v, ⟨x, τ, e, r⟩ => by subst e; exact ⟨x, _, rfl, SlL.any_at j v r⟩
  | some o :: S, _, _, j + 1, v, ⟨u, τ, B, C, e, eA, h, r⟩ => by subst e; exact ⟨u, _, B, C, rfl, eA, h, SlL.any_at j v r⟩
theorem Sv.any_at {i : Nat} (s : Sv c F H Ts ts (S.set i none) σ) (v : Option V) : Sv c F H Ts ts (S.set i none) (σ.set i v) := by
  obtain ⟨A, C, hA, hC, rest⟩ := s.own
  exact ⟨s.ext, s.fb, s.bh, s.old, s.dom, A, C, hA, hC.any_at i v, rest⟩
end
/-! ### for row in found: row.append(None) -/
def app1 (r : List O) : O := .ls (r ++ [.im .non])
def prog (rows : List (List O)) (k : Nat) : List O := (rows.take k).map app1 ++ (rows.drop k).map .ls
theorem prog_0 {rows : List (List O)} : prog rows 0 = rows.map .ls := by simp [prog]
theorem prog_n {rows : List (List O)} : prog rows rows.length = rows.map app1 := by simp [prog]
theorem prog_get {rows : List (List O)} {k : Nat} (h : k < rows.length) : (prog rows k)[k]? = some (.ls rows[k]) := by
  unfold prog
  rw [List.getElem?_append_right (by simp; omega)]
  have : k - (List.map app1 (List.take k rows)).length = 0 := by simp; omega
  rw [this, List.getElem?_map, List.getElem?_drop]
  simp [h]
theorem prog_set {rows : List (List O)} {k : Nat} (h : k < rows.length) : (prog rows k).set k (app1 rows[k]) = prog rows (k + 1) := by
  unfold prog
  have hl : (List.map app1 (List.take k rows)).length = k := by simp; omega
  rw [List.set_append_right _ _ (by omega), hl, Nat.sub_self, List.drop_eq_getElem_cons h, List.map_cons, List.set_cons_zero, List.take_succ_eq_append_getElem h, List.map_append]
  simp
section
variable {X : Cx} {c : Cc} {W : WX} {i j : Nat} {x y : Str}
def sForApp (i j : Nat) : WS := ⟨fun S D => ∃ rows : List (List O), i ≠ j ∧ j < S.length ∧ S[i]? = some (some (.ls (rows.map .ls))) ∧ (∀ r ∈ rows, r.length < sizeLine) ∧ D.nx ((S.set i (some (.ls (rows.map app1)))).set j none),
  fun l ⟨r, h1, h2, h3, h4, h5⟩ => ⟨r, h1, h2, h3, h4, l.nx _ h5⟩⟩
theorem ss_forApp (i j : Nat) {p1 p2 p3 p4 apos cpos pos5 pos : Pos} {k4 : Nat} (hp : PassesOwn (model X.prog X.w) X.A X.env X.xe) (hc : X.calm = true) (nd : X.N.Nodup) (hN : X.N[i]? = some x := by rfl) (hNj : X.N[j]? = some y := by rfl) (hv : Vis X.env.scope x := by first | exact Or.inl rfl | exact Or.inr (Or.inl rfl) | exact Or.inr (Or.inr rfl))
    (hvy : Vis X.env.scope y := by first | exact Or.inl rfl | exact Or.inr (Or.inl rfl) | exact Or.inr (Or.inr rfl)) (hly : X.env.scope.names.lookup y = some .local := by rfl)
    (hd : (x == ("__debug__" : Str)) = false := by decide) (hcd : (x == ("__classdict__" : Str)) = false := by decide) (hd2 : (y == ("__debug__" : Str)) = false := by decide) (hcd2 : (y == ("__classdict__" : Str)) = false := by decide)
    (hbase : attributeBase (.Name y p3) "append" X.env (eval (.Name y p3) X.env) = eval (.Name y p3) X.env := by rfl)
    (hfew : ((backTo cpos (starEach [.Constant .none k4 p4] X.env)).all (fun x => !x.1) && (backToKw cpos (keywordEach [] X.env)).all (fun x => x.1.isSome)
      && decide (([.Constant .none k4 p4] : List Expr).length + ([] : List Keyword).length + (if ([] : List Keyword).isEmpty then 0 else 1) < 30)) = true := by rfl)
    (hline : (apos.endLine == cpos.line) = true := by rfl) (hs : starEach [.Constant .none k4 p4] X.env = (false, eval (.Constant .none k4 p4) X.env) :: starEach [] X.env := by rfl) (hplain : (backTo cpos (starEach ([] : List Expr) X.env)).any (·.1) = false := by rfl)
    (hsw : swapsWith (.Call (.Attribute (.Name y p3) "append" apos) [.Constant .none k4 p4] [] cpos) none pos5.line X.env = pure false := by rfl) (hfs : ∀ v, foldedSetIterable (.Name x p2) X.env v = pure v := by intro _; rfl) :
    SS X c W (.For (.Name y p1) (.Name x p2) [.Expr (.Call (.Attribute (.Name y p3) "append" apos) [.Constant .none k4 p4] [] cpos) pos5] [] pos) (sForApp i j) :=
  PS.imp (ps_for hp hc (pi_list (pe_var hN hv hd hcd)) (pg_name (i := j) nd hNj (.inl hly) (.inr hly)) (pss_one (ps_expr (pe_bm PySem.F.plainAttrs_list PySem.F.slot_list_append PySem.F.type_list_append mt_append (pe_var hNj hvy hd2 hcd2) (pa_cons pe_non pa_nil hs) hbase hfew hline hs hplain) hsw)) hfs) fun D σ H ⟨F, S, Ts, ts, nb, s, rows, nij, hj, eS, hl, h⟩ => by
    have hi : i < S.length := (List.getElem?_eq_some_iff.mp eS).1
    obtain ⟨p, xs, e1, e2, e3⟩ := s.look nb eS
    have hlen : xs.length = rows.length := by rw [e3, List.length_map]
    refine ⟨.ref p, e1, p, rfl, ⟨_, SqL.of e2⟩, ?_⟩
    refine for_list (xs := xs) (fun k σ' H' => ∃ F', Sv c F' H' Ts ts ((S.set i (some (.ls (prog rows k)))).set j none) σ' ∧ σ'[i]? = some (some (.ref p)) ∧ H' p = some (.lst xs)) ⟨F, ?_, e1, e2⟩ (fun k σ' H' _ ⟨_, _, _, q⟩ => SqL.of q) ?_ ?_
    · rw [prog_0, set_same eS]
      exact s.drop j
    · rintro k u σ' H' hk ⟨F', s', e1', e2'⟩
      have hk' : k < rows.length := by rw [← hlen]; exact (List.getElem?_eq_some_iff.mp hk).1
      have sl := s'.len
      have s2 := s'.any_at (some u)
      have ei : ((S.set i (some (.ls (prog rows k)))).set j none)[i]? = some (some (.ls (prog rows k))) := by
        rw [List.getElem?_set_ne (Ne.symm nij), List.getElem?_set_self hi]
      have ej : (σ'.set j (some u))[j]? = some (some u) := List.getElem?_set_self (by rw [← sl]; simpa using hj)
      obtain ⟨D', xs', Dk, ys, g1, g2, g3, g4, g5, g6, g7, up⟩ := (s2.pushIm (d := .non) (v := .non) rfl).upSlot2 (nb_cons rfl nb) ei (prog_get hk')
      rw [List.getElem?_set_ne (Ne.symm nij), e1'] at g1
      cases g1
      rw [e2'] at g2
      cases g2
      rw [hk] at g4
      cases g4
      obtain ⟨F2, s3⟩ := up (rows[k] ++ [.im .non]) (ys ++ [.non]) (by rw [List.length_append]; exact hl _ (List.getElem_mem hk')) UpOk.append
      refine ⟨.ref Dk, ej, .inl ⟨rfl, _, SqL.of g5⟩, Dk, ys, .non, rfl, rfl, g5, by rw [g6]; exact hl _ (List.getElem_mem hk'), F2, ?_, ?_, by rw [upd_ne g7]; exact e2'⟩
      · have eS' : (((S.set i (some (.ls (prog rows k)))).set j none).set i (some (.ls ((prog rows k).set k (.ls (rows[k] ++ [.im .non])))))) = (S.set i (some (.ls (prog rows (k + 1))))).set j none := by
          rw [List.set_comm _ _ (Ne.symm nij), List.set_set]
          have := prog_set hk'
          unfold app1 at this
          rw [this]
        rw [← eS']
        exact s3
      · rw [List.getElem?_set_ne (Ne.symm nij)]
        exact e1'
    · rintro σ' H' ⟨F', s', _, _⟩
      rw [hlen, prog_n] at s'
      exact h F' H' σ' s'
end
end PL

/-! P19 -/
set_option Elab.async false
set_option linter.all false
set_option maxRecDepth 100000
set_option maxHeartbeats 4000000
/-! P19: a def that changes its first argument; nested stores. -/
namespace PL
open PySem PySem.Spec L2 PyProof.Rows
/-- a contract: the first argument is given away, the others are data, a truth comes back -/
structure CtM where
  run : O → List D → (Bool → Prop) → Prop
  mono : ∀ {o ds Q Q'}, (∀ b, Q b → Q' b) → run o ds Q → run o ds Q'
def spMv (G : Gx) (R : CtM) : Sp := fun vs H Q _ => ∃ (F0 : Hp) (v0 : V) (vs' : List V) (o : O) (A : List Addr) (ds : List D), vs = v0 :: vs' ∧ o.nb = true ∧ Same F0 H ∧ Ow G F0 H o v0 A ∧ A.Nodup ∧ ReL G F0 H ds vs' ∧
  R.run o ds (fun b => ∀ H' : Hp, (∀ a x, H a = some x → a ∉ A → H' a = some x) → Q (.bl b) H')
def startM (N : List Str) (o : O) (ds : List D) : List (Option O) := some o :: (ds.map (fun d => some (.im d)) ++ List.replicate (N.length - (ds.length + 1)) none)
open Classical in
noncomputable def offH (H : Hp) (A : List Addr) : Hp := fun a => if a ∈ A then none else H a
section
variable {P : Program} {w : World} {K : PySem.W.Frag} {mg : Str → Option Value} {base : Heap} {G : Gx}
theorem ok_mv {x qual : Str} {st : Stmt} {f : Addr} {fd : FuncData} {N ps : List Str} {k : Nat} {R : CtM} {p : WS} (F : Fun K x qual st f fd) (S : FnScope N ps (defScope st)) (len : ∀ o ds Q, R.run o ds Q → ds.length + 1 = ps.length)
    (hbody : ∀ (c : Cc) (cdv : Value) (A : Around) (outer : List Env) (s : Shared) (H : Hp) (E : XK), c.G = G → Room k (A.deeper (PyProof.Rows.envOfC qual (defScope st) s.heap.objs.size f cdv)) →
      SSs (cxOf (L2.CX P w) P w K mg base N qual (defScope st) f cdv A outer s H E) c (fun cls d _ H => E cls d H) (defBody st) p)
    (pure : ∀ o ds Q, R.run o ds Q → p.run (startM N o ds) { nx := fun _ => False, rt := fun o => ∃ b, o = O.t b ∧ Q b, ex := fun _ _ => False }) : FnOk P w K mg base (L2.CX P w) (k + 1) f fd ps (spMv G R) := by
  refine F.okX S (fun vs H Q E ⟨F0, v0, vs', o, A, ds, e, _, _, _, _, r, h⟩ => by subst e; rw [List.length_cons, ← r.length]; exact len _ _ _ h) (fun cdv Ar outer s H vs Q E hr ⟨F0, v0, vs', o, A, ds, e, nb, sm, ho, nd, r, h⟩ => ?_)
  subst e
  have off : ∀ a, a ∈ A → offH H A a = none := fun a h => by unfold offH; rw [if_pos h]
  have on : ∀ a, a ∉ A → offH H A a = H a := fun a h => by unfold offH; rw [if_neg h]
  have own := Ow.own ho
  refine ⟨_, hbody ⟨G, F0, offH H A⟩ cdv Ar outer s H E rfl hr, ?_⟩
  refine ⟨⟨F0, PL.frz F0 H A⟩, startM N o ds, [], [], (fun o ho => by cases ho), ⟨Same.refl _, frz_same fun a ha => (own a ha).1, frz_sub sm, fun a u q => ?_, fun _ _ => rfl, [], A, ⟨rfl, rfl⟩, ?_, nd, fun a ha => off a ha, (fun a ha => by cases ha), fun a ha => frz_in ha⟩,
    p.le (pure o ds _ h) ⟨fun S' z => z.elim, fun o ⟨b, e, z⟩ F' H' v S' σ' s' => ?_, fun _ z => z.elim, fun _ z => z.elim, fun S' e z => z.elim⟩⟩
  · have q' : offH H A a = some u := q
    by_cases hm : a ∈ A
    · rw [off a hm] at q'; cases q'
    · rw [on a hm] at q'; exact q'
  · unfold startM L2.start
    have := SlL.start (m := N.length - (ds.length + 1)) r
    rw [List.length_cons, ← r.length]
    exact ⟨v0, _, A, [], rfl, by simp, ho, this⟩
  · subst e
    have hv := s'.bl
    subst hv
    refine z H' fun a x q n => s'.old a x ?_
    show offH H A a = some x
    rw [on a n]; exact q
end
section
variable {c : Cc} {F : Fz} {H : Hp} {Ts : List O} {ts : List V} {S : List (Option O)} {σ : L2.St}
/-- what was given away is gone -/
theorem Sv.gone {w : O} {v : V} (s : Sv c F H (w :: Ts) (v :: ts) S σ) : ∃ A, Vw c.G F H w v A ∧ A.Nodup ∧ (∀ a ∈ A, F.B a = none) ∧ ∀ H' : Hp, (∀ a x, H a = some x → a ∉ A → H' a = some x) → Sv c F H' Ts ts S σ := by
  obtain ⟨A, C, ⟨v', vr, A1, A2, e, eA, h, r⟩, hC, nd, no, nA, nC⟩ := s.own
  cases e
  subst eA
  rw [List.append_assoc] at nd no
  have nd1 := (List.nodup_append.mp nd).1
  have out : ∀ a ∈ A2 ++ C, a ∉ A1 := fun a ha h1 => (List.nodup_append.mp nd).2.2 a h1 a ha rfl
  refine ⟨A1, h, nd1, fun a ha => nA a (List.mem_append_left _ ha), fun H' st => ?_⟩
  have kp : Keep H H' := fun b u q nl => st b u q fun hb => by
    obtain ⟨_, vs, e⟩ := h.own b hb
    rw [e] at q; cases q
    exact nl _ rfl
  have same : ∀ a ∈ A2 ++ C, H' a = H a := fun a ha => by
    have : ∃ vs, H a = some (.lst vs) := by
      rcases List.mem_append.mp ha with h | h
      · exact (r.own a h).2
      · exact (hC.own a h).2
    obtain ⟨vs, e⟩ := this
    rw [e]
    exact st a _ e (out a ha)
  refine ⟨s.ext, s.fb, fun a u q => ?_, fun a u q => ?_, s.dom, A2, C, r.monoK (Same.refl _) (Same.refl _) kp (fun a ha => ⟨(r.own a ha).1, same a (List.mem_append_left _ ha)⟩), hC.monoAt kp (fun a ha => same a (List.mem_append_right _ ha)), (List.nodup_append.mp nd).2.1, fun a ha => no a (List.mem_append_right _ ha), fun a ha => nA a (List.mem_append_right _ ha), fun a ha => (nC a ha).trans (same a (List.mem_append_right _ ha)).symm⟩
  · exact st a u (s.bh a u q) fun hm => by rw [nA a (List.mem_append_left _ hm)] at q; cases q
  · exact st a u (s.old a u q) fun hm => by rw [no a (List.mem_append_left _ hm)] at q; cases q
end
structure DMv (P : Program) (w : World) (K : PySem.W.Frag) (mg : Str → Option Value) (base : Heap) (x : Str) (k : Nat) (G : Gx) (R : CtM) : Prop where
  ex : ∃ f fd ps, FnOk P w K mg base (L2.CX P w) k f fd ps (spMv G R) ∧ mg x = some (.ref f) ∧ PySem.W.keepIn K (.ref f) = true ∧ Binds K fd ps []
section
variable {X : Cx} {c : Cc} {W : WX} {a : Expr} {pa : W1 O} {es : List Expr} {q : W1 (List O)} {pos : Pos}
/-- return A and f(x, ..), x given away -/
def sRetMv (i : Nat) (pa : W1 O) (q : W1 (List O)) (R : CtM) : WS := ⟨fun S D => pa.run S (fun o => ∃ b, o = O.t b ∧ if b = true then (∃ w, S[i]? = some (some w) ∧ q.run (S.set i none) (fun os => R.run w (O.erL os) (fun b => D.rt (O.t b))) (fun _ => False)) else D.rt (O.t false)) (D.ex S),
  fun l h => pa.mono (fun o ⟨b, e, z⟩ => ⟨b, e, by
    cases b
    · rw [if_neg Bool.false_ne_true] at z ⊢
      exact l.rt _ z
    · rw [if_pos rfl] at z ⊢
      obtain ⟨w, ew, y⟩ := z
      exact ⟨w, ew, q.mono (fun os y => R.mono (fun b => l.rt _) y) (fun _ z => z) y⟩⟩) (fun e z => l.ex _ e z) h⟩
theorem ss_retMv {k j i : Nat} {R : CtM} {f x : Str} {p p2 pos pos2 pos3 : Pos} (M : DMv X.prog X.w X.K X.mg X.base f k c.G R) (hr : Room j X.A) (hk : k ≤ j) (tk : Takes X W) (ha : SE X c W a pa) (hN : X.N[i]? = some x) (he : SA X c W es q)
    (hv : Vis X.env.scope x := by first | exact Or.inl rfl | exact Or.inr (Or.inl rfl) | exact Or.inr (Or.inr rfl)) (hd : (x == ("__debug__" : Str)) = false := by decide) (hcd : (x == ("__classdict__" : Str)) = false := by decide) (hg : Gl X f := by rfl) (hdb : (f == ("__debug__" : Str)) = false := by decide)
    (hs1 : starEach (.Name x p2 :: es) X.env = (false, eval (.Name x p2) X.env) :: starEach es X.env := by rfl) (hpl : (backTo pos2 (starEach es X.env)).any (·.1) = false := by rfl) :
    SS X c W (.Return (some (.BoolOp .And [a, .Call (.Name f p) (.Name x p2 :: es) [] pos2] pos)) pos3) (sRetMv i pa q R) := by
  obtain ⟨ff, fd, ps, F, hm, hkp, hb⟩ := M.ex
  refine PS.imp (ps_ret (pe_and ha (pe_one (pe_callSD (dvs := []) F (hr.mono hk) hg hm hkp hb .nil (fun σ => passAt tk σ) (pa_cons (pe_var hN hv hd hcd) he hs1) hdb hs1 hpl)))) fun D σ H ⟨F, S, Ts, ts, nb, s, h⟩ => ?_
  refine ⟨F, S, Ts, ts, s, pa.mono (fun o ⟨b, eo, z⟩ F1 H1 v s1 => ?_) (fun e z => exK.st z) h⟩
  subst eo
  refine ⟨b, s1.bl, ?_⟩
  cases b
  · rw [if_neg Bool.false_ne_true] at z ⊢
    exact z F1 H1 _ _ _ (s1.pop.pushIm rfl)
  · rw [if_pos rfl] at z ⊢
    obtain ⟨w, ew, y⟩ := z
    obtain ⟨v0, F2, _, e0, nbw, s2⟩ := s1.pop.move nb ew
    refine ⟨v0, e0, F2, S.set i none, w :: Ts, v0 :: ts, s2, q.mono (fun os hR F3 H3 vs s3 el => ?_) (fun _ z => z.elim) y⟩
    obtain ⟨B, sB, s4, rel⟩ := s3.lend el
    obtain ⟨A, hA, ndA, nB, gone⟩ := s4.gone
    have ow : Ow c.G B H3 w v0 A := by
      have h1 := Vw.ow (F := ⟨F3.F, B⟩) nbw hA
      exact Ow.mono s4.fb (Keep.refl H3) w v0 A (fun a ha => ⟨nB a ha, rfl⟩) h1
    rw [List.append_nil]
    refine ⟨B, v0, vs, w, A, O.erL os, rfl, nbw, s4.bh, ow, ndA, rel, R.mono (fun b hb H' st => ?_) hR⟩
    exact hb _ H' _ _ _ ((gone H' st).pushIm rfl)
/-- x[k][l] = e -/
def sStore2 (i : Nat) (p q r : W1 O) : WS := ⟨fun S D => ∃ acc, S[i]? = some (some (.ls acc)) ∧ p.run S (fun o => o.nb = true ∧ q.run S (fun k => ∃ n j row, k = O.i n ∧ ixN acc.length n = some j ∧ acc[j]? = some (.ls row) ∧ r.run S (fun l => ∃ m jj, l = O.i m ∧ ixN row.length m = some jj ∧
    D.nx (S.set i (some (.ls (acc.set j (.ls (row.set jj o))))))) (D.ex S)) (D.ex S)) (D.ex S),
  fun l ⟨a, e, h⟩ => ⟨a, e, p.mono (fun o ⟨n, z⟩ => ⟨n, q.mono (fun k ⟨m, j, row, e1, e3, e4, y⟩ => ⟨m, j, row, e1, e3, e4, r.mono (fun u ⟨m2, jj, f1, f2, f3⟩ => ⟨m2, jj, f1, f2, l.nx _ f3⟩) (fun e z => l.ex _ e z) y⟩) (fun e z => l.ex _ e z) z⟩) (fun e z => l.ex _ e z) h⟩⟩
end
end PL

/-! P20 -/
set_option Elab.async false
set_option linter.all false
set_option maxRecDepth 100000
set_option maxHeartbeats 4000000
/-! P20: x[k][l] = e, with plain indices. -/
namespace PL
open PySem PySem.Spec L2 PyProof.Rows
/-- an index that changes nothing -/
def SI0 (X : Cx) (c : Cc) (e : Expr) (f : List (Option O) → Int → Prop) : Prop :=
  ∃ g : L2.St → Int → Prop, PE X e (fun σ H Q => ∃ n, g σ n ∧ Q (.int n) H) ∧ ∀ F H Ts ts S σ n, Sv c F H Ts ts S σ → f S n → g σ n
def xV (i : Nat) : List (Option O) → Int → Prop := fun S n => S[i]? = some (some (O.i n))
def xC (k : Int) : List (Option O) → Int → Prop := fun _ n => n = k
def xAdd (f g : List (Option O) → Int → Prop) : List (Option O) → Int → Prop := fun S n => ∃ a b, f S a ∧ g S b ∧ n = a + b
def xSub (f g : List (Option O) → Int → Prop) : List (Option O) → Int → Prop := fun S n => ∃ a b, f S a ∧ g S b ∧ n = a - b
section
variable {X : Cx} {c : Cc} {W : WX} {e e1 e2 : Expr} {f f1 f2 : List (Option O) → Int → Prop} {pos : Pos}
theorem sx_V (i : Nat) {x : Str} {pos : Pos} (hN : X.N[i]? = some x := by rfl) (hv : Vis X.env.scope x := by first | exact Or.inl rfl | exact Or.inr (Or.inl rfl) | exact Or.inr (Or.inr rfl))
    (hd : (x == ("__debug__" : Str)) = false := by decide) (hcd : (x == ("__classdict__" : Str)) = false := by decide) : SI0 X c (.Name x pos) (xV i) :=
  ⟨fun σ n => σ[i]? = some (some (.int n)), PE.imp (pe_var hN hv hd hcd) fun σ H Q ⟨n, e, q⟩ => ⟨.int n, e, q⟩, fun F H Ts ts S σ n s e => by
    obtain ⟨v, ev, A, h⟩ : ∃ v, σ[i]? = some (some v) ∧ ∃ A, Vw c.G F H (O.i n) v A := by
      obtain ⟨v, ev, h⟩ := s.view e
      exact ⟨v, ev, [], h⟩
    have : v = .int n := (show _ ∧ _ from h).2
    rw [ev, this]⟩
theorem sx_C {k : Int} {j pos} : SI0 X c (.Constant (.int k) j pos) (xC k) :=
  ⟨fun σ n => n = k, PE.imp pe_int fun σ H Q ⟨n, e, q⟩ => by subst e; exact q, fun F H Ts ts S σ n s e => e⟩
theorem sx_add (h1 : SI0 X c e1 f1) (h2 : SI0 X c e2 f2) : SI0 X c (.BinOp e1 .Add e2 pos) (xAdd f1 f2) := by
  obtain ⟨g1, p1, i1⟩ := h1
  obtain ⟨g2, p2, i2⟩ := h2
  refine ⟨fun σ n => ∃ a b, g1 σ a ∧ g2 σ b ∧ n = a + b, PE.imp (pe_add p1 p2) fun σ H Q ⟨n, ⟨a, b, ha, hb, e⟩, q⟩ => ?_, fun F H Ts ts S σ n s ⟨a, b, ha, hb, e⟩ => ⟨a, b, i1 _ _ _ _ _ _ _ s ha, i2 _ _ _ _ _ _ _ s hb, e⟩⟩
  subst e
  exact ⟨a, ha, b, hb, a, b, rfl, rfl, q⟩
theorem sx_sub (h1 : SI0 X c e1 f1) (h2 : SI0 X c e2 f2) : SI0 X c (.BinOp e1 .Sub e2 pos) (xSub f1 f2) := by
  obtain ⟨g1, p1, i1⟩ := h1
  obtain ⟨g2, p2, i2⟩ := h2
  refine ⟨fun σ n => ∃ a b, g1 σ a ∧ g2 σ b ∧ n = a - b, PE.imp (pe_sub p1 p2) fun σ H Q ⟨n, ⟨a, b, ha, hb, e⟩, q⟩ => ?_, fun F H Ts ts S σ n s ⟨a, b, ha, hb, e⟩ => ⟨a, b, i1 _ _ _ _ _ _ _ s ha, i2 _ _ _ _ _ _ _ s hb, e⟩⟩
  subst e
  exact ⟨a, ha, b, hb, a, b, rfl, rfl, q⟩
/-- x[k][l] = e -/
def sSt2 (i : Nat) (p : W1 O) (f1 f2 : List (Option O) → Int → Prop) : WS := ⟨fun S D => ∃ acc, S[i]? = some (some (.ls acc)) ∧ p.run S (fun o => o.nb = true ∧ ∃ n j row m jj, f1 S n ∧ ixN acc.length n = some j ∧ acc[j]? = some (.ls row) ∧ f2 S m ∧ ixN row.length m = some jj ∧
    D.nx (S.set i (some (.ls (acc.set j (.ls (row.set jj o))))))) (D.ex S),
  fun l ⟨a, e, h⟩ => ⟨a, e, p.mono (fun o ⟨n, m, j, row, m2, jj, a1, a2, a3, a4, a5, a6⟩ => ⟨n, m, j, row, m2, jj, a1, a2, a3, a4, a5, l.nx _ a6⟩) (fun e z => l.ex _ e z) h⟩⟩
theorem ss_st2 (i : Nat) {k l : Expr} {pe : W1 O} {x : Str} {p2 p3 p4 : Pos} (he : SE X c W e pe) (hk : SI0 X c k f1) (hl : SI0 X c l f2) (hN : X.N[i]? = some x := by rfl) (hv : Vis X.env.scope x := by first | exact Or.inl rfl | exact Or.inr (Or.inl rfl) | exact Or.inr (Or.inr rfl))
    (hd : (x == ("__debug__" : Str)) = false := by decide) (hcd : (x == ("__classdict__" : Str)) = false := by decide) (hp : PlainIx k := by exact fun _ _ => rfl)
    (ha : ∀ v, assign (.Subscript (.Subscript (.Name x p2) k p4) l p3) X.env v = (do
      let ov ← holding [v] (eval (.Subscript (.Name x p2) k p4) X.env)
      let iv ← holding [v, ov] (eval l X.env)
      standAt p3
      holding [v, ov, iv] (setItem ov iv v)
      release [v, ov, iv] []) := by intro _; rfl)
    (hs : swapsWithSole [.Subscript (.Subscript (.Name x p2) k p4) l p3] e pos.line X.env = pure false := by rfl) (hw : swappedStores [.Subscript (.Subscript (.Name x p2) k p4) l p3] e X.env = pure none := by rfl)
    (h1 : (assignEach [.Subscript (.Subscript (.Name x p2) k p4) l p3] X.env).map (·.2) = [assign (.Subscript (.Subscript (.Name x p2) k p4) l p3) X.env] := by rfl) :
    SS X c W (.Assign [.Subscript (.Subscript (.Name x p2) k p4) l p3] e pos) (sSt2 i pe f1 f2) := by
  obtain ⟨g1, P1, i1⟩ := hk
  obtain ⟨g2, P2, i2⟩ := hl
  refine PS.imp (ps_asg he (pg_sub (pe_ix ix_list (pe_var hN hv hd hcd) P1 hp) P2 set_list ha) hs hw h1) fun D σ H ⟨F, S, Ts, ts, nb, s, acc, ea, h⟩ => ?_
  refine ⟨F, S, Ts, ts, s, pe.mono (fun o ⟨n, m, j, row, m2, jj, a1, a2, a3, a4, a5, a6⟩ F1 H1 v s1 => ?_) (fun e z => exK.st z) h⟩
  obtain ⟨D1, xs, Dk, ys, e1, e2, e3, e4, e5, e6, e7, up⟩ := s1.upSlot2 (nb_cons n nb) ea a3
  refine ⟨_, e1, m, i1 _ _ _ _ _ _ _ s1 a1, D1, xs, m, .ref Dk, rfl, rfl, SqL.of e2, ?_, m2, i2 _ _ _ _ _ _ _ s1 a4, Dk, ys, m2, jj, rfl, rfl, e5, by rw [e6]; exact a5, ?_⟩
  · unfold atI
    rw [e3, a2]
    exact e4
  · obtain ⟨zl⟩ : ∃ _ : Unit, row.length ≤ sizeLine := ⟨(), by
      obtain ⟨A, C, _, hC, _⟩ := s1.own
      obtain ⟨v', B, _, ho, _⟩ := hC.get ea
      obtain ⟨_, _, _, _, _, _, _, z, ol⟩ := (show Ow c.G F1.F H1 (.ls acc) v' B from ho)
      exact OwL.rowZ ol a3⟩
    obtain ⟨F', s3⟩ := up (row.set jj o) (ys.set jj v) (by rw [List.length_set]; assumption) (UpOk.set (ixN_lt a5))
    exact a6 F' _ σ s3
where
  OwL.rowZ {G : Gx} {F H : Hp} {r : List O} : ∀ {acc : List O} {xs : List V} {B : List Addr} {k : Nat}, OwL G F H acc xs B → acc[k]? = some (.ls r) → r.length ≤ sizeLine
    | [], _, _, k, _, h => by simp at h
    | a :: acc, _, _, 0, ⟨v, vr, B1, B2, e, eB, h, t⟩, ha => by
      simp at ha
      subst ha
      obtain ⟨_, _, _, _, _, _, _, z, _⟩ := (show Ow G F H (.ls r) v B1 from h)
      exact z
    | a :: acc, _, _, k + 1, ⟨v, vr, B1, B2, e, eB, h, t⟩, ha => OwL.rowZ t (k := k) (by simpa using ha)
end
/-! isinstance with a tuple of classes -/
def PAT (X : Cx) (c : Cc) (ts : List Tc) (es : List Expr) : Prop := PA X es (fun σ H Q => Q (ts.map (Tc.v c.G)) H)
section
variable {X : Cx} {c : Cc} {W : WX}
theorem pat_nil : PAT X c [] [] := pa_nil
theorem pat_cons {t : Tc} {ts : List Tc} {x : Str} {p : Pos} {es : List Expr} (h : TcAt X.mg c.G x t) (r : PAT X c ts es) (hg : Gl X x := by rfl) (hn : x ≠ "__name__" := by decide) (hdb : (x == ("__debug__" : Str)) = false := by decide)
    (hs : starEach (.Name x p :: es) X.env = (false, eval (.Name x p) X.env) :: starEach es X.env := by rfl) : PAT X c (t :: ts) (.Name x p :: es) := pa_cons (pe_tcN h hg hn hdb) r hs
theorem se_isXT2 {a : Expr} {pa : W1 O} {pos : Pos} {ts : List Tc} {ns : List Xn} {es : List Expr} {p p2 : Pos} {kt : Nat} (hK : X.K = c.G.K) (hm : X.mg "isinstance" = none) (hne : ts ≠ []) (hl : ts.length ≤ sizeLine) (hes : PAT X c ts es) (f : ∀ t ∈ ts, IsF X.K c.G ns [] t) (ha : SE X c W a pa) (hg : Gl X "isinstance" := by rfl)
    (he : starEach [a, .Tuple es kt p2] X.env = (false, eval a X.env) :: starEach [.Tuple es kt p2] X.env := by rfl) (he2 : starEach [.Tuple es kt p2] X.env = (false, eval (.Tuple es kt p2) X.env) :: starEach [] X.env := by rfl) (hpl : (backTo pos (starEach [.Tuple es kt p2] X.env)).any (·.1) = false := by rfl) :
    SE X c W (.Call (.Name "isinstance" p) [a, .Tuple es kt p2] [] pos) (w1 pa (uIsXT ts ns)) := se_isXT hK hm hne hl hes f ha hg he he2 hpl
end
/-- a def whose first argument is given away keeps its contract -/
def KeepsM (N : List Str) (w : WS) (R : CtM) : Prop := ∀ o ds Q, R.run o ds Q → w.run (startM N o ds) { nx := fun _ => False, rt := fun o => ∃ b, o = O.t b ∧ Q b, ex := fun _ _ => False }
section
variable {P : Program} {w : World} {K : PySem.W.Frag} {mg : Str → Option Value} {base : Heap} {G : Gx}
theorem dmv_of {x qual : Str} {st : Stmt} {N ps : List Str} {k : Nat} {R : CtM} {p : WS} (T : AtD K mg x qual st) (S : FnScope N ps (defScope st)) (bd : ∀ f fd, Fun K x qual st f fd → Binds K fd ps []) (len : ∀ o ds Q, R.run o ds Q → ds.length + 1 = ps.length)
    (hbody : ∀ (f : Addr) (c : Cc) (cdv : Value) (A : Around) (outer : List Env) (s : Shared) (H : Hp) (E : XK), c.G = G → Room k (A.deeper (PyProof.Rows.envOfC qual (defScope st) s.heap.objs.size f cdv)) →
      SSs (cxOf (L2.CX P w) P w K mg base N qual (defScope st) f cdv A outer s H E) c (fun cls d _ H => E cls d H) (defBody st) p)
    (pure : KeepsM N p R) : DMv P w K mg base x (k + 1) G R := by
  obtain ⟨f, fd, F, hm⟩ := T.ex
  exact ⟨f, fd, ps, ok_mv F S len (hbody f) pure, hm, F.kp, bd f fd F⟩
end
end PL

/-! D6 -/
set_option Elab.async false
set_option linter.all false
set_option maxRecDepth 100000
set_option maxHeartbeats 4000000
/-! D6: rows and tables of numbers; equality of data. -/
namespace PL
open PySem PySem.Spec L2
abbrev rng {α : Type} (n : Nat) (f : Nat → α) : List α := (List.range n).map f
def vec (N : FK) (n : Nat) (f : Nat → N.T) : D := .lst (rng n fun i => N.enc (f i))
def tab (N : FK) (n m : Nat) (f : Nat → Nat → N.T) : D := .lst (rng n fun i => vec N m (f i))
def vecO (N : FK) (n : Nat) (f : Nat → N.T) : O := .ls (rng n fun i => .im (N.enc (f i)))
def tabO (N : FK) (n m : Nat) (f : Nat → Nat → N.T) : O := .ls (rng n fun i => vecO N m (f i))
theorem rng_len {α : Type} {n : Nat} {f : Nat → α} : (rng n f).length = n := by simp [rng]
theorem rng_map {α β : Type} {n : Nat} {f : Nat → α} {g : α → β} : (rng n f).map g = rng n fun i => g (f i) := by simp [rng, List.map_map]
theorem rng_get {α : Type} {n i : Nat} {f : Nat → α} (h : i < n) : (rng n f)[i]? = some (f i) := by simp [rng, h]
theorem rng_at {α : Type} {n i : Nat} {f : Nat → α} {a : α} (h : (rng n f)[i]? = some a) : i < n ∧ a = f i := by
  have hi : i < n := by
    have := (List.getElem?_eq_some_iff.mp h).1
    simpa [rng] using this
  rw [rng_get hi] at h
  cases h
  exact ⟨hi, rfl⟩
theorem rng_congr {α : Type} {n : Nat} {f g : Nat → α} (h : ∀ i, i < n → f i = g i) : rng n f = rng n g := List.map_congr_left fun i hi => h i (List.mem_range.mp hi)
theorem rng_snoc {α : Type} {n : Nat} {f : Nat → α} : rng n f ++ [f n] = rng (n + 1) f := by simp [rng, List.range_succ]
theorem rng_zero {α : Type} {f : Nat → α} : rng 0 f = [] := rfl
theorem rng_set {α : Type} {n j : Nat} {f : Nat → α} {a : α} : (rng n f).set j a = rng n fun i => if i = j then a else f i := by
  apply List.ext_getElem?
  intro i
  by_cases hi : i < n
  · by_cases h : j = i
    · subst h
      rw [List.getElem?_set_self (by simpa [rng] using hi), rng_get hi, if_pos rfl]
    · rw [List.getElem?_set_ne h, rng_get hi, rng_get hi, if_neg (fun e => h e.symm)]
  · rw [List.getElem?_eq_none (by simp [rng]; omega), List.getElem?_eq_none (by simp [rng]; omega)]
theorem rng_self {α : Type} {l : List α} (d : α) : l = rng l.length fun i => l.getD i d := by
  apply List.ext_getElem?
  intro i
  by_cases hi : i < l.length
  · rw [rng_get hi, List.getElem?_eq_getElem hi, List.getD_eq_getElem?_getD, List.getElem?_eq_getElem hi]; rfl
  · rw [List.getElem?_eq_none (by omega), List.getElem?_eq_none (by simp [rng]; omega)]
theorem rng_zip {α β γ : Type} {n m : Nat} {f : Nat → α} {g : Nat → β} {h : α → β → γ} : List.zipWith h (rng n f) (rng m g) = rng (min n m) fun i => h (f i) (g i) := by
  apply List.ext_getElem?
  intro i
  by_cases hi : i < min n m
  · rw [List.getElem?_zipWith, rng_get hi, rng_get (by omega), rng_get (by omega)]
  · rw [List.getElem?_eq_none (by simp [rng]; omega), List.getElem?_eq_none (by simp [rng]; omega)]
theorem rng_rev {α : Type} {n : Nat} {f : Nat → α} : (rng n f).reverse = rng n fun i => f (n - 1 - i) := by
  apply List.ext_getElem?
  intro i
  by_cases hi : i < n
  · rw [List.getElem?_reverse (by simpa [rng] using hi), rng_len, rng_get hi, rng_get (by omega)]
  · rw [List.getElem?_eq_none (by simp [rng]; omega), List.getElem?_eq_none (by simp [rng]; omega)]
theorem rng_mem {α : Type} {n : Nat} {f : Nat → α} {a : α} : a ∈ rng n f ↔ ∃ i, i < n ∧ f i = a := by simp [rng]
theorem rng_append {α : Type} {n m : Nat} {f g : Nat → α} : rng n f ++ rng m g = rng (n + m) fun i => if i < n then f i else g (i - n) := by
  apply List.ext_getElem?
  intro i
  by_cases hi : i < n
  · rw [List.getElem?_append_left (by simpa [rng] using hi), rng_get hi, rng_get (by omega), if_pos hi]
  · rw [List.getElem?_append_right (by simpa [rng] using hi), rng_len]
    by_cases hm : i < n + m
    · rw [rng_get (show i - n < m by omega), rng_get hm, if_neg hi]
    · rw [List.getElem?_eq_none (by simp [rng]; omega), List.getElem?_eq_none (by simp [rng]; omega)]
theorem atI_rng {α : Type} {n i : Nat} {f : Nat → α} (h : i < n) : atI (rng n f) (i : Int) = some (f i) := by rw [atI_ix, rng_get h]
theorem atI_rng0 {α : Type} {n : Nat} {f : Nat → α} (h : 0 < n) : (rng n f)[0]? = some (f 0) := rng_get h
theorem intL_rng {n : Nat} : intL 0 n = rng n fun i => O.i (i : Int) := by
  unfold intL rng
  exact List.map_congr_left fun i _ => by rw [Int.zero_add]
theorem intL_rngk {k n : Nat} : intL (k : Int) n = rng n fun i => O.i ((k + i : Nat) : Int) := by
  unfold intL rng
  exact List.map_congr_left fun i _ => by simp
theorem erL_rng {n : Nat} {u : Nat → O} : O.erL (rng n u) = rng n fun i => (u i).er := by rw [O.erL_map, rng_map]
theorem all_rng {n : Nat} {u : Nat → O} (h : ∀ i, (u i).nb = true) : (rng n u).all O.nb = true := by
  rw [List.all_eq_true]
  intro x hx
  obtain ⟨i, _, rfl⟩ := rng_mem.mp hx
  exact h i
theorem tidyL_rng {n : Nat} {u : Nat → O} (h : ∀ i, i < n → (u i).tidy = true) : O.tidyL (rng n u) = true := by
  have : ∀ l : List O, (∀ x ∈ l, x.tidy = true) → O.tidyL l = true := by
    intro l
    induction l with
    | nil => intro _; rfl
    | cons a l ih => intro hl; unfold O.tidyL; rw [hl a List.mem_cons_self, ih fun x hx => hl x (List.mem_cons_of_mem _ hx)]; rfl
  refine this _ fun x hx => ?_
  obtain ⟨i, hi, rfl⟩ := rng_mem.mp hx
  exact h i hi
theorem er_vecO {N : FK} {n : Nat} {f : Nat → N.T} : (vecO N n f).er = vec N n f := by unfold vecO vec; rw [er_ls, erL_rng]; rfl
theorem er_tabO {N : FK} {n m : Nat} {f : Nat → Nat → N.T} : (tabO N n m f).er = tab N n m f := by
  unfold tabO tab
  rw [er_ls, erL_rng]
  simp only [er_vecO]
theorem nb_vecO {N : FK} {n : Nat} {f : Nat → N.T} : (vecO N n f).nb = true := rfl
theorem nb_tabO {N : FK} {n m : Nat} {f : Nat → Nat → N.T} : (tabO N n m f).nb = true := rfl
theorem tidy_vecO {N : FK} {n : Nat} {f : Nat → N.T} : (vecO N n f).tidy = true := tidyL_rng fun i _ => flat_enc N
theorem tidy_tabO {N : FK} {n m : Nat} {f : Nat → Nat → N.T} : (tabO N n m f).tidy = true := tidyL_rng fun i _ => tidy_vecO
theorem vec_congr {N : FK} {n : Nat} {f g : Nat → N.T} (h : ∀ i, i < n → f i = g i) : vec N n f = vec N n g := by unfold vec; rw [rng_congr fun i hi => by rw [h i hi]]
theorem tab_congr {N : FK} {n m : Nat} {f g : Nat → Nat → N.T} (h : ∀ i j, i < n → j < m → f i j = g i j) : tab N n m f = tab N n m g := by
  unfold tab
  rw [rng_congr fun i hi => vec_congr fun j hj => h i j hi hj]
/-! items -/
theorem its_im_vec {N : FK} {n : Nat} {f : Nat → N.T} : O.its (.im (vec N n f)) = some (rng n fun i => .im (N.enc (f i))) := by unfold vec; rw [its_iml, rng_map]
theorem its_bo_vec {N : FK} {n : Nat} {f : Nat → N.T} : O.its (.bo (vec N n f)) = some (rng n fun i => .im (N.enc (f i))) := by unfold vec; rw [its_bol, rng_map]; simp only [mkBo_enc]
theorem its_im_tab {N : FK} {n m : Nat} {f : Nat → Nat → N.T} : O.its (.im (tab N n m f)) = some (rng n fun i => .im (vec N m (f i))) := by unfold tab; rw [its_iml, rng_map]
theorem mkBo_vec {N : FK} {n : Nat} {f : Nat → N.T} : mkBo (vec N n f) = .bo (vec N n f) := rfl
theorem its_bo_tab {N : FK} {n m : Nat} {f : Nat → Nat → N.T} : O.its (.bo (tab N n m f)) = some (rng n fun i => .bo (vec N m (f i))) := by unfold tab; rw [its_bol, rng_map]; simp only [mkBo_vec]
theorem len_vec {N : FK} {n : Nat} {f : Nat → N.T} : D.len (vec N n f) = some n := by unfold vec; rw [len_lst, rng_len]
theorem len_tab {N : FK} {n m : Nat} {f : Nat → Nat → N.T} : D.len (tab N n m f) = some n := by unfold tab; rw [len_lst, rng_len]
theorem isTrk_vec {N : FK} {n : Nat} {f : Nat → N.T} : O.isTrk (.im (vec N n f)) = true := rfl
theorem isTrk_tab {N : FK} {n m : Nat} {f : Nat → Nat → N.T} : O.isTrk (.im (tab N n m f)) = true := rfl
theorem isL_vec {N : FK} {n : Nat} {f : Nat → N.T} : O.isL (.im (vec N n f)) = true := rfl
theorem isL_tab {N : FK} {n m : Nat} {f : Nat → Nat → N.T} : O.isL (.im (tab N n m f)) = true := rfl
theorem isTrk_bvec {N : FK} {n : Nat} {f : Nat → N.T} : O.isTrk (.bo (vec N n f)) = true := rfl
theorem isTrk_btab {N : FK} {n m : Nat} {f : Nat → Nat → N.T} : O.isTrk (.bo (tab N n m f)) = true := rfl
theorem isL_bvec {N : FK} {n : Nat} {f : Nat → N.T} : O.isL (.bo (vec N n f)) = true := rfl
theorem isL_btab {N : FK} {n m : Nat} {f : Nat → Nat → N.T} : O.isL (.bo (tab N n m f)) = true := rfl
theorem vw_vecO {N : FK} {n : Nat} {f : Nat → N.T} : O.vw (vecO N n f) = .bo (vec N n f) := by rw [← er_vecO]; rfl
theorem vw_tabO {N : FK} {n m : Nat} {f : Nat → Nat → N.T} : O.vw (tabO N n m f) = .bo (tab N n m f) := by rw [← er_tabO]; rfl
theorem fz_im' {d : D} : O.fz (.im d) = .im d := rfl
theorem ty_vec {N : FK} {n : Nat} {f : Nat → N.T} : D.ty (vec N n f) = some "list" := rfl
theorem ty_tab {N : FK} {n m : Nat} {f : Nat → Nat → N.T} : D.ty (tab N n m f) = some "list" := rfl
theorem parts_imt {ds : List D} : O.parts (.im (.tup ds)) = some (ds.map .im) := rfl
theorem parts_tp {os : List O} : O.parts (.tp os) = some os := rfl
/-! loops over a range -/
theorem lcI_rng {n : Nat} {h : Nat → O} {g : WG} {e : W1 O} {S : List (Option O)} {Q : O → Prop} (u : Nat → O) (H : ∀ i, i < n → g.run (h i) S (fun S2 => e.run S2 (fun v => v.nb = true ∧ v = u i) (fun _ => False))) (q : Q (.ls (rng n u))) : lcI (rng n h) g wYes e S Q := by
  refine ⟨fun i acc => i ≤ n → acc = rng i u, fun _ => rfl, fun i o acc ho ha => ?_, fun acc ha => ?_⟩
  · obtain ⟨hi, rfl⟩ := rng_at ho
    have ha' := ha (Nat.le_of_lt hi)
    subst ha'
    refine g.mono (fun S2 z => ?_) (H i hi)
    simp only [wYes, W1.pure, if_true]
    refine W1.le e z (fun v k => ⟨k.1, fun _ => ?_⟩) (fun _ z => z)
    rw [k.2]
    exact rng_snoc
  · rw [rng_len] at ha
    rw [ha (Nat.le_refl _)]
    exact q
theorem forI_rng {n : Nat} {h : Nat → O} {g : WG} {p : WS} {S : List (Option O)} {D : PEnds} (I : Nat → List (Option O) → Prop) (h0 : I 0 S) (hs : ∀ i S, i < n → I i S → g.run (h i) S (fun S' => p.run S' ⟨I (i + 1), D.rt, D.nx, I (i + 1), D.ex⟩)) (hn : ∀ S, I n S → D.nx S) : forI (rng n h) g p S D :=
  ⟨I, h0, fun i o S ho hi => by
    obtain ⟨hi', rfl⟩ := rng_at ho
    exact hs i S hi' hi, fun S hS => hn S (by rwa [rng_len] at hS)⟩
/-! equality of data -/
def EqP (k : Nat) (d e : D) (P : Prop) : Prop := ∃ p q, d.py = some p ∧ e.py = some q ∧ p.canLay0 = true ∧ q.canLay0 = true ∧ p.depth ≤ k ∧ q.depth ≤ k ∧ (PyData.eqv p q = true ↔ P)
theorem EqP.enc {N : FK} {x y : N.T} {k : Nat} : EqP (k + 1) (N.enc x) (N.enc y) (x = y) := by
  cases N with
  | rs P =>
    refine ⟨_, _, rfl, rfl, rfl, rfl, Nat.zero_le _, Nat.zero_le _, ?_⟩
    show ((x.val : Int) == (y.val : Int)) = true ↔ x = y
    rw [beq_iff_eq]
    exact ⟨fun h => Zp.ext_int h, fun h => by rw [h]⟩
  | fr =>
    refine ⟨_, _, rfl, rfl, rfl, rfl, Nat.succ_le_succ (Nat.zero_le _), Nat.succ_le_succ (Nat.zero_le _), ?_⟩
    show ((x.num == y.num) && (((x.den : Int) == (y.den : Int)) && true)) = true ↔ x = y
    rw [Bool.and_true, Bool.and_eq_true, beq_iff_eq, beq_iff_eq]
    exact ⟨fun h => Rat.ext h.1 (by exact_mod_cast h.2), fun h => by rw [h]; exact ⟨rfl, rfl⟩⟩
theorem EqP.int {x y : Int} {k : Nat} : EqP k (.int x) (.int y) (x = y) := by
  refine ⟨_, _, rfl, rfl, rfl, rfl, Nat.zero_le _, Nat.zero_le _, ?_⟩
  show (x == y) = true ↔ x = y
  rw [beq_iff_eq]
theorem EqP.mono {k l : Nat} {d e : D} {P : Prop} (h : EqP k d e P) (kl : k ≤ l) : EqP l d e P := by
  obtain ⟨p, q, e1, e2, l1, l2, d1, d2, h⟩ := h
  exact ⟨p, q, e1, e2, l1, l2, Nat.le_trans d1 kl, Nat.le_trans d2 kl, h⟩
theorem EqP.pyL {k : Nat} {R : Nat → Prop} : ∀ {as bs : List D}, (∀ a ∈ as, ∃ b P, EqP k a b P) → (∀ b ∈ bs, ∃ a P, EqP k a b P) → (∀ i a b, as[i]? = some a → bs[i]? = some b → EqP k a b (R i)) →
    ∃ ps qs, D.pyL as = some ps ∧ D.pyL bs = some qs ∧ PyData.canLayAll0 ps = true ∧ PyData.canLayAll0 qs = true ∧ PyData.depthAll ps ≤ k ∧ PyData.depthAll qs ≤ k ∧ (PyData.eqvAll ps qs = true ↔ as.length = bs.length ∧ ∀ i, i < as.length → R i)
  | [], [], _, _, _ => ⟨[], [], rfl, rfl, rfl, rfl, Nat.zero_le _, Nat.zero_le _, ⟨fun _ => ⟨rfl, fun i h => absurd h (Nat.not_lt_zero _)⟩, fun _ => rfl⟩⟩
  | a :: as, [], ha, hb, h => by
    obtain ⟨b, P, p, q, e1, e2, l1, l2, d1, d2, z⟩ := ha a List.mem_cons_self
    obtain ⟨ps, qs, f1, f2, f3, f4, f5, f6, f7⟩ := EqP.pyL (k := k) (R := R) (as := as) (bs := []) (fun a h => ha a (List.mem_cons_of_mem _ h)) (fun b hb => nomatch hb) (fun i a b h1 h2 => by simp at h2)
    refine ⟨p :: ps, [], by unfold D.pyL; rw [e1, f1], rfl, by unfold PyData.canLayAll0; rw [l1, f3]; rfl, rfl, by unfold PyData.depthAll; omega, Nat.zero_le _, ⟨fun z => ?_, fun z => ?_⟩⟩
    · exact absurd z (by simp [PyData.eqvAll])
    · exact absurd z.1 (by simp)
  | [], b :: bs, ha, hb, h => by
    obtain ⟨a, P, p, q, e1, e2, l1, l2, d1, d2, z⟩ := hb b List.mem_cons_self
    obtain ⟨ps, qs, f1, f2, f3, f4, f5, f6, f7⟩ := EqP.pyL (k := k) (R := R) (as := []) (bs := bs) (fun b hb => nomatch hb) (fun a h => hb a (List.mem_cons_of_mem _ h)) (fun i a b h1 h2 => by simp at h1)
    refine ⟨[], q :: qs, rfl, by unfold D.pyL; rw [e2, f2], rfl, by unfold PyData.canLayAll0; rw [l2, f4]; rfl, Nat.zero_le _, by unfold PyData.depthAll; omega, ⟨fun z => ?_, fun z => ?_⟩⟩
    · exact absurd z (by simp [PyData.eqvAll])
    · exact absurd z.1 (by simp)
  | a :: as, b :: bs, ha, hb, h => by
    obtain ⟨p, q, e1, e2, l1, l2, d1, d2, z⟩ := h 0 a b rfl rfl
    obtain ⟨ps, qs, f1, f2, f3, f4, f5, f6, f7⟩ := EqP.pyL (k := k) (R := fun i => R (i + 1)) (as := as) (bs := bs) (fun a h => ha a (List.mem_cons_of_mem _ h)) (fun a h => hb a (List.mem_cons_of_mem _ h)) (fun i a b h1 h2 => h (i + 1) a b h1 h2)
    refine ⟨p :: ps, q :: qs, by unfold D.pyL; rw [e1, f1], by unfold D.pyL; rw [e2, f2], by unfold PyData.canLayAll0; rw [l1, f3]; rfl, by unfold PyData.canLayAll0; rw [l2, f4]; rfl, by unfold PyData.depthAll; omega, by unfold PyData.depthAll; omega, ?_⟩
    show (PyData.eqv p q && PyData.eqvAll ps qs) = true ↔ _
    rw [Bool.and_eq_true, z, f7]
    refine ⟨fun ⟨r0, e, r⟩ => ⟨by simp [e], fun i hi => ?_⟩, fun ⟨e, r⟩ => ⟨r 0 (by simp), by simpa using e, fun i hi => r (i + 1) (by simpa using hi)⟩⟩
    cases i with
    | zero => exact r0
    | succ i => exact r i (by simpa using hi)
theorem EqP.lst {k n m : Nat} {f g : Nat → D} {R : Nat → Prop} (hf : ∀ i, i < n → ∃ b P, EqP k (f i) b P) (hg : ∀ i, i < m → ∃ a P, EqP k a (g i) P) (h : ∀ i, i < n → i < m → EqP k (f i) (g i) (R i)) : EqP (k + 1) (.lst (rng n f)) (.lst (rng m g)) (n = m ∧ ∀ i, i < n → R i) := by
  obtain ⟨ps, qs, f1, f2, f3, f4, f5, f6, f7⟩ := EqP.pyL (k := k) (R := R) (as := rng n f) (bs := rng m g) (fun a ha => by
      obtain ⟨i, hi, rfl⟩ := rng_mem.mp ha
      exact hf i hi) (fun a ha => by
      obtain ⟨i, hi, rfl⟩ := rng_mem.mp ha
      exact hg i hi) (fun i a b h1 h2 => by
      obtain ⟨hi, rfl⟩ := rng_at h1
      obtain ⟨hj, rfl⟩ := rng_at h2
      exact h i hi hj)
  refine ⟨.list ps, .list qs, by unfold D.py; rw [f1]; rfl, by unfold D.py; rw [f2]; rfl, f3, f4, by unfold PyData.depth; omega, by unfold PyData.depth; omega, ?_⟩
  rw [rng_len, rng_len] at f7
  exact f7
theorem EqP.vec {N : FK} {n m : Nat} {f g : Nat → N.T} {k : Nat} : EqP (k + 2) (vec N n f) (vec N m g) (n = m ∧ ∀ i, i < n → f i = g i) :=
  EqP.lst (fun i _ => ⟨_, _, EqP.enc (y := f i)⟩) (fun i _ => ⟨_, _, EqP.enc (x := g i)⟩) fun i _ _ => EqP.enc
theorem EqP.tab {N : FK} {n m n' m' : Nat} {f g : Nat → Nat → N.T} {k : Nat} : EqP (k + 3) (tab N n m f) (tab N n' m' g) (n = n' ∧ ∀ i, i < n → m = m' ∧ ∀ j, j < m → f i j = g i j) :=
  EqP.lst (fun i _ => ⟨_, _, EqP.vec (m := m) (g := f i)⟩) (fun i _ => ⟨_, _, EqP.vec (n := m') (f := g i)⟩) fun i _ _ => EqP.vec
theorem EqP.iff {k : Nat} {d e : D} {P P' : Prop} (h : EqP k d e P) (i : P ↔ P') : EqP k d e P' := by
  obtain ⟨p, q, e1, e2, l1, l2, d1, d2, h⟩ := h
  exact ⟨p, q, e1, e2, l1, l2, d1, d2, h.trans i⟩
/-- the comparison, told -/
theorem EqP.run {k : Nat} {a b : O} {P : Prop} [Decidable P] {neg : Bool} {Q : O → Prop} (h : EqP k a.er b.er P) (hk : k ≤ 64) (q : Q (O.t (neg ^^ decide P))) : (uEq neg).run a b Q := by
  obtain ⟨p, r, e1, e2, l1, l2, d1, d2, h⟩ := h
  have eq : PyData.eqv p r = decide P := by
    cases he : PyData.eqv p r
    · exact (decide_eq_false fun z => by rw [h.mpr z] at he; cases he).symm
    · exact (decide_eq_true (h.mp he)).symm
  show uEqRun neg a b Q
  unfold uEqRun
  split
  · cases e1
    cases e2
    rename_i i j
    have e : decide (i = j) = PyData.eqv (.int i) (.int j) := by
      show _ = (i == j)
      rw [Bool.eq_iff_iff, beq_iff_eq, decide_eq_true_eq]
    rw [e, eq]; exact q
  · cases e1
    cases e2
    rename_i i j
    have e : decide (i = j) = PyData.eqv (.str i) (.str j) := by
      show _ = (i == j)
      rw [Bool.eq_iff_iff, beq_iff_eq, decide_eq_true_eq]
    rw [e, eq]; exact q
  · refine ⟨p, r, e1, e2, ?_, ?_, ?_⟩
    · unfold SeqAt.shaped; rw [l1, decide_eq_true (by omega)]; rfl
    · unfold SeqAt.shaped; rw [l2, decide_eq_true (by omega)]; rfl
    · rw [eq]; exact q
theorem EqP.yes {k : Nat} {d : D} {neg : Bool} {Q : O → Prop} {P : Prop} (h : EqP k d d P) (p : P) (hk : k ≤ 64) (q : Q (O.t (neg ^^ true))) : (uEq neg).run (.im d) (.im d) Q := by
  haveI : Decidable P := .isTrue p
  exact EqP.run (P := P) h hk (by rw [decide_eq_true p]; exact q)
end PL

/-! D7 -/
set_option Elab.async false
set_option linter.all false
set_option maxRecDepth 100000
set_option maxHeartbeats 4000000
/-! D7: what the table laws share: coded primes, kinds, cells; the first functions of tables. -/
namespace PL
open PySem PySem.Spec L2
theorem zipT_rng {n m : Nat} {f g : Nat → O} : zipT (rng n f) (rng m g) = rng (min n m) fun i => mkT [f i, g i] := rng_zip
theorem all_rng_im {n : Nat} {f : Nat → D} : (rng n fun i => O.im (f i)).all O.nb = true := all_rng fun _ => rfl
local macro_rules | `(tactic| walk_at "pl") => `(tactic| simp (config := { maxSteps := 1000000 }) only [sSeq, sIf, sRet, sRetV, sRetN, sAsg, sPar, sPar3, sAug, sNext, sExpr, sBreak, sCont, W1.pure, wV, wC, w1, w2, wT, wAnd, wOr, wNot, wAndV, wOrV, wNotV, wIf, wCons, wNil, wA, wL, wTp, wCall, uA1, uA2, uI, uIB, uIU, uEq_int, uEq_str, uEq_bl, uIsi, uLen, uInt, uIx, uCat, uLst, wSl, wItA, wR1, wR2, wZip, wEnum, wRev, wON, wOS, gF, gN, bodyK, startS,   nb_im, nb_ls, nb_tp, nb_bo, vw_im, vw_ls, vw_tp, er_im, er_bo, er_ls, er_tp, erL_nil, erL_cons, its_iml, its_imt, its_scr, its_bol, its_bot, its_ls, its_tp, trk_iml, trk_imt, trk_bot, trk_tp, isL_imt, isL_bot, isL_tp,  trk_bol, trk_ls, isL_iml, isL_scr, isL_bol, isL_ls, fz_im, fz_bo, fz_ls, fz_tp, ty_int, ty_bl, ty_str, ty_non, ty_tup, ty_lst, len_lst, len_tup, len_scr, all_nil, all_cons, Bool.and_self, true_or,   List.map_cons, List.map_nil, List.cons_append, List.nil_append, List.append_nil, List.length_cons, List.length_nil, List.replicate, List.getElem?_cons_zero, List.getElem?_cons_succ, List.set_cons_zero, List.set_cons_succ, List.set_nil, Option.some.injEq, exists_eq_left', exists_eq_left, exists_eq_right, exists_eq', exists_and_left, exists_and_right, and_true, true_and, and_assoc, O.im.injEq, D.int.injEq, D.bl.injEq, D.tup.injEq, D.lst.injEq, D.kd.injEq, D.scr.injEq, D.str.injEq, Ctr.fn, Ctr.rel, sFor_run, wLC_run, all_mem_nil, sRaise, uPrime, wMeth, wMeth1, sStore, sAppend, sExtend, k_fr, k_rs, wMkR, uIsX, uIsXT, sTry, sExpr, tidy_im, flat_int, flat_bl, flat_tup, flat_non, flat_str, flat_kd, flatL_nil, flatL_cons, isPo_b, Ctr.ex, Ctr.on, isFr_fr, isFr_rs, isRs_fr, isRs_rs, sigma_ex, D.kd.injEq, Kd.b.injEq, BK.rs.injEq, reduceCtorEq, false_and, and_false, exists_false, false_implies, true_implies, forall_const, List.mem_cons, List.not_mem_nil, or_false, isT_exn, isT_non, xT_x, xT_ve, xT_fe, n_kind, n_number, n_fit, n_turn, n_inverse, n_text, n_name, n_row, okS_exn, okS_non, decide_true, decide_false, eq_self, wCh, gLt, gLe, gGt, gGe, uEq_enc, mkT_1, mkT_2, mkT_3, mkT_4, mkBo_enc, mkBo_int, mkBo_bl, mkBo_str, mkBo_non, mkBo_kd, mkBo_lst, flat_enc, O.ls.injEq, mkBo_fr, false_or, isT_kd, okS_kd, flat_dic, kT_1, kT_2, kT_3, kT_4, kT_5, kT_6, er_vecO, er_tabO, nb_vecO, nb_tabO, tidy_vecO, tidy_tabO, its_im_vec, its_bo_vec, its_im_tab, its_bo_tab, len_vec, len_tab, isTrk_vec, isTrk_tab, isL_vec, isL_tab, isTrk_bvec, isTrk_btab, isL_bvec, isL_btab, vw_vecO, vw_tabO, fz_im', ty_vec, ty_tab, intL_rng, rng_len, rng_map, erL_rng, zipT_rng, Nat.min_self, all_rng_im, Int.toNat_natCast, gT, gspNames, gsC, gsN, parts_imt, parts_tp, xV, xC, xAdd, xSub, sForApp, sFz, sSt2, forall_eq_or_imp, List.length_range, implies_true, sRetMv, er_im, er_ls,  tidy_i, tidy_t, tidy_n, tidy_kd, or_true, Bool.and_true,  mkL_nb, all_map_i, all_map_im, cutA_map, cutA_63, take_map', drop_map',  its_lsi, erL_append, erL_mapi, map_im_int, List.map_append, List.all_append, List.length_map, List.length_append,  unr_cons, unr_nil, whole_int, Option.isSome_some,  all_mem_cons, atI_0, atI_1, atI_2, atI_3, atI_4, isB_int_int, isB_int_bool, isB_int_str, isB_int_tuple, isB_int_list, isB_bool_int, isB_bool_bool, isB_bool_str, isB_bool_tuple, isB_bool_list, isB_str_int, isB_str_bool, isB_str_str, isB_str_tuple, isB_str_list, isB_tuple_int, isB_tuple_bool, isB_tuple_str, isB_tuple_tuple, isB_tuple_list, isB_list_int, ty_dic, isB_dict_int, isB_dict_bool, isB_dict_str, isB_dict_tuple, isB_dict_list, mkL_0, isB_list_bool, isB_list_str, isB_list_tuple, isB_list_list, isB_NoneType_int, isB_NoneType_bool, isB_NoneType_str, isB_NoneType_tuple, isB_NoneType_list, Prod.exists, Prod.forall, forall_exists_index, and_imp, forall_eq, forall_eq', Bool.false_xor, Bool.true_xor, List.cons.injEq, Nat.reduceAdd, Nat.reduceSub, Nat.reduceLT, Nat.lt_add_one, Nat.zero_lt_succ, Nat.zero_add,   Bool.not_eq_true', Bool.not_eq_false', Bool.not_true, Bool.not_false, decide_eq_false_iff_not, decide_eq_true_eq, if_true, if_false, Bool.false_eq_true, Bool.true_eq_false, reduceIte])
local macro_rules | `(tactic| walk_at "ds") => `(tactic| repeat refine And.intro (by first | with_reducible rfl | decide | exact mulok_r (by decide) | exact mulok_l (by decide) | exact szL (by decide)) ?_)
def FK.code : FK → Int
  | .fr => 0
  | .rs P => P.p
theorem code_fr : FK.code .fr = 0 := rfl
theorem code_rs {P : Pr} : FK.code (.rs P) = P.p := rfl
structure Cs (cs : List Int) : Prop where
  pos : 0 < cs.length
  few : cs.length ≤ 65
  sz : ∀ z ∈ cs, Sz 1048577 z
theorem Cs.at {cs : List Int} (h : Cs cs) (j : Int) : Sz 1048577 (cellI cs j) := by
  unfold cellI
  rw [List.getD_eq_getElem?_getD]
  cases e : cs[j.toNat]? with
  | none => exact Sz.zero
  | some z => exact h.sz z (List.mem_of_getElem? e)
theorem Sz.of_bits {n : Nat} {x : Int} (h : Builtin.Int.intBits x ≤ n) : Sz (n + 1) x := by
  unfold Builtin.Int.intBits at h
  unfold Sz
  by_cases h0 : x.natAbs = 0
  · rw [h0]; exact Nat.two_pow_pos _
  · refine (Nat.log2_lt h0).mp ?_
    have hx : (x == 0) = false := by
      cases e : (x == 0)
      · rfl
      · have := eq_of_beq e; omega
    rw [hx] at h
    simp at h
    omega
theorem Scr.cs {ns : List Int} (h : Scr ns) : Cs (ns ++ [0]) := ⟨by simp, by simp; have := h.1; omega, fun z hz' => by
    rcases List.mem_append.mp hz' with k | k
    · exact Sz.of_bits (h.2 z k)
    · simp at k; subst k; exact Sz.zero⟩
def R_law_kind : Ctr := Ctr.fn (fun N : FK => [.int N.code]) (fun _ => True) (fun N => .im (.kd (.b N.k)))
def R_law_cell : Ctr := Ctr.rel (fun a : List Int × Int => [.lst (a.1.map .int), .int a.2]) (fun a => Cs a.1 ∧ 0 ≤ a.2 ∧ a.2 ≤ 1000000) (fun _ n => Sz 1048700 n) (fun _ n => O.i n)
noncomputable def R_law_number_is : Ctr := Ctr.fn (α := (N : FK) × N.T × N.T) (fun a => [.int a.1.code, a.1.enc a.2.1, a.1.enc a.2.2]) (fun _ => True) (fun a => O.t (decide (a.2.1 = a.2.2)))
noncomputable def w_law_kind : WS :=
  sSeq (sIf (wT (w2 (wV 0) (wC (.int 0)) (uEq false)))
  (sRet (wC (.kd (.b .fr))))
  (sNext))
  (sRet (wMkR (wV 0)))

abbrev N_law_kind : List Str := ["_law_prime_here"]

noncomputable def w_law_cell : WS :=
  sSeq (sIf (wT (w2 (wV 1) (wA (wCons (wV 0) (wNil)) (uA1 uLen)) uLt))
  (sRet (w2 (wV 0) (wV 1) uIx))
  (sNext))
  (sRet (w2 (w2 (w2 (wV 0) (w2 (wV 1) (wA (wCons (wV 0) (wNil)) (uA1 uLen)) uMod) uIx) (w2 (wV 1) (wC (.int 2)) uAdd) uMul) (w2 (wV 1) (wV 1) uMul) uAdd))

abbrev N_law_cell : List Str := ["_law_cells", "_law_k"]

noncomputable def w_law_number_is : WS :=
  sSeq (sIf (wT (w2 (wV 0) (wC (.int 0)) uGt))
  (sRet (wAndV (wCall (wCons (wV 1) (wNil)) R_law_whole) (w2 (wV 1) (wV 2) (uEq false))))
  (sNext))
  (sSeq (sIf (wOr (wNot (wT (wA (wCons (wV 1) (wCons (wC (.obj (.ty "tuple"))) wNil)) (uA2 (uIsi "tuple"))))) (wT (w2 (wA (wCons (wV 1) (wNil)) (uA1 uLen)) (wC (.int 2)) (uEq true))))
  (sRet (wC (.bl false)))
  (sNext))
  (sRet (wAndV (wCall (wCons (w2 (wV 1) (wC (.int 0)) uIx) (wNil)) R_law_whole) (wAndV (wCall (wCons (w2 (wV 1) (wC (.int 1)) uIx) (wNil)) R_law_whole) (w2 (wV 1) (wV 2) (uEq false))))))

abbrev N_law_number_is : List Str := ["_law_prime_here", "_law_found", "_law_due"]

theorem p_law_kind : Keeps N_law_kind w_law_kind R_law_kind := by
  rintro ds Q E ⟨N, rfl, _, q⟩
  have q : Q (.im (.kd (.b N.k))) := q
  unfold w_law_kind
  cases N with
  | fr =>
    simp only [code_fr]
    walk_at "pl"
    exact q
  | rs P =>
    have := P.two
    simp only [code_rs]
    walk_at "pl"
    rw [if_neg (by omega)]
    exact ⟨fun _ _ => q, fun h => absurd ⟨P.lt, P.pr⟩ h⟩
theorem p_law_cell : Keeps N_law_cell w_law_cell R_law_cell := by
  rintro ds Q E ⟨⟨cs, k⟩, rfl, ⟨hc, h0, h1⟩, q⟩
  simp only at hc h0 h1
  have q : ∀ n : Int, Sz 1048700 n → Q (O.i n) := q
  have n0 := hc.pos
  unfold w_law_cell
  walk_at "pl"
  split
  · rename_i h
    rw [atI_i h0 h]
    exact ⟨_, rfl, rfl, q _ ((hc.at _).mono (by decide))⟩
  · have hb := fmod_pos_bounds (x := k) (y := (cs.length : Int)) (by omega)
    rw [atI_i hb.1 hb.2]
    have s1 : Sz 64 (k + 2) := by
      have e : (2 : Int) ^ 64 = 18446744073709551616 := by decide
      refine Sz.of_nonneg (by omega) (by omega)
    have s2 : Sz 64 k := by
      have e : (2 : Int) ^ 64 = 18446744073709551616 := by decide
      refine Sz.of_nonneg (by omega) (by omega)
    refine ⟨by omega, _, rfl, _, rfl, mulok_r s1, mulok_r s2, q _ ?_⟩
    have h1 := (hc.at (k.fmod (cs.length : Int))).mul s1
    have h2 : Sz 1048641 (k * k) := (s2.mul s2).mono (by decide)
    exact (h1.add h2).mono (by decide)
theorem p_law_number_is : Keeps N_law_number_is w_law_number_is R_law_number_is := by
  rintro ds Q E ⟨⟨N, x, y⟩, rfl, _, q⟩
  have q : Q (O.t (decide (x = y))) := q
  unfold w_law_number_is R_law_whole
  cases N with
  | fr =>
    simp only [code_fr, FK.enc]
    walk_at "pl"
    refine ite_no (by decide) (ite_no (by decide) ?_)
    have e := uEq_enc .fr (neg := false) (a := x) (b := y) (Q := fun o => o.nb = true ∧ Q o)
    rw [Bool.false_xor] at e
    exact e.mpr ⟨rfl, q⟩
  | rs P =>
    have := P.two
    simp only [code_rs, FK.enc]
    walk_at "pl"
    rw [if_pos (by omega)]
    have e : decide ((x.val : Int) = y.val) = decide (x = y) := by
      by_cases h : x = y
      · subst h; simp
      · simp only [h, decide_false, decide_eq_false_iff_not]
        exact fun z => h (Zp.ext_int z)
    rw [e]
    exact q
theorem kind_ok (N : FK) {Q : O → Prop} {E : Ex → Prop} (q : Q (.im (.kd (.b N.k)))) : R_law_kind.run [.int N.code] Q E := ⟨N, rfl, trivial, q⟩
theorem number_is_ok (N : FK) (x y : N.T) {Q : O → Prop} {E : Ex → Prop} (q : Q (O.t (decide (x = y)))) : R_law_number_is.run [.int N.code, N.enc x, N.enc y] Q E := ⟨⟨N, x, y⟩, rfl, trivial, q⟩
theorem cell_ok (cs : List Int) (k : Int) (hc : Cs cs) (h0 : 0 ≤ k) (h1 : k ≤ 1000000) {Q : O → Prop} {E : Ex → Prop} (q : ∀ n, Sz 1048700 n → Q (O.i n)) : R_law_cell.run [.lst (cs.map .int), .int k] Q E := ⟨⟨cs, k⟩, rfl, ⟨hc, h0, h1⟩, q⟩
/-! turned, unit -/
def R_turned : Ctr := Ctr.fn (α := (N : FK) × Nat × Nat × (Nat → Nat → N.T)) (fun a => [tab a.1 a.2.1 a.2.2.1 a.2.2.2]) (fun a => 0 < a.2.1 ∧ a.2.1 ≤ 16777216 ∧ a.2.2.1 ≤ 16777216) (fun a => tabO a.1 a.2.2.1 a.2.1 fun i j => a.2.2.2 j i)
noncomputable def FK.one (N : FK) (i j : Nat) : N.T := if i = j then 1 else 0
noncomputable def R_unit : Ctr := Ctr.fn (α := FK × Nat) (fun a => [.kd (.b a.1.k), .int a.2]) (fun a => a.2 ≤ 16777216) (fun a => tabO a.1 a.2 a.2 (FK.one a.1))
noncomputable def we_turned_1 : W1 O :=
  w2 (wV 2) (wV 1) uIx

noncomputable def we_turned_2 : W1 O :=
  wLC (wItA (wV 0)) (gN 2) (wYes) (we_turned_1) [2]

noncomputable def w_turned : WS :=
  sRet (wLC (wR1 (wCons (wA (wCons (w2 (wV 0) (wC (.int 0)) uIx) (wNil)) (uA1 uLen)) (wNil))) (gN 1) (wYes) (we_turned_2) [1])

abbrev N_turned : List Str := ["table", "j", "row"]

noncomputable def we_unit_1 : W1 O :=
  wMeth false (wV 0) (wCons (wA (wCons (w2 (wV 2) (wV 3) (uEq false)) (wNil)) (uA1 uInt)) (wNil)) R_number [.int 1]

noncomputable def we_unit_2 : W1 O :=
  wLC (wR1 (wCons (wV 1) (wNil))) (gN 3) (wYes) (we_unit_1) [3]

noncomputable def w_unit : WS :=
  sRet (wLC (wR1 (wCons (wV 1) (wNil))) (gN 2) (wYes) (we_unit_2) [2])

abbrev N_unit : List Str := ["kind", "size", "i", "j"]

theorem p_turned : Keeps N_turned w_turned R_turned := by
  rintro ds Q E ⟨⟨N, n, m, f⟩, rfl, ⟨n0, nl, ml⟩, q⟩
  simp only at n0 nl ml
  have q : Q (tabO N m n fun i j => f j i) := q
  unfold w_turned
  walk_at "pl"
  refine ⟨_, rng_get n0, m, by rw [show (O.im (vec N m (f 0))).er = vec N m (f 0) from rfl, len_vec], by omega, by omega, rfl, ?_⟩
  refine lcI_rng (fun j => vecO N n fun i => f i j) (fun j hj => ?_) ⟨rfl, q⟩
  unfold we_turned_2
  walk_at "pl"
  refine ⟨rfl, lcI_rng (fun i => .im (N.enc (f i j))) (fun i hi => ?_) ?_⟩
  · unfold we_turned_1
    walk_at "pl"
    exact ⟨_, atI_rng hj, rfl, rfl⟩
  · exact ⟨rfl, rfl⟩
theorem p_unit : Keeps N_unit w_unit R_unit := by
  rintro ds Q E ⟨⟨N, n⟩, rfl, nl, q⟩
  simp only at nl
  have q : Q (tabO N n n (FK.one N)) := q
  unfold w_unit
  walk_at "pl"
  refine ⟨by omega, by omega, rfl, ?_⟩
  refine lcI_rng (fun i => vecO N n fun j => FK.one N i j) (fun i hi => ?_) ⟨rfl, q⟩
  unfold we_unit_2
  walk_at "pl"
  refine ⟨by omega, by omega, rfl, ?_⟩
  refine lcI_rng (fun j => .im (N.enc (FK.one N i j))) (fun j hj => ?_) ?_
  · unfold we_unit_1
    walk_at "pl"
    refine number1_ok N _ (Sz.mono (n := 1) (by split <;> decide) (by decide)) ?_
    walk_at "pl"
    unfold FK.one
    by_cases h : i = j
    · rw [if_pos h, if_pos (by rw [h]), N.ofInt_one]
    · rw [if_neg h, if_neg (fun z => h (by exact_mod_cast z)), N.ofInt_zero]
  · exact ⟨rfl, rfl⟩
theorem turned_ok (N : FK) (n m : Nat) (f : Nat → Nat → N.T) (n0 : 0 < n) (nl : n ≤ 16777216) (ml : m ≤ 16777216) {Q : O → Prop} {E : Ex → Prop} (q : Q (tabO N m n fun i j => f j i)) : R_turned.run [tab N n m f] Q E := ⟨⟨N, n, m, f⟩, rfl, ⟨n0, nl, ml⟩, q⟩
theorem unit_ok (N : FK) (n : Nat) (nl : n ≤ 16777216) {Q : O → Prop} {E : Ex → Prop} (q : Q (tabO N n n (FK.one N))) : R_unit.run [.kd (.b N.k), .int n] Q E := ⟨⟨N, n⟩, rfl, nl, q⟩
namespace C
def R_law_prime : Ctr := Ctr.rel (fun n : Int => [.int n]) (fun _ => True) (fun _ (_ : FK) => True) (fun _ N => O.i N.code)
noncomputable def wt_law_prime_1 : W1 Bool :=
  wNot (wT (wCall (wCons (wV 1) (wNil)) R_law_is_prime))

noncomputable def wb_law_prime_2 : WS :=
  sAsg (w2 (wV 1) (wC (.int 1)) uAdd) (gF 1)

noncomputable def w_law_prime : WS :=
  sSeq (sIf (wT (w2 (w2 (wV 0) (wC (.int 3)) uMod) (wC (.int 0)) (uEq false)))
  (sRet (wC (.int 0)))
  (sNext))
  (sSeq (sAsg (w2 (wC (.int 2)) (w2 (w2 (wV 0) (wC (.int 3)) uDiv) (w2 (wL (wCons (wC (.int 11)) (wCons (wC (.int 11)) (wCons (wC (.int 999982)) (wNil))))) (w2 (wV 0) (wC (.int 3)) uMod) uIx) uMod) uAdd) (gF 1))
  (sSeq (sWhile wt_law_prime_1 wb_law_prime_2)
  (sRetV 1)))

abbrev N_law_prime : List Str := ["_law_cell_here", "_law_number"]

theorem p_law_prime : Keeps N_law_prime w_law_prime R_law_prime := by
  rintro ds Q E ⟨c, rfl, _, q⟩
  have q : ∀ N : FK, Q (O.i N.code) := fun N => q N trivial
  unfold w_law_prime
  walk_at "pl"
  walk_at "ds"
  split
  · exact q .fr
  · rename_i hc
    have h3 := fmod_pos_bounds (x := c) (y := 3) (by decide)
    obtain ⟨y, ey, y0, yl⟩ : ∃ y, atI [O.im (D.int 11), O.im (D.int 11), O.im (D.int 999982)] (c.fmod 3) = some (O.i y) ∧ 0 < y ∧ y ≤ 999982 := by
      rcases at3 h3.1 h3.2 with e | e | e
      · exact ⟨_, e, by decide, by decide⟩
      · exact ⟨_, e, by decide, by decide⟩
      · exact ⟨_, e, by decide, by decide⟩
    walk_at "ds"
    refine ⟨_, ey, y, rfl, by omega, ?_⟩
    have hm := fmod_pos_bounds (x := c.fdiv 3) (y := y) y0
    generalize (c.fdiv 3).fmod y = z at hm
    refine ⟨fun m S => ∃ b : Int, S = [some (O.i c), some (O.i b)] ∧ m = (999983 - b).toNat ∧ 2 ≤ b ∧ b ≤ 999983, ⟨_, 2 + z, rfl, rfl, by omega, by omega⟩, ?_⟩
    rintro m S ⟨b, rfl, rfl, b2, bl⟩
    unfold wt_law_prime_1 wb_law_prime_2 R_law_is_prime
    walk_at "pl"
    have e64 : (2 : Int) ^ 64 = 18446744073709551616 := by decide
    refine ⟨by omega, ?_⟩
    by_cases h : IsP b
    · rw [prB_of h, if_neg (by decide)]
      exact q (.rs ⟨b, h, by omega⟩)
    · rw [prB_no h, if_pos (by decide)]
      have : b ≠ 999983 := fun z => h (z ▸ p999983)
      exact ⟨_, by omega, rfl, by omega, by omega⟩
end C
end PL

/-! D8 -/
set_option Elab.async false
set_option linter.all false
set_option maxRecDepth 100000
set_option maxHeartbeats 4000000
/-! D8: drawn numbers, tables compared, rows of their own. -/
namespace PL
open PySem PySem.Spec L2
local macro_rules | `(tactic| walk_at "pl") => `(tactic| simp (config := { maxSteps := 1000000 }) only [sSeq, sIf, sRet, sRetV, sRetN, sAsg, sPar, sPar3, sAug, sNext, sExpr, sBreak, sCont, W1.pure, wV, wC, w1, w2, wT, wAnd, wOr, wNot, wAndV, wOrV, wNotV, wIf, wCons, wNil, wA, wL, wTp, wCall, uA1, uA2, uI, uIB, uIU, uEq_int, uEq_str, uEq_bl, uIsi, uLen, uInt, uIx, uCat, uLst, wSl, wItA, wR1, wR2, wZip, wEnum, wRev, wON, wOS, gF, gN, bodyK, startS,   nb_im, nb_ls, nb_tp, nb_bo, vw_im, vw_ls, vw_tp, er_im, er_bo, er_ls, er_tp, erL_nil, erL_cons, its_iml, its_imt, its_scr, its_bol, its_bot, its_ls, its_tp, trk_iml, trk_imt, trk_bot, trk_tp, isL_imt, isL_bot, isL_tp,  trk_bol, trk_ls, isL_iml, isL_scr, isL_bol, isL_ls, fz_im, fz_bo, fz_ls, fz_tp, ty_int, ty_bl, ty_str, ty_non, ty_tup, ty_lst, len_lst, len_tup, len_scr, all_nil, all_cons, Bool.and_self, true_or,   List.map_cons, List.map_nil, List.cons_append, List.nil_append, List.append_nil, List.length_cons, List.length_nil, List.replicate, List.getElem?_cons_zero, List.getElem?_cons_succ, List.set_cons_zero, List.set_cons_succ, List.set_nil, Option.some.injEq, exists_eq_left', exists_eq_left, exists_eq_right, exists_eq', exists_and_left, exists_and_right, and_true, true_and, and_assoc, O.im.injEq, D.int.injEq, D.bl.injEq, D.tup.injEq, D.lst.injEq, D.kd.injEq, D.scr.injEq, D.str.injEq, Ctr.fn, Ctr.rel, sFor_run, wLC_run, all_mem_nil, sRaise, uPrime, wMeth, wMeth1, sStore, sAppend, sExtend, k_fr, k_rs, wMkR, uIsX, uIsXT, sTry, sExpr, tidy_im, flat_int, flat_bl, flat_tup, flat_non, flat_str, flat_kd, flatL_nil, flatL_cons, isPo_b, Ctr.ex, Ctr.on, isFr_fr, isFr_rs, isRs_fr, isRs_rs, sigma_ex, D.kd.injEq, Kd.b.injEq, BK.rs.injEq, reduceCtorEq, false_and, and_false, exists_false, false_implies, true_implies, forall_const, List.mem_cons, List.not_mem_nil, or_false, isT_exn, isT_non, xT_x, xT_ve, xT_fe, n_kind, n_number, n_fit, n_turn, n_inverse, n_text, n_name, n_row, okS_exn, okS_non, decide_true, decide_false, eq_self, wCh, gLt, gLe, gGt, gGe, uEq_enc, mkT_1, mkT_2, mkT_3, mkT_4, mkBo_enc, mkBo_int, mkBo_bl, mkBo_str, mkBo_non, mkBo_kd, mkBo_lst, flat_enc, O.ls.injEq, mkBo_fr, false_or, isT_kd, okS_kd, flat_dic, kT_1, kT_2, kT_3, kT_4, kT_5, kT_6, er_vecO, er_tabO, nb_vecO, nb_tabO, tidy_vecO, tidy_tabO, its_im_vec, its_bo_vec, its_im_tab, its_bo_tab, len_vec, len_tab, isTrk_vec, isTrk_tab, isL_vec, isL_tab, isTrk_bvec, isTrk_btab, isL_bvec, isL_btab, vw_vecO, vw_tabO, fz_im', ty_vec, ty_tab, intL_rng, rng_len, rng_map, erL_rng, zipT_rng, Nat.min_self, all_rng_im, Int.toNat_natCast, gT, gspNames, gsC, gsN, parts_imt, parts_tp, xV, xC, xAdd, xSub, sForApp, sFz, sSt2, forall_eq_or_imp, List.length_range, implies_true, sRetMv, er_im, er_ls,  tidy_i, tidy_t, tidy_n, tidy_kd, or_true, Bool.and_true,  mkL_nb, all_map_i, all_map_im, cutA_map, cutA_63, take_map', drop_map',  its_lsi, erL_append, erL_mapi, map_im_int, List.map_append, List.all_append, List.length_map, List.length_append,  unr_cons, unr_nil, whole_int, Option.isSome_some,  all_mem_cons, atI_0, atI_1, atI_2, atI_3, atI_4, isB_int_int, isB_int_bool, isB_int_str, isB_int_tuple, isB_int_list, isB_bool_int, isB_bool_bool, isB_bool_str, isB_bool_tuple, isB_bool_list, isB_str_int, isB_str_bool, isB_str_str, isB_str_tuple, isB_str_list, isB_tuple_int, isB_tuple_bool, isB_tuple_str, isB_tuple_tuple, isB_tuple_list, isB_list_int, ty_dic, isB_dict_int, isB_dict_bool, isB_dict_str, isB_dict_tuple, isB_dict_list, mkL_0, isB_list_bool, isB_list_str, isB_list_tuple, isB_list_list, isB_NoneType_int, isB_NoneType_bool, isB_NoneType_str, isB_NoneType_tuple, isB_NoneType_list, Prod.exists, Prod.forall, forall_exists_index, and_imp, forall_eq, forall_eq', Bool.false_xor, Bool.true_xor, List.cons.injEq, Nat.reduceAdd, Nat.reduceSub, Nat.reduceLT, Nat.lt_add_one, Nat.zero_lt_succ, Nat.zero_add,   Bool.not_eq_true', Bool.not_eq_false', Bool.not_true, Bool.not_false, decide_eq_false_iff_not, decide_eq_true_eq, if_true, if_false, Bool.false_eq_true, Bool.true_eq_false, reduceIte])
local macro_rules | `(tactic| walk_at "ds") => `(tactic| repeat refine And.intro (by first | with_reducible rfl | decide | exact mulok_r (by decide) | exact mulok_l (by decide) | exact szL (by decide)) ?_)
/-- a comprehension whose parts are told by a relation -/
theorem lcI_rngR {α : Type} [Nonempty α] {n : Nat} {h : Nat → O} {g : WG} {e : W1 O} {S : List (Option O)} {Q : O → Prop} (P : Nat → α → Prop) (val : α → O) (H : ∀ i, i < n → g.run (h i) S (fun S2 => e.run S2 (fun v => v.nb = true ∧ ∃ a, P i a ∧ v = val a) (fun _ => False)))
    (q : ∀ F : Nat → α, (∀ i, i < n → P i (F i)) → Q (.ls (rng n fun i => val (F i)))) : lcI (rng n h) g wYes e S Q := by
  classical
  refine lcI_rel (fun i v => ∃ a, P i a ∧ v = val a) (fun i o ho => ?_) fun us hl ha => ?_
  · obtain ⟨hi, rfl⟩ := rng_at ho
    exact H i hi
  · rw [rng_len] at hl
    have key : ∀ i, ∃ a, i < n → us[i]? = some (val a) ∧ P i a := fun i => by
      by_cases hi : i < n
      · obtain ⟨a, h1, h2⟩ := ha i us[i] (List.getElem?_eq_getElem (by omega))
        exact ⟨a, fun _ => ⟨by rw [List.getElem?_eq_getElem (by omega), h2], h1⟩⟩
      · exact ⟨Classical.choice inferInstance, fun h => absurd h hi⟩
    have e : us = rng n fun i => val (Classical.choose (key i)) := by
      apply List.ext_getElem?
      intro i
      by_cases hi : i < n
      · rw [rng_get hi]
        exact (Classical.choose_spec (key i) hi).1
      · rw [List.getElem?_eq_none (by omega), List.getElem?_eq_none (by simp [rng]; omega)]
    rw [e]
    exact q _ fun i hi => (Classical.choose_spec (key i) hi).2
instance FK.ne (N : FK) : Nonempty N.T := ⟨N.ofInt 0⟩
/-- one more row -/
theorem row_snoc {N : FK} {n m : Nat} {f : Nat → Nat → N.T} {g : Nat → N.T} : rng n (fun i => vecO N m (f i)) ++ [vecO N m g] = rng (n + 1) fun i => vecO N m ((fun i j => if i = n then g j else f i j) i) := by
  rw [← rng_snoc]
  congr 1
  · exact rng_congr fun i hi => by
      have : ¬ i = n := by omega
      simp only [this, if_false]
  · simp
/-- what a law draws -/
def drawnD (s : Nat) (N : FK) (d : D) : Prop := ∃ x : N.T, N.sz s x ∧ d = N.enc x
theorem drawn_rest {P : Pr} {s : Nat} (c : Int) : drawnD s (.rs P) (.int (c.fmod P.p)) := ⟨FK.ofInt (.rs P) c, trivial, by
  show D.int _ = D.int _
  rw [Zp.val_ofInt]⟩
theorem drawn_frac {s : Nat} {t b : Int} (hb : 0 < b) (st : Sz s t) (sb : Sz s b) : drawnD s .fr (FK.enc .fr ((t : Rat) / (b : Rat))) := ⟨_, rat_sz (by omega) st sb, rfl⟩
theorem tuck {k : Nat} {x y : Int} (h0 : 0 < y) (hy : y ≤ 2 ^ k) : Sz k (x.fmod y) := by
  have := fmod_pos_bounds (x := x) (y := y) h0
  exact Sz.of_nonneg this.1 (by omega)
theorem Sz.ofB {n : Nat} {x : Int} (h : -(2 ^ n) < x) (k : x < 2 ^ n) : Sz n x := by
  unfold Sz
  have : (x.natAbs : Int) < ((2 ^ n : Nat) : Int) := by
    rw [Int.natCast_pow]
    have e : ((2 : Nat) : Int) = 2 := rfl
    rw [e]
    omega
  exact_mod_cast this
theorem at4 {a b c d : O} {z : Int} (h0 : 0 ≤ z) (h : z < 4) : atI [a, b, c, d] z = some a ∨ atI [a, b, c, d] z = some b ∨ atI [a, b, c, d] z = some c ∨ atI [a, b, c, d] z = some d := by
  have : z = 0 ∨ z = 1 ∨ z = 2 ∨ z = 3 := by omega
  rcases this with rfl | rfl | rfl | rfl
  · exact .inl rfl
  · exact .inr (.inl rfl)
  · exact .inr (.inr (.inl rfl))
  · exact .inr (.inr (.inr rfl))
theorem e10_60 : ((10 : Int) ^ Int.toNat 60) = 1000000000000000000000000000000000000000000000000000000000000 := by decide
namespace C
def R_law_drawn : Ctr := Ctr.rel (fun a : FK × Int => [.int a.1.code, .int a.2]) (fun a => Sz 1048800 a.2) (fun a d => drawnD 201 a.1 d) (fun _ d => .im d)
noncomputable def w_law_drawn : WS :=
  sSeq (sIf (wT (w2 (wV 0) (wC (.int 0)) uGt))
  (sRet (w2 (wV 1) (wV 0) uMod))
  (sNext))
  (sSeq (sAsg (w2 (w2 (w2 (wV 1) (wC (.int 5)) uDiv) (wC (.int 13)) uMod) (wC (.int 6)) uSub) (gF 2))
  (sSeq (sIf (wT (w2 (w2 (wV 1) (wC (.int 5)) uMod) (wC (.int 0)) (uEq false)))
  (sAsg (w2 (w2 (w2 (w2 (w2 (wV 1) (wC (.int 5)) uDiv) (w2 (wC (.int 10)) (wC (.int 60)) uPow) uAdd) (wC (.int 1)) uSub) (w2 (w2 (wC (.int 2)) (w2 (wC (.int 10)) (wC (.int 60)) uPow) uMul) (wC (.int 1)) uSub) uMod) (w2 (w2 (wC (.int 10)) (wC (.int 60)) uPow) (wC (.int 1)) uSub) uSub) (gF 2))
  (sNext))
  (sRet (wCall (wCons (wV 2) (wCons (w2 (wC (.int 1)) (w2 (w2 (w2 (wV 1) (wV 1) uMul) (wC (.int 48271)) uMul) (w2 (wL (wCons (wC (.int 1)) (wCons (wC (.int 6)) (wCons (wC (.int 60)) (wCons (w2 (w2 (wC (.int 10)) (wC (.int 60)) uPow) (wC (.int 1)) uSub) (wNil)))))) (w2 (w2 (wV 1) (wC (.int 7)) uDiv) (wC (.int 4)) uMod) uIx) uMod) uAdd) (wNil))) R_law_lowest))))

abbrev N_law_drawn : List Str := ["_law_prime_here", "_law_cell_here", "_law_top"]

theorem p_law_drawn : Keeps N_law_drawn w_law_drawn R_law_drawn := by
  rintro ds Q E ⟨⟨N, c⟩, rfl, sc, q⟩
  simp only at sc
  have q : ∀ d : D, drawnD 201 N d → Q (.im d) := q
  unfold w_law_drawn
  cases N with
  | rs P =>
    have := P.two
    simp only [code_rs]
    walk_at "pl"
    rw [if_pos (by omega)]
    exact ⟨by omega, q _ (drawn_rest c)⟩
  | fr =>
    simp only [code_fr]
    walk_at "pl"
    refine ite_no (by decide) ?_
    have key : ∀ t : Int, Sz 201 t → (∃ y, atI [O.im (D.int 1), O.im (D.int 6), O.im (D.int 60), O.im (D.int (10 ^ Int.toNat 60 - 1))] ((c.fdiv 7).fmod 4) = some (O.i y) ∧ 0 < y ∧ Sz 201 y) := by
      intro t st
      have h := fmod_pos_bounds (x := c.fdiv 7) (y := 4) (by decide)
      rcases at4 h.1 h.2 with e | e | e | e
      · exact ⟨_, e, by decide, by decide⟩
      · exact ⟨_, e, by decide, by decide⟩
      · exact ⟨_, e, by decide, by decide⟩
      · exact ⟨_, e, by decide, by decide⟩
    have fin : ∀ t : Int, Sz 201 t → ∀ y : Int, 0 < y → Sz 201 y → ∀ w : Int, R_law_lowest.run [.int t, .int (1 + w.fmod y)] (fun o => O.nb o = true ∧ Q o) E := by
      intro t st y y0 sy w
      have h := fmod_pos_bounds (x := w) (y := y) y0
      have sb : Sz 201 (1 + w.fmod y) := sy.le (by omega)
      refine lowest_ok _ _ (by omega) (sb.mono (by decide)) ⟨rfl, q _ (drawn_frac (by omega) st sb)⟩
    walk_at "ds"
    have e5 := fmod_pos_bounds (x := c) (y := 5) (by decide)
    by_cases h5 : c.fmod 5 = 0
    · rw [if_pos h5]
      walk_at "ds"
      have st : Sz 201 ((c.fdiv 5 + 10 ^ Int.toNat 60 - 1).fmod (2 * 10 ^ Int.toNat 60 - 1) - (10 ^ Int.toNat 60 - 1)) := by
        have h := fmod_pos_bounds (x := c.fdiv 5 + 10 ^ Int.toNat 60 - 1) (y := 2 * 10 ^ Int.toNat 60 - 1) (by decide)
        rw [e10_60] at h ⊢
        unfold Sz
        omega
      obtain ⟨y, ey, y0, sy⟩ := key _ st
      refine ⟨mulok sc sc (by decide) (by decide) (by decide), ?_⟩
      walk_at "ds"
      exact ⟨_, ey, y, rfl, by omega, fin _ st _ y0 sy _⟩
    · rw [if_neg h5]
      have st : Sz 201 ((c.fdiv 5).fmod 13 - 6) := by
        have h := fmod_pos_bounds (x := c.fdiv 5) (y := 13) (by decide)
        refine Sz.mono (n := 10) ?_ (by decide)
        unfold Sz
        omega
      obtain ⟨y, ey, y0, sy⟩ := key _ st
      refine ⟨mulok sc sc (by decide) (by decide) (by decide), ?_⟩
      walk_at "ds"
      exact ⟨_, ey, y, rfl, by omega, fin _ st _ y0 sy _⟩
end C
/-! compared tables -/
noncomputable def R_law_table_is : Ctr := Ctr.fn (α := (N : FK) × Nat × Nat × (Nat → Nat → N.T)) (fun a => [.int a.1.code, tab a.1 a.2.1 a.2.2.1 a.2.2.2, tab a.1 a.2.1 a.2.2.1 a.2.2.2]) (fun _ => True) (fun _ => O.t true)
noncomputable def wb_law_table_is_1 : WS :=
  sIf (wNot (wT (wCall (wCons (wV 0) (wCons (wV 5) (wCons (wV 6) (wNil)))) R_law_number_is)))
  (sRet (wC (.bl false)))
  (sNext)

noncomputable def wb_law_table_is_2 : WS :=
  sSeq (sIf (wOr (wNot (wT (wA (wCons (wV 3) (wCons (wC (.obj (.ty "list"))) wNil)) (uA2 (uIsi "list"))))) (wT (w2 (wA (wCons (wV 3) (wNil)) (uA1 uLen)) (wA (wCons (wV 4) (wNil)) (uA1 uLen)) (uEq true))))
  (sRet (wC (.bl false)))
  (sNext))
  (sFor (wZip (wCons (wV 3) (wCons (wV 4) (wNil)))) (gT 2 (gsC (gF 5) (gsC (gF 6) (gsN)))) wb_law_table_is_1)

noncomputable def w_law_table_is : WS :=
  sSeq (sIf (wOr (wNot (wT (wA (wCons (wV 1) (wCons (wC (.obj (.ty "list"))) wNil)) (uA2 (uIsi "list"))))) (wT (w2 (wA (wCons (wV 1) (wNil)) (uA1 uLen)) (wA (wCons (wV 2) (wNil)) (uA1 uLen)) (uEq true))))
  (sRet (wC (.bl false)))
  (sNext))
  (sSeq (sFor (wZip (wCons (wV 1) (wCons (wV 2) (wNil)))) (gT 2 (gsC (gF 3) (gsC (gF 4) (gsN)))) wb_law_table_is_2)
  (sRet (wC (.bl true))))

abbrev N_law_table_is : List Str := ["_law_prime_here", "_law_found", "_law_due", "_law_row", "_law_right", "_law_number", "_law_known"]

theorem p_law_table_is : Keeps N_law_table_is w_law_table_is R_law_table_is := by
  rintro ds Q E ⟨⟨N, n, m, f⟩, rfl, _, q⟩
  have q : Q (O.t true) := q
  unfold w_law_table_is
  walk_at "pl"
  refine ite_no (by decide) ?_
  refine forI_rng (fun i S => ∃ s3 s4 s5 s6, S = [some (O.i N.code), some (.im (tab N n m f)), some (.im (tab N n m f)), s3, s4, s5, s6]) ⟨_, _, _, _, rfl⟩ ?_ ?_
  · rintro i S hi ⟨s3, s4, s5, s6, rfl⟩
    unfold wb_law_table_is_2
    walk_at "pl"
    refine ite_no (by decide) ?_
    refine forI_rng (fun j S => ∃ s5 s6, S = [some (O.i N.code), some (.im (tab N n m f)), some (.im (tab N n m f)), some (.im (vec N m (f i))), some (.im (vec N m (f i))), s5, s6]) ⟨_, _, rfl⟩ ?_ ?_
    · rintro j S hj ⟨s5, s6, rfl⟩
      unfold wb_law_table_is_1
      walk_at "pl"
      refine number_is_ok N _ _ ?_
      walk_at "pl"
    · rintro S ⟨s5, s6, rfl⟩
      exact ⟨_, _, _, _, rfl⟩
  · rintro S ⟨s3, s4, s5, s6, rfl⟩
    walk_at "pl"
    exact q
theorem table_is_ok (N : FK) (n m : Nat) (f : Nat → Nat → N.T) {Q : O → Prop} {E : Ex → Prop} (q : Q (O.t true)) : R_law_table_is.run [.int N.code, tab N n m f, tab N n m f] Q E := ⟨⟨N, n, m, f⟩, rfl, trivial, q⟩
/-! rows that are lists of their own -/
def R_law_own : CtM := ⟨fun o ds Q => ∃ (N : FK) (n m : Nat) (f : Nat → Nat → N.T) (h : D) (k : Nat), o = tabO N n m f ∧ m < 1000000 ∧ ds = [tab N n m f, h, h] ∧ EqP k h h True ∧ k ≤ 64 ∧ Q true,
  fun hq ⟨N, n, m, f, h, k, e1, e2, e3, e4, e5, q⟩ => ⟨N, n, m, f, h, k, e1, e2, e3, e4, e5, hq _ q⟩⟩
theorem len_law_own (o : O) (ds : List D) (Q : Bool → Prop) : R_law_own.run o ds Q → ds.length + 1 = 4 := by
  rintro ⟨N, n, m, f, h, k, rfl, _, rfl, _⟩
  rfl
noncomputable def wb_law_own_1 : WS :=
  sIf (wT (w2 (wA (wCons (wV 4) (wNil)) (uA1 uLen)) (w2 (wA (wCons (wV 5) (wNil)) (uA1 uLen)) (wC (.int 1)) uAdd) (uEq true)))
  (sRet (wC (.bl false)))
  (sNext)

noncomputable def w_law_own : WS :=
  sSeq (sForApp 0 4)
  (sSeq (sFz 0 (sFor (wZip (wCons (wV 0) (wCons (wV 1) (wNil)))) (gT 2 (gsC (gF 4) (gsC (gF 5) (gsN)))) wb_law_own_1))
  (sRet (w2 (wV 2) (wV 3) (uEq false))))

abbrev N_law_own : List Str := ["_law_found", "_law_due", "_law_handed", "_law_kept", "_law_row", "_law_right"]

theorem p_law_own : KeepsM N_law_own w_law_own R_law_own := by
  rintro o ds Q ⟨N, n, m, f, h, k, rfl, hm, rfl, he, hk, q⟩
  unfold w_law_own startM
  walk_at "pl"
  refine ⟨by decide, rng n fun i => rng m fun j => .im (N.enc (f i j)), ?_, ?_, ?_⟩
  · unfold tabO vecO
    rw [rng_map]
  · intro r hr
    obtain ⟨i, hi, rfl⟩ := rng_mem.mp hr
    rw [rng_len]
    have := szL (n := m + 1) (by omega)
    omega
  have er1 : ∀ i, (app1 (rng m fun j => .im (N.enc (f i j)))).er = .lst (rng m (fun j => N.enc (f i j)) ++ [.non]) := fun i => by
    unfold app1
    rw [er_ls, erL_append, erL_rng]
    rfl
  have ln : ∀ i, D.len (.lst (rng m (fun j => N.enc (f i j)) ++ [D.non])) = some (m + 1) := fun i => by rw [len_lst, List.length_append, rng_len]; rfl
  simp only [rng_map, erL_rng, er1]
  walk_at "pl"
  refine forI_rng (fun i S => ∃ o4 s5, S = [some (.im (.lst (rng n fun i => .lst (rng m (fun j => N.enc (f i j)) ++ [.non])))), some (.im (tab N n m f)), some (.im h), some (.im h), o4, s5]) ⟨_, _, rfl⟩ ?_ ?_
  · rintro i S hi ⟨o4, s5, rfl⟩
    unfold wb_law_own_1
    walk_at "pl"
    exact ite_no (by omega) trivial
  · rintro S ⟨o4, s5, rfl⟩
    walk_at "pl"
    exact he.yes trivial hk ⟨true, rfl, q⟩
theorem ixN_nat {n k : Nat} (h : k < n) : ixN n (k : Int) = some k := by
  unfold ixN
  rw [if_pos (by omega), if_pos (by omega)]
  rfl
theorem own_ok (N : FK) (n m : Nat) (f : Nat → Nat → N.T) (h : D) (k : Nat) (hm : m < 1000000) (he : EqP k h h True) (hk : k ≤ 64) {Q : Bool → Prop} (q : Q true) : R_law_own.run (tabO N n m f) [tab N n m f, h, h] Q := ⟨N, n, m, f, h, k, rfl, hm, rfl, he, hk, q⟩
theorem mkL_rng {N : FK} {n : Nat} {f : Nat → N.T} : mkL (rng n fun i => O.im (N.enc (f i))) = vecO N n f := mkL_nb all_rng_im
end PL

/-! P21 -/
set_option Elab.async false
set_option linter.all false
set_option maxRecDepth 100000
set_option maxHeartbeats 4000000
/-! P21: x in a tuple; a list n times; a walk through a list that stays the frame's own. -/
namespace PL
open PySem PySem.Spec L2 PyProof.Rows
/-! ### x in (a, b) -/
def rInT (K : PySem.W.Frag) (neg : Bool) : R2 := fun x y H Q => ∃ d ds, Dp K H x d ∧ Dp K H y (.tuple ds) ∧ SeqAt.shaped d = true ∧ SeqAt.shaped (.tuple ds) = true ∧ Q (.bl (neg ^^ ds.any fun z => PyData.eqv z d)) H
section
variable {X : Cx} {c : Cc} {W : WX} {a b : Expr} {pa pb : W1 O} {pos : Pos}
theorem room_inT {A : Around} {ds : List PyData} {d : PyData} (h : SeqAt.shaped d = true) (hu : A.units + 65 < cLine) : A.units + 1 + min (PyData.depthAll ds) d.depth < cLine := by
  have := SeqAt.depth_of_shaped h
  have h2 : min (PyData.depthAll ds) d.depth ≤ d.depth := Nat.min_le_right _ _
  omega
theorem op_inT (hu : X.A.units + 65 < cLine) : OpR X (compareOp .In) (rInT X.K false) := by
  intro pins s σ H x y v u Q I rx ry h
  obtain ⟨d, ds, hd, he, sd, se, q⟩ := h
  obtain ⟨as, r1⟩ := Dp.reads I d x v hd rx
  obtain ⟨bs, r2⟩ := Dp.reads I (.tuple ds) y u he ry
  exact SeqAt.in_tuple_reads r2 r1 (SeqAt.canLay_of_shaped se) (SeqAt.canLay_of_shaped sd) (room_inT sd hu) ⟨.bl _, H, I, rfl, by simpa using q⟩
theorem op_notInT (hu : X.A.units + 65 < cLine) : OpR X (compareOp .NotIn) (rInT X.K true) := by
  intro pins s σ H x y v u Q I rx ry h
  obtain ⟨d, ds, hd, he, sd, se, q⟩ := h
  obtain ⟨as, r1⟩ := Dp.reads I d x v hd rx
  obtain ⟨bs, r2⟩ := Dp.reads I (.tuple ds) y u he ry
  exact SeqAt.notIn_tuple_reads r2 r1 (SeqAt.canLay_of_shaped se) (SeqAt.canLay_of_shaped sd) (room_inT sd hu) ⟨.bl _, H, I, rfl, by simpa using q⟩
def uIn (neg : Bool) : U2 := ⟨fun a b Q => ∃ d ds, a.er.py = some d ∧ b.er.py = some (.tuple ds) ∧ SeqAt.shaped d = true ∧ SeqAt.shaped (.tuple ds) = true ∧ Q (O.t (neg ^^ ds.any fun z => PyData.eqv z d)), fun hq ⟨d, ds, e1, e2, e3, e4, q⟩ => ⟨d, ds, e1, e2, e3, e4, hq _ q⟩⟩
theorem fit_inT {K : PySem.W.Frag} {neg : Bool} : Fit2 c (rInT K neg) (uIn neg) := fun F H Ts ts S σ a b x y Q s ⟨d, ds, e1, e2, e3, e4, q⟩ =>
  ⟨d, ds, D.dp (Same.refl _) _ _ _ s.pop.topEr e1, D.dp (Same.refl _) _ _ _ s.topEr e2, e3, e4, q F H _ (s.pop.pop.pushIm rfl)⟩
theorem se_inT {es : List Expr} {k : Nat} {p : Pos} (hu : X.A.units + 65 < cLine) (ha : SE X c W a pa) (hb : SE X c W (.Tuple es k p) pb) : SE X c W (.Compare a [.In] [.Tuple es k p] pos) (w2 pa pb (uIn false)) := se_cmp (op_inT hu) fit_inT ha hb rfl
theorem se_notInT {es : List Expr} {k : Nat} {p : Pos} (hu : X.A.units + 65 < cLine) (ha : SE X c W a pa) (hb : SE X c W (.Tuple es k p) pb) : SE X c W (.Compare a [.NotIn] [.Tuple es k p] pos) (w2 pa pb (uIn true)) := se_cmp (op_notInT hu) fit_inT ha hb rfl
theorem st_inT {es : List Expr} {k : Nat} {p : Pos} (hu : X.A.units + 65 < cLine) (ha : SE X c W a pa) (hb : SE X c W (.Tuple es k p) pb) : ST X c W (.Compare a [.In] [.Tuple es k p] pos) (wT (w2 pa pb (uIn false))) := st_cmp (op_inT hu) fit_inT ha hb rfl
theorem st_notInT {es : List Expr} {k : Nat} {p : Pos} (hu : X.A.units + 65 < cLine) (ha : SE X c W a pa) (hb : SE X c W (.Tuple es k p) pb) : ST X c W (.Compare a [.NotIn] [.Tuple es k p] pos) (wT (w2 pa pb (uIn true))) := st_cmp (op_notInT hu) fit_inT ha hb rfl
/-! ### xs * n -/
def rRep (K : PySem.W.Frag) : R2 := fun x y H Q => ∃ p xs n, x = V.ref p ∧ y = V.int n ∧ SqL K H p xs ∧ 0 ≤ n ∧ n < 2 ^ 40 ∧ xs.length * n.toNat ≤ 16777216 ∧ ∀ r, H r = none → Q (.ref r) (upd H r (.lst (List.replicate n.toNat xs).flatten))
theorem vals_flat {xs : List V} {its : List Value} (r : Vals xs its) : ∀ n, Vals (List.replicate n xs).flatten (List.replicate n its).flatten
  | 0 => .nil
  | n + 1 => by
    rw [List.replicate_succ, List.replicate_succ, List.flatten_cons, List.flatten_cons]
    exact r.append (vals_flat r n)
theorem op_rep : OpR X (binaryOp .Mult) (rRep X.K) := by
  intro pins s σ H x y v u Q I rx ry h
  obtain ⟨a, xs, n, rfl, rfl, hs, n0, nl, hz, q⟩ := h
  obtain rfl : v = Value.ref a := rx
  obtain ⟨t, rfl⟩ := ry
  obtain ⟨its, rv, ⟨⟨cls, dd, data, sl⟩, k, ho, hc, hdn, hd⟩, hlen⟩ := I.list hs
  have hc1 : cls = Value.type "list" := hc
  have hd1 : data = Data.seq its.toArray k := hd
  subst hc1 hd1
  have hsl := sizeLine_eq
  have hm : its.toArray.size * n.toNat ≤ 16777216 := by rw [List.size_toArray, ← rv.length]; exact hz
  have e40 : (2 : Int) ^ 40 = 1099511627776 := by decide
  have e63 : (2 : Int) ^ 63 = 9223372036854775808 := by decide
  refine wpAny_binaryOp_repeat_ref (T := "list") (U := "int") (by decide) ⟨_, ho, rfl⟩ (fun s' => typeIs_int s' n t) noFill_list_mul F.fills_int_mul F.slot_int_rmul repeat_list F.slot_int_index.lookup
    (call_meets F.slot_int_rmul (typeIs_int s n t) F.entry_int_rmul (F.args_int_rmul_2 _ _) (lm_int_rmul_list_any n t a its.toArray k dd sl)
      ⟨ho, rfl, ⟨_, ho, rfl⟩, call_meets F.slot_list_mul ⟨_, ho, rfl⟩ F.entry_list_mul (F.args_list_mul_2 _ _)
        (lm_list_mul_any a its.toArray k dd sl n t (by simp [Builtin.List.listFitsIndex]; omega) (by omega) (by simp only [Builtin.List.listTooLong, decide_eq_true_eq]; omega))
        ⟨ho, ?_⟩⟩)
  rw [listMul_foldl_if]
  have hfl : ∀ m : Nat, (List.replicate m xs).flatten.length = xs.length * m := fun m => by
    induction m with
    | zero => simp
    | succ m ih => rw [List.replicate_succ, List.flatten_cons, List.length_append, ih, Nat.mul_succ, Nat.add_comm]
  refine ⟨.ref s.heap.objs.size, upd H s.heap.objs.size (.lst (List.replicate n.toNat xs).flatten), I.laid (t' := s.toks) (fun b o e => Heap.get?_push_of_some _ e) (Nat.le_refl _) ⟨?_, _, 0, ?_, Heap.get?_push_size _ rfl⟩, rfl, q _ (I.hok.fresh (Nat.le_refl _))⟩
  · rw [hfl]; omega
  · exact vals_flat rv n.toNat
theorem ItV.rep {G : Gx} {F : Fz} {H : Hp} {os : List O} {vs : List V} (h : ItV G F H os vs) : ∀ n, ItV G F H (List.replicate n os).flatten (List.replicate n vs).flatten
  | 0 => ⟨rfl, fun j o e => by simp at e⟩
  | n + 1 => by
    rw [List.replicate_succ, List.replicate_succ, List.flatten_cons, List.flatten_cons]
    exact h.app (h.rep n)
def uRep : U2 := ⟨fun a b Q => ∃ os n, a.its = some os ∧ a.isTrk = true ∧ b = O.i n ∧ 0 ≤ n ∧ n < 2 ^ 40 ∧ os.length * n.toNat ≤ 16777216 ∧ Q (mkL (List.replicate n.toNat os).flatten), fun hq ⟨os, n, e1, e2, e3, e4, e5, e6, q⟩ => ⟨os, n, e1, e2, e3, e4, e5, e6, hq _ q⟩⟩
theorem fit_rep : Fit2 c (rRep c.G.K) uRep := fun F H Ts ts S σ a b x y Q s ⟨os, n, e1, t, eb, n0, nl, z, q⟩ => by
  subst eb
  obtain rfl := s.int
  obtain ⟨F1, p1, vs1, h1⟩ := s.pop.items e1
  rcases h1 with ⟨_, _, s1, ev1, hs, k1, i1, _⟩ | ⟨h1, h2, _⟩
  · subst ev1
    have kl := k1 t
    have hsl := sizeLine_eq
    have hfl : ∀ m : Nat, (List.replicate m os).flatten.length = os.length * m := fun m => by
      induction m with
      | zero => simp
      | succ m ih => rw [List.replicate_succ, List.flatten_cons, List.length_append, ih, Nat.mul_succ, Nat.add_comm]
    refine ⟨p1, vs1, n, rfl, rfl, SqL.of kl, n0, nl, by rw [← i1.1]; exact z, fun r nr => let ⟨F4, _, s4⟩ := (s1.pop.pushN (i1.rep n.toNat)).mkL (i1.rep n.toNat).1 (by rw [hfl]; omega) nr; q F4 _ _ s4⟩
  · rw [t] at h2; cases h2
theorem se_rep (hK : X.K = c.G.K) (ha : SE X c W a pa) (hb : SE X c W b pb) : SE X c W (.BinOp a .Mult b pos) (w2 pa pb uRep) := se_op (r := rRep X.K) op_rep (by rw [hK]; exact fit_rep) ha hb
end
/-! ### for x in a list that stays the frame's own -/
section
variable {X : Cx} {c : Cc} {W : WX} {tg : Expr} {pos : Pos}
theorem walk_own {os : List O} {p : Addr} (hf : ∀ o ∈ os, ∃ d, o = .im d ∧ d.flat = true) (z : os.length ≤ sizeLine) : WalkOk c (Itl c.G.K p) ⟨[.ls os], os⟩ [.ref p] := by
  refine ⟨z, fun F H Ts ts S σ s => ?_⟩
  have s0 : Sv c F H (.ls os :: Ts) (.ref p :: ts) S σ := s
  obtain ⟨A, h⟩ := s0.top
  obtain ⟨p', vs, B, ep, eA, nF, hp, _, ol⟩ := (show Ow c.G F.F H (.ls os) (.ref p) A from h)
  cases ep
  refine ⟨fun i hi => ⟨vs, SqL.of hp, by rw [← ol.len]; exact hi⟩, fun i u hu => ?_⟩
  obtain ⟨d, ed, fd⟩ := hf u (List.mem_of_getElem? hu)
  subst ed
  obtain ⟨v, hv, hr⟩ := at_ ol hu
  refine ⟨⟨vs, v, SqL.of hp, hv⟩, fun x H' ⟨eH, y⟩ => ?_⟩
  subst eH
  have := y vs (SqL.of hp)
  rw [hv] at this
  cases this
  exact ⟨F, s0.pushIm hr⟩
where
  at_ {G : Gx} {F H : Hp} {d : D} : ∀ {os : List O} {vs : List V} {B : List Addr} {i : Nat}, OwL G F H os vs B → os[i]? = some (.im d) → ∃ v, vs[i]? = some v ∧ Re G F H d v
    | [], _, _, i, _, h => by simp at h
    | o :: os, _, _, 0, ⟨v, vr, B1, B2, e, eB, h, t⟩, ho => by
      simp at ho
      subst ho e
      exact ⟨v, rfl, (show _ ∧ _ from h).2⟩
    | o :: os, _, _, i + 1, ⟨v, vr, B1, B2, e, eB, h, t⟩, ho => by
      subst e
      obtain ⟨v', h1, h2⟩ := at_ t (i := i) (by simpa using ho)
      exact ⟨v', by simpa using h1, h2⟩
def sForOwn (i : Nat) (g : WG) (p : WS) : WS := ⟨fun S D => ∃ os, S[i]? = some (some (.ls os)) ∧ (∀ o ∈ os, ∃ d, o = .im d ∧ d.flat = true) ∧ ∀ w : V, forI os g p (S.set i (some (.im (.obj w)))) { D with nx := fun S' => S'[i]? = some (some (.im (.obj w))) ∧ D.nx (S'.set i (some (.ls os))) },
  fun {S D D'} l ⟨os, e, hf, h⟩ => ⟨os, e, hf, fun w => by
    obtain ⟨I, h0, hs, hd⟩ := h w
    refine ⟨I, h0, fun k o S ho hi => ?_, fun S hi => ⟨(hd S hi).1, l.nx _ (hd S hi).2⟩⟩
    have l2 : PEnds.Le { D with nx := fun S' => S'[i]? = some (some (.im (.obj w))) ∧ D.nx (S'.set i (some (.ls os))) } { D' with nx := fun S' => S'[i]? = some (some (.im (.obj w))) ∧ D'.nx (S'.set i (some (.ls os))) } := ⟨fun S z => ⟨z.1, l.nx _ z.2⟩, l.rt, l.bk, l.ct, l.ex⟩
    exact g.mono (fun S' z => p.mono (PEnds.Le.loop l2 _) z) (hs k o S ho hi)⟩⟩
theorem ss_forOwn {body : List Stmt} {g : WG} {p : WS} {x : Str} {p2 : Pos} (i : Nat) (hK : X.K = c.G.K) (hp : PassesOwn (model X.prog X.w) X.A X.env X.xe) (hc : X.calm = true) (hg : SG X c tg g) (hb : SSs X c W body p) (hN : X.N[i]? = some x := by rfl)
    (hv : Vis X.env.scope x := by first | exact Or.inl rfl | exact Or.inr (Or.inl rfl) | exact Or.inr (Or.inr rfl)) (hd : (x == ("__debug__" : Str)) = false := by decide) (hcd : (x == ("__classdict__" : Str)) = false := by decide)
    (hs : ∀ v, foldedSetIterable (.Name x p2) X.env v = pure v := by intro _; rfl) : SS X c W (.For tg (.Name x p2) body [] pos) (sForOwn i g p) :=
  PS.imp (ps_for hp hc (pi_list (pe_var hN hv hd hcd)) hg hb hs) fun D σ H ⟨F, S, Ts, ts, nb, s, os, eS, hf, h⟩ => by
    have hi : i < S.length := (List.getElem?_eq_some_iff.mp eS).1
    obtain ⟨pp, xs, e1, e2, e3⟩ := s.look nb eS
    obtain ⟨v, F1, _, ev, _, s1⟩ := s.move nb eS
    rw [e1] at ev
    cases ev
    obtain ⟨F2, _, _, s2⟩ := (s1.pushIm (d := .obj (.ref pp)) (v := .ref pp) rfl).put (i := i) rfl (by rw [List.length_set]; exact hi)
    rw [List.set_set, set_same e1] at s2
    have zl : os.length ≤ sizeLine := by
      obtain ⟨A, h⟩ := s2.top
      obtain ⟨_, _, _, _, _, _, _, z, _⟩ := (show Ow c.G F2.F H (.ls os) (.ref pp) A from h)
      exact z
    refine ⟨.ref pp, e1, pp, rfl, ⟨_, SqL.of e2⟩, ?_⟩
    rw [hK]
    obtain ⟨I, h0, hst, hd⟩ := h (.ref pp)
    have wo := walk_own (c := c) (p := pp) hf zl
    have nbT : ∀ o ∈ [O.ls os] ++ Ts, o.nb = true := fun o ho => (List.mem_append.mp ho).elim (fun h => by simp at h; subst h; rfl) (nb o)
    refine ⟨fun i m σ H => m = os.length - i ∧ i ≤ os.length ∧ ∃ (F : Fz) (S : List (Option O)), Sv c F H ([O.ls os] ++ Ts) ([V.ref pp] ++ ts) S σ ∧ I i S, ⟨os.length, by simp, Nat.zero_le _, F2, _, s2, h0⟩, ?_⟩
    rintro k m σ H ⟨rfl, hk, F, S, s, hI⟩
    obtain ⟨w1, w2⟩ := wo.2 F H Ts ts S σ s
    by_cases hlt : k < os.length
    · obtain ⟨go, yl⟩ := w2 k _ (List.getElem?_eq_getElem hlt)
      refine .inr ⟨go, fun σ' H' => ∃ (F : Fz) (S : List (Option O)), Sv c F H' ([O.ls os] ++ Ts) ([V.ref pp] ++ ts) S σ' ∧ I (k + 1) S, fun σ' H' ⟨F, S, s, h⟩ => ⟨os.length - (k + 1), by omega, rfl, hlt, F, S, s, h⟩, fun x H' y => ?_⟩
      obtain ⟨F', s'⟩ := yl x H' y
      have back : ∀ S' F3 H3 σ3, (S'[i]? = some (some (.im (.obj (.ref pp)))) ∧ (endK c W Ts ts D).nx (S'.set i (some (.ls os)))) → Sv c F3 H3 ([O.ls os] ++ Ts) ([V.ref pp] ++ ts) S' σ3 → D.nx σ3 H3 := fun S' F3 H3 σ3 h3 s3 => by
        have hi3 := (List.getElem?_eq_some_iff.mp h3.1).1
        obtain ⟨v, ev, hw⟩ := s3.view h3.1
        have : v = .ref pp := (show _ ∧ _ from hw).2
        subst this
        obtain ⟨F4, _, _, s4⟩ := Sv.put (o := .ls os) (v := .ref pp) s3 rfl hi3
        rw [set_same ev] at s4
        exact h3.2 F4 H3 σ3 s4
      refine ⟨F', S, [O.ls os] ++ Ts, [V.ref pp] ++ ts, _, s', g.mono (fun S' z F2 H2 σ2 s2 => ?_) (hst k _ S (List.getElem?_eq_getElem hlt) hI)⟩
      refine ⟨F2, S', [O.ls os] ++ Ts, [V.ref pp] ++ ts, nbT, s2, p.le z ⟨fun S3 h3 F3 H3 σ3 s3 => ⟨F3, S3, s3, h3⟩, fun o h3 F3 H3 v S3 σ3 s3 => ?_, fun S3 h3 F3 H3 σ3 s3 => back S3 F3 H3 σ3 h3 s3, fun S3 h3 F3 H3 σ3 s3 => ⟨F3, S3, s3, h3⟩, fun S3 e h3 σ3 => ?_⟩⟩
      · exact h3 F3 H3 v S3 σ3 (ss_for.Sv.popUnder (os := [O.ls os]) (vs := [V.ref pp]) rfl s3)
      · exact fun cls d F' H' s5 x => h3 σ3 cls d F' H' (s5.popN (os := [O.ls os]) (vs := [V.ref pp]) rfl) x
    · have ei : k = os.length := by omega
      subst ei
      refine .inl ⟨w1 _ (Nat.le_refl _), ?_⟩
      have h3 := hd S hI
      have hi3 := (List.getElem?_eq_some_iff.mp h3.1).1
      obtain ⟨v, ev, hw⟩ := s.view h3.1
      have : v = .ref pp := (show _ ∧ _ from hw).2
      subst this
      obtain ⟨F4, _, _, s4⟩ := Sv.put (o := .ls os) (v := .ref pp) s rfl hi3
      rw [set_same ev] at s4
      exact h3.2 F4 H σ s4
end
end PL

/-! P22 -/
set_option Elab.async false
set_option linter.all false
set_option maxRecDepth 100000
set_option maxHeartbeats 4000000
/-! P22: x = f(a, x, b): the rows of x are lent, and those that come back are the frame's own again. -/
namespace PL
open PySem PySem.Spec L2 PyProof.Rows
def flatRow (r : List O) : Prop := ∀ o ∈ r, ∃ d, o = .im d ∧ d.flat = true
/-- rows that are seen at their places -/
def seenL (p : Nat → Addr) : Nat → List (List O) → List D
  | _, [] => []
  | k, r :: rs => .lsa (p k) (O.erL r) :: seenL p (k + 1) rs
/-- an old row, or a new one -/
def backRow (p : Nat → Addr) (rows : List (List O)) : Nat ⊕ List O → O
  | .inl k => .im (.lsa (p k) (O.erL (rows.getD k [])))
  | .inr r => .ls r
def ownRow (rows : List (List O)) : Nat ⊕ List O → O
  | .inl k => .ls (rows.getD k [])
  | .inr r => .ls r
/-- every old row once at most -/
def onceL (n : Nat) : List (Nat ⊕ List O) → Prop
  | [] => True
  | .inl k :: l => k < n ∧ .inl k ∉ l ∧ onceL n l
  | .inr r :: l => flatRow r ∧ onceL n l
theorem flat_tidyL : ∀ {r : List O}, flatRow r → O.tidyL r = true
  | [], _ => rfl
  | o :: r, h => by
    obtain ⟨d, e, f⟩ := h o List.mem_cons_self
    subst e
    unfold O.tidyL
    rw [flat_tidyL (r := r) fun o ho => h o (List.mem_cons_of_mem _ ho)]
    show (d.flat && true) = true
    rw [f]; rfl
theorem flat_noaddr {G : Gx} {F H : Hp} : ∀ {r : List O} {us : List V} {A : List Addr}, flatRow r → OwL G F H r us A → A = []
  | [], _, _, _, h => h.2
  | o :: r, _, _, f, ⟨v, vr, B, C, e, eA, h, t⟩ => by
    obtain ⟨d, e, fd⟩ := f o List.mem_cons_self
    subst e eA
    rw [(show _ ∧ _ from h).1, flat_noaddr (r := r) (fun o ho => f o (List.mem_cons_of_mem _ ho)) t]
    rfl
theorem flat_re {G : Gx} {F F' H : Hp} : ∀ {r : List O} {us : List V} {A : List Addr}, flatRow r → OwL G F H r us A → ReL G F' H (O.erL r) us
  | [], _, _, _, h => h.1
  | o :: r, _, _, f, ⟨v, vr, B, C, e, eA, h, t⟩ => by
    obtain ⟨d, e', fd⟩ := f o List.mem_cons_self
    subst e' e
    exact ⟨v, vr, rfl, Re.flat d v fd (show _ ∧ _ from h).2, flat_re (r := r) (fun o ho => f o (List.mem_cons_of_mem _ ho)) t⟩
/-- the places of rows -/
structure RowsAt (G : Gx) (F H : Hp) (p : Nat → Addr) (k : Nat) (rows : List (List O)) (ws : List V) (A : List Addr) : Prop where
  ws : ws = (List.range rows.length).map fun j => V.ref (p (k + j))
  A : A = (List.range rows.length).map fun j => p (k + j)
  at_ : ∀ j r, rows[j]? = some r → ∃ us, H (p (k + j)) = some (.lst us) ∧ F (p (k + j)) = none ∧ r.length ≤ sizeLine ∧ OwL G F H r us []
theorem rowsAt {G : Gx} {F H : Hp} : ∀ (rows : List (List O)) (k : Nat) (ws : List V) (A : List Addr), (∀ r ∈ rows, flatRow r) → OwL G F H (rows.map O.ls) ws A → ∃ p : Nat → Addr, RowsAt G F H p k rows ws A
  | [], k, ws, A, _, h => ⟨fun _ => 0, by exact h.1, by exact h.2, fun j r e => by simp at e⟩
  | r :: rows, k, ws, A, f, ⟨v, vr, B, C, e, eA, h, t⟩ => by
    obtain ⟨a, us, D, ev, eB, nF, hH, z, o⟩ := (show Ow G F H (.ls r) v B from h)
    have eD := flat_noaddr (f r List.mem_cons_self) o
    obtain ⟨q, R⟩ := rowsAt rows (k + 1) vr C (fun r hr => f r (List.mem_cons_of_mem _ hr)) t
    have sh : ∀ j, (fun i => if i = k then a else q i) (k + 1 + j) = q (k + 1 + j) := fun j => by
      show (if k + 1 + j = k then a else _) = _
      rw [if_neg (by omega)]
    refine ⟨fun i => if i = k then a else q i, ?_, ?_, fun j r' e' => ?_⟩
    · rw [e, ev, R.ws, List.length_cons, List.range_succ_eq_map, List.map_cons, List.map_map]
      congr 1
      · simp
      · refine List.map_congr_left fun j _ => ?_
        show V.ref (q (k + 1 + j)) = V.ref (if k + (j + 1) = k then a else q (k + (j + 1)))
        rw [if_neg (by omega), show k + (j + 1) = k + 1 + j by omega]
    · rw [eA, eB, eD, R.A, List.length_cons, List.range_succ_eq_map, List.map_cons, List.map_map]
      show a :: _ = _ :: _
      congr 1
      · simp
      · refine List.map_congr_left fun j _ => ?_
        show q (k + 1 + j) = (if k + (j + 1) = k then a else q (k + (j + 1)))
        rw [if_neg (by omega), show k + (j + 1) = k + 1 + j by omega]
    · cases j with
      | zero =>
        have : r = r' := by simpa using e'
        subst this
        show ∃ us, H (if k + 0 = k then a else _) = _ ∧ _
        rw [if_pos (by omega)]
        exact ⟨us, hH, nF, z, eD ▸ o⟩
      | succ j =>
        obtain ⟨us, h1, h2, h3, h4⟩ := R.at_ j r' (by simpa using e')
        show ∃ us, H (if k + (j + 1) = k then a else q (k + (j + 1))) = _ ∧ F (if k + (j + 1) = k then a else q (k + (j + 1))) = _ ∧ _
        rw [if_neg (by omega), show k + (j + 1) = k + 1 + j by omega]
        exact ⟨us, h1, h2, h3, h4⟩
theorem seen_re {G : Gx} {F H F' : Hp} {p : Nat → Addr} : ∀ (rows : List (List O)) (k : Nat), (∀ r ∈ rows, flatRow r) → (∀ j r, rows[j]? = some r → ∃ us, F' (p (k + j)) = some (.lst us) ∧ r.length ≤ sizeLine ∧ OwL G F H r us []) →
    ReL G F' H (seenL p k rows) ((List.range rows.length).map fun j => V.ref (p (k + j)))
  | [], k, _, _ => rfl
  | r :: rows, k, f, h => by
    rw [List.length_cons, List.range_succ_eq_map, List.map_cons, List.map_map]
    refine ⟨_, _, rfl, ?_, ?_⟩
    · obtain ⟨us, h1, h2, h3⟩ := h 0 r rfl
      exact ⟨rfl, us, h1, by rw [O.erL_length]; exact h2, flat_re (f r List.mem_cons_self) h3⟩
    · have := seen_re (p := p) rows (k + 1) (fun r hr => f r (List.mem_cons_of_mem _ hr)) fun j r e => by
        have := h (j + 1) r (by simpa using e)
        rw [show k + (j + 1) = k + 1 + j by omega] at this
        exact this
      have e : ((fun j => V.ref (p (k + j))) ∘ Nat.succ) = fun j => V.ref (p (k + 1 + j)) := by
        funext j
        show V.ref (p (k + (j + 1))) = _
        rw [show k + (j + 1) = k + 1 + j by omega]
      rw [e]
      exact this
/-- what came back is owned again -/
theorem own_back {G : Gx} {F F2 H H2 : Hp} {p : Nat → Addr} {rows : List (List O)} (hr : ∀ j r, rows[j]? = some r → ∃ us, H (p j) = some (.lst us) ∧ F (p j) = none ∧ r.length ≤ sizeLine ∧ OwL G F H r us []) (hf : ∀ r ∈ rows, flatRow r)
    (inj : ∀ i j, i < rows.length → j < rows.length → p i = p j → i = j) (sH : Same H H2) (nF : ∀ a, H a = none → F a = none) : ∀ (items : List (Nat ⊕ List O)) (us : List V) (C : List Addr), onceL rows.length items → OwL G F2 H2 (items.map (backRow p rows)) us C → C.Nodup → (∀ a ∈ C, H a = none) →
      ∃ C', OwL G F H2 (items.map (ownRow rows)) us C' ∧ C'.Nodup ∧ ∀ a ∈ C', a ∈ C ∨ ∃ k, k < rows.length ∧ .inl k ∈ items ∧ a = p k
  | [], us, C, _, h, _, _ => ⟨[], ⟨h.1, rfl⟩, List.nodup_nil, fun a ha => by cases ha⟩
  | .inl k :: items, us, C, ⟨hk, nk, on⟩, ⟨v, vr, B, C1, e, eA, h, t⟩, nd, fr => by
    obtain ⟨eB, ev, ws, _⟩ := (show B = [] ∧ v = .ref (p k) ∧ _ from h)
    subst eB
    rw [List.nil_append] at eA
    subst eA
    obtain ⟨C', o', nd', m'⟩ := own_back hr hf inj sH nF items vr C on t nd fr
    have ek : rows[k]? = some (rows.getD k []) := by rw [List.getD_eq_getElem?_getD, List.getElem?_eq_getElem hk]; rfl
    obtain ⟨ys, h1, h2, h3, h4⟩ := hr k _ ek
    refine ⟨p k :: C', ⟨v, vr, [p k], C', e, rfl, ⟨p k, ys, [], ev, rfl, h2, sH _ _ h1, h3, ?_⟩, o'⟩, List.nodup_cons.mpr ⟨fun hm => ?_, nd'⟩, fun a ha => ?_⟩
    · exact OwL.mono (Same.refl _) (Keep.of sH) _ ys [] (fun a ha => by cases ha) h4
    · rcases m' _ hm with hc | ⟨j, hj, hi, ej⟩
      · rw [fr _ hc] at h1; cases h1
      · exact nk (inj k j hk hj ej ▸ hi)
    · rcases List.mem_cons.mp ha with rfl | ha
      · exact .inr ⟨k, hk, List.mem_cons_self, rfl⟩
      · rcases m' a ha with hc | ⟨j, hj, hi, ej⟩
        · exact .inl hc
        · exact .inr ⟨j, hj, List.mem_cons_of_mem _ hi, ej⟩
  | .inr r :: items, us, C, ⟨fr', on⟩, ⟨v, vr, B, C1, e, eA, h, t⟩, nd, fr => by
    subst eA
    have ndp := List.nodup_append.mp nd
    obtain ⟨C', o', nd', m'⟩ := own_back hr hf inj sH nF items vr C1 on t ndp.2.1 fun a ha => fr a (List.mem_append_right _ ha)
    refine ⟨B ++ C', ⟨v, vr, B, C', e, rfl, Ow.tidy (.ls r) v B (flat_tidyL fr') (fun a ha => nF a (fr a (List.mem_append_left _ ha))) h, o'⟩, List.nodup_append.mpr ⟨ndp.1, nd', fun a ha b hb e => ?_⟩, fun a ha => ?_⟩
    · subst e
      rcases m' a hb with hc | ⟨j, hj, hi, ej⟩
      · exact ndp.2.2 a ha a hc rfl
      · have ek : rows[j]? = some rows[j] := List.getElem?_eq_getElem hj
        obtain ⟨ys, h1, _⟩ := hr j _ ek
        rw [← ej, fr a (List.mem_append_left _ ha)] at h1
        cases h1
    · rcases List.mem_append.mp ha with ha | ha
      · exact .inl (List.mem_append_left _ ha)
      · rcases m' a ha with hc | ⟨j, hj, hi, ej⟩
        · exact .inl (List.mem_append_right _ hc)
        · exact .inr ⟨j, hj, List.mem_cons_of_mem _ hi, ej⟩
section
variable {c : Cc} {F : Fz} {H : Hp} {Ts : List O} {ts : List V} {S : List (Option O)} {σ : L2.St}
/-- the rows on top are lent -/
theorem Sv.thaw {rows : List (List O)} {v0 : V} (hf : ∀ r ∈ rows, flatRow r) (s : Sv c F H (.ls (rows.map .ls) :: Ts) (v0 :: ts) S σ) :
    ∃ (B0 : Hp) (p : Nat → Addr), Same F.B B0 ∧ Same B0 H ∧ Re c.G B0 H (.lst (seenL p 0 rows)) v0 ∧
      ∀ (F2 H2 : Hp) (items : List (Nat ⊕ List O)) (v : V) (A : List Addr), Same H H2 → onceL rows.length items → Ow c.G F2 H2 (.ls (items.map (backRow p rows))) v A → A.Nodup → (∀ a ∈ A, H a = none) →
        ∃ F', Sv c F' H2 (.ls (items.map (ownRow rows)) :: Ts) (v :: ts) S σ := by
  obtain ⟨A, C, ⟨v', vr, A1, A2, e, eA, h, r⟩, hC, nd, no, nA, nC⟩ := s.own
  cases e
  subst eA
  obtain ⟨a, ws, Bl, ev, eA1, nFa, hHa, z, ol⟩ := (show Ow c.G F.F H (.ls (rows.map .ls)) v0 A1 from h)
  obtain ⟨p, R⟩ := rowsAt rows 0 ws Bl hf ol
  have at0 : ∀ j r, rows[j]? = some r → ∃ us, H (p j) = some (.lst us) ∧ F.F (p j) = none ∧ r.length ≤ sizeLine ∧ OwL c.G F.F H r us [] := fun j r e => by
    have := R.at_ j r e
    rw [Nat.zero_add] at this
    exact this
  have inA1 : ∀ j, j < rows.length → p j ∈ A1 := fun j hj => by
    rw [eA1, R.A]
    refine List.mem_cons_of_mem _ (List.mem_map.mpr ⟨j, List.mem_range.mpr hj, by rw [Nat.zero_add]⟩)
  rw [List.append_assoc] at nd no
  have nd1 := (List.nodup_append.mp nd).1
  have inj : ∀ i j, i < rows.length → j < rows.length → p i = p j → i = j := fun i j hi hj e => by
    rw [eA1, R.A] at nd1
    have nb := (List.nodup_cons.mp nd1).2
    have key := List.pairwise_iff_getElem.mp nb
    rcases Nat.lt_trichotomy i j with h | h | h
    · exact absurd (by simpa using e) (key i j (by simpa using hi) (by simpa using hj) h)
    · exact h
    · exact absurd (by simpa using e.symm) (key j i (by simpa using hj) (by simpa using hi) h)
  refine ⟨frz F.B H A1, p, frz_same fun b hb => nA b (List.mem_append_left _ hb), frz_sub s.bh, ?_, fun F2 H2 items v A sH on ho ndA frA => ?_⟩
  · refine ⟨a, ws, ev, ?_, ?_, ?_⟩
    · rw [frz_in (by rw [eA1]; exact List.mem_cons_self)]; exact hHa
    · have : ∀ k, (seenL p k rows).length = rows.length := by
        have : ∀ (rs : List (List O)) k, (seenL p k rs).length = rs.length := by
          intro rs
          induction rs with
          | nil => intro _; rfl
          | cons r rs ih => intro k; unfold seenL; rw [List.length_cons, List.length_cons, ih]
        exact this rows
      rw [this]
      rw [List.length_map] at z
      exact z
    · rw [R.ws]
      refine seen_re (F := F.F) rows 0 hf fun j r e => ?_
      have hj : j < rows.length := (List.getElem?_eq_some_iff.mp e).1
      obtain ⟨us, h1, h2, h3, h4⟩ := at0 j r e
      refine ⟨us, ?_, h3, h4⟩
      rw [Nat.zero_add, frz_in (inA1 j hj)]
      exact h1
  · have s1 : Sv c F H Ts ts S σ := s.pop
    have s2 := s1.grow (Same.refl F.F) sH (s1.sub.trans sH) (fun _ _ => rfl)
    obtain ⟨b, us, C2, ev2, eA2, nFb, hHb, z2, ol2⟩ := ho
    have ndA' := ndA
    rw [eA2] at ndA'
    have fb : H b = none := frA b (by rw [eA2]; exact List.mem_cons_self)
    obtain ⟨C', o', nd', m'⟩ := own_back (F2 := F2) at0 hf inj sH (fun a h => s.sub.free h) items us C2 on ol2 (List.nodup_cons.mp ndA').2 fun a ha => frA a (by rw [eA2]; exact List.mem_cons_of_mem _ ha)
    have place : ∀ x ∈ b :: C', H x = none ∨ x ∈ A1 := fun x hx => by
      rcases List.mem_cons.mp hx with rfl | hx
      · exact .inl fb
      · rcases m' x hx with hc | ⟨k, hk, _, e⟩
        · exact .inl (frA x (by rw [eA2]; exact List.mem_cons_of_mem _ hc))
        · exact .inr (e ▸ inA1 k hk)
    have ndb : (b :: C').Nodup := by
      refine List.nodup_cons.mpr ⟨fun hb => ?_, nd'⟩
      rcases m' b hb with hc | ⟨k, hk, _, e⟩
      · exact (List.nodup_cons.mp ndA').1 hc
      · obtain ⟨us', q, _⟩ := at0 k _ (List.getElem?_eq_getElem hk)
        rw [← e, fb] at q
        exact nomatch q
    have hA2' : TmL c.G ⟨F.F, joinB F.F F.B⟩ H2 Ts ts A2 := TmL.monoK (F := F) (F' := ⟨F.F, joinB F.F F.B⟩) (Same.refl F.F) (fun x o e => by
      show joinB F.F F.B x = some o
      unfold joinB
      cases q : F.F x with
      | none => exact e
      | some o' => have := s.fb x o' q; rw [e] at this; exact this.symm) (.of sH) (fun x hx => ⟨(r.own x hx).1, by
        obtain ⟨_, vs, q⟩ := r.own x hx
        rw [q]; exact sH _ _ q⟩) r
    have hC' : SlL c.G F.F H2 S σ C := hC.mono (Same.refl _) (.of sH) fun x hx => ⟨(hC.own x hx).1, by
        obtain ⟨_, vs, q⟩ := hC.own x hx
        rw [q]; exact sH _ _ q⟩
    have inH : ∀ x ∈ A2 ++ C, H x ≠ none := fun x hx => by
      rcases List.mem_append.mp hx with hx | hx
      · obtain ⟨_, vs, e⟩ := r.own x hx; rw [e]; simp
      · obtain ⟨_, vs, e⟩ := hC.own x hx; rw [e]; simp
    have nd2 := (List.nodup_append.mp nd).2.1
    have out : ∀ x ∈ A2 ++ C, x ∉ A1 := fun x hx h1 => (List.nodup_append.mp nd).2.2 x h1 x hx rfl
    refine ⟨⟨F.F, joinB F.F F.B⟩, s2.ext, s2.fb, s2.bh, s2.old, s2.dom, (b :: C') ++ A2, C, ⟨v, ts, b :: C', A2, rfl, rfl, ?_, hA2'⟩, hC', ?_, fun x hx => ?_, fun x hx => ?_, fun x hx => ?_⟩
    · exact ⟨b, us, C', ev2, rfl, s.sub.free fb, hHb, by rw [List.length_map] at z2 ⊢; exact z2, o'⟩
    · rw [List.append_assoc]
      refine List.nodup_append.mpr ⟨ndb, nd2, fun x hx y hy e => ?_⟩
      subst e
      rcases place x hx with h1 | h1
      · exact inH x hy h1
      · exact out x hy h1
    · rw [List.append_assoc] at hx
      rcases List.mem_append.mp hx with hx | hx
      · rcases place x hx with h1 | h1
        · exact s.old.free h1
        · exact no x (List.mem_append_left _ h1)
      · exact no x (List.mem_append_right _ hx)
    · show joinB F.F F.B x = none
      unfold joinB
      rcases List.mem_append.mp hx with hx | hx
      · rcases place x hx with h1 | h1
        · rw [s.sub.free h1]; exact s.bh.free h1
        · rw [(h.own x h1).1]; exact nA x (List.mem_append_left _ h1)
      · rw [(r.own x hx).1]; exact nA x (List.mem_append_right _ hx)
    · show joinB F.F F.B x = H2 x
      unfold joinB
      obtain ⟨q1, vs, q2⟩ := hC.own x hx
      rw [q1, sH _ _ q2, ← q2]
      exact nC x hx
end
/-- x = f(a, x, b) -/
def sThaw (i : Nat) (pa pb : W1 O) (R : Ctr) : WS := ⟨fun S D => ∃ rows, S[i]? = some (some (.ls (rows.map .ls))) ∧ (∀ r ∈ rows, flatRow r) ∧ pa.run (S.set i none) (fun o1 => pb.run (S.set i none) (fun o2 =>
    ∀ p : Nat → Addr, R.run [o1.er, .lst (seenL p 0 rows), o2.er] (fun o => ∃ items, o = .ls (items.map (backRow p rows)) ∧ onceL rows.length items ∧ D.nx (S.set i (some (.ls (items.map (ownRow rows)))))) (fun e => D.ex (S.set i none) e)) (D.ex (S.set i none))) (D.ex (S.set i none)),
  by
    rintro S D D' l ⟨rows, e, f, h⟩
    exact ⟨rows, e, f, pa.mono (fun o1 z => pb.mono (fun o2 y p => R.mono (fun o ⟨it, e1, e2, e3⟩ => ⟨it, e1, e2, l.nx _ e3⟩) (fun e z => l.ex _ e z) (y p)) (fun e z => l.ex _ e z) z) (fun e z => l.ex _ e z) h⟩⟩
section
variable {X : Cx} {c : Cc} {W : WX} {a b : Expr} {pa pb : W1 O} {pos : Pos}
theorem ss_thaw {k j i : Nat} {R : Ctr} {f x : Str} {p p2 pos pos2 pos3 : Pos} (M : DOk X.prog X.w X.K X.mg X.base f k c.G R) (hr : Room j X.A) (hk : k ≤ j) (tk : Takes X W) (hN : X.N.Nodup) (hi : X.N[i]? = some x) (hx : Loc X.env.scope x) (ha : SE X c W a pa) (hb : SE X c W b pb)
    (hv : Vis X.env.scope x := by first | exact Or.inl rfl | exact Or.inr (Or.inl rfl) | exact Or.inr (Or.inr rfl)) (hd : (x == ("__debug__" : Str)) = false := by decide) (hcd : (x == ("__classdict__" : Str)) = false := by decide) (hg : Gl X f := by rfl) (hdb : (f == ("__debug__" : Str)) = false := by decide)
    (hs1 : starEach [a, .Name x p2, b] X.env = (false, eval a X.env) :: starEach [.Name x p2, b] X.env := by rfl) (hs2 : starEach [.Name x p2, b] X.env = (false, eval (.Name x p2) X.env) :: starEach [b] X.env := by rfl) (hs3 : starEach [b] X.env = (false, eval b X.env) :: starEach [] X.env := by rfl)
    (hpl : (backTo pos2 (starEach [.Name x p2, b] X.env)).any (·.1) = false := by rfl) (hs : swapsWith (.Call (.Name f p) [a, .Name x p2, b] [] pos2) (some (.Name x pos3)) pos.line X.env = pure false := by rfl)
    (hf : X.fn x = true ∨ X.env.scope.names.lookup x = some .local := by first | exact .inl rfl | exact .inr rfl | assumption) :
    SS X c W (.Assign [.Name x pos3] (.Call (.Name f p) [a, .Name x p2, b] [] pos2) pos) (sThaw i pa pb R) := by
  obtain ⟨ff, fd, ps, F, hm, hkp, hbi⟩ := M.ex
  refine PS.imp (ps_set hN hi hx (pe_callSD (dvs := []) F (hr.mono hk) hg hm hkp hbi .nil (fun σ => passAt tk σ) (pa_cons ha (pa_cons (pe_var hi hv hd hcd) (pa_cons hb pa_nil hs3) hs2) hs1) hdb hs1 hpl) hs hf) fun D σ H ⟨F, S, Ts, ts, nb, s, rows, eS, hfl, h⟩ => ?_
  have il : i < S.length := (List.getElem?_eq_some_iff.mp eS).1
  obtain ⟨v0, F1, _, e0, nbw, s1⟩ := s.move nb eS
  refine ⟨F1, S.set i none, _, _, s1, pa.mono (fun o1 z F2 H2 v1 s2 => ?_) (fun e z => ?_) h⟩
  · refine ⟨v0, e0, F2, S.set i none, _, _, s2, pb.mono (fun o2 y F3 H3 v2 s3 => ?_) (fun e y => ?_) z⟩
    · have s3' : Sv c F3 H3 ([o2, o1] ++ (.ls (rows.map .ls) :: Ts)) ([v2, v1] ++ (v0 :: ts)) (S.set i none) σ := s3
      obtain ⟨B, sB, s4, rel⟩ := s3'.lend rfl
      obtain ⟨w2, wr2, ew2, r2, w1, wr1, ew1, r1, en⟩ := rel
      cases ew2
      cases ew1
      obtain ⟨B0, pp, sB0, sB0H, re, thaw⟩ := s4.thaw hfl
      refine ⟨B0, [o1.er, .lst (seenL pp 0 rows), o2.er], sB0H, ⟨v1, _, rfl, r1.mono sB0 (Keep.refl _), v0, _, rfl, re, v2, [], rfl, r2.mono sB0 (Keep.refl _), rfl⟩, R.mono (fun o ⟨items, eo, on, nx⟩ F5 H5 v A g1 g2 g3 g4 g5 g6 g7 => ?A) (fun e z cls d H5 k x => ?B) (y pp)⟩
      case A =>
        subst eo
        obtain ⟨F', s6⟩ := thaw F5 H5 items v A g3 on g5 g6 g7
        obtain ⟨F7, _, _, s7⟩ := s6.put (i := i) rfl (by rw [List.length_set]; exact il)
        rw [List.set_set] at s7
        exact nx F7 H5 _ s7
      case B =>
        exact z σ cls d _ H5 (s4.pop.grow (Same.refl _) k (s4.pop.sub.trans k) (fun _ _ => rfl)) x
    · exact fun cls d F' H' s5 x => y σ cls d F' H' (s5.popN (os := [o1, .ls (rows.map .ls)]) (vs := [v1, v0]) rfl) x
  · exact fun cls d F' H' s5 x => z σ cls d F' H' (s5.popN (os := [.ls (rows.map .ls)]) (vs := [v0]) rfl) x
end
end PL

/-! P23 -/
set_option Elab.async false
set_option linter.all false
set_option maxRecDepth 100000
set_option maxHeartbeats 4000000
/-! P23: found.append(row), the row given away. -/
namespace PL
open PySem PySem.Spec L2 PyProof.Rows
def sAppMv (i j : Nat) : WS := ⟨fun S D => ∃ acc w, S[i]? = some (some (.ls acc)) ∧ S[j]? = some (some w) ∧ i ≠ j ∧ acc.length < sizeLine ∧ D.nx ((S.set j none).set i (some (.ls (acc ++ [w])))), by
  rintro S D D' l ⟨a, w, e1, e2, e3, e4, h⟩
  exact ⟨a, w, e1, e2, e3, e4, l.nx _ h⟩⟩
section
variable {X : Cx} {c : Cc} {W : WX} {pos : Pos}
theorem ss_appMv (i j : Nat) {x y : Str} {p2 p3 apos cpos : Pos} (hN : X.N[i]? = some x := by rfl) (hv : Vis X.env.scope x := by first | exact Or.inl rfl | exact Or.inr (Or.inl rfl) | exact Or.inr (Or.inr rfl))
    (hd : (x == ("__debug__" : Str)) = false := by decide) (hcd : (x == ("__classdict__" : Str)) = false := by decide)
    (hN2 : X.N[j]? = some y := by rfl) (hv2 : Vis X.env.scope y := by first | exact Or.inl rfl | exact Or.inr (Or.inl rfl) | exact Or.inr (Or.inr rfl))
    (hd2 : (y == ("__debug__" : Str)) = false := by decide) (hcd2 : (y == ("__classdict__" : Str)) = false := by decide)
    (hbase : attributeBase (.Name x p2) "append" X.env (eval (.Name x p2) X.env) = eval (.Name x p2) X.env := by rfl)
    (hfew : ((backTo cpos (starEach [.Name y p3] X.env)).all (fun x => !x.1) && (backToKw cpos (keywordEach [] X.env)).all (fun x => x.1.isSome)
      && decide (([.Name y p3] : List Expr).length + ([] : List Keyword).length + (if ([] : List Keyword).isEmpty then 0 else 1) < 30)) = true := by rfl)
    (hline : (apos.endLine == cpos.line) = true := by rfl) (hs : starEach [.Name y p3] X.env = (false, eval (.Name y p3) X.env) :: starEach [] X.env := by rfl) (hplain : (backTo cpos (starEach ([] : List Expr) X.env)).any (·.1) = false := by rfl)
    (hsw : swapsWith (.Call (.Attribute (.Name x p2) "append" apos) [.Name y p3] [] cpos) none pos.line X.env = pure false := by rfl) :
    SS X c W (.Expr (.Call (.Attribute (.Name x p2) "append" apos) [.Name y p3] [] cpos) pos) (sAppMv i j) :=
  PS.imp (ps_expr (pe_bm PySem.F.plainAttrs_list PySem.F.slot_list_append PySem.F.type_list_append mt_append (pe_var hN hv hd hcd) (pa_cons (pe_var hN2 hv2 hd2 hcd2) pa_nil hs) hbase hfew hline hs hplain) hsw) fun D σ H ⟨F, S, Ts, ts, nb, s, acc, w, ea, ej, ij, z, q⟩ => by
    obtain ⟨p, xs, e1, e2, _⟩ := s.look nb ea
    refine ⟨_, e1, .inl ⟨rfl, _, SqL.of e2⟩, ?_⟩
    obtain ⟨v0, F1, _, e0, nbw, s1⟩ := s.move nb ej
    obtain ⟨D', xs', e3, e4, e5, up⟩ := s1.upSlot (nb_cons nbw nb) (i := i) (acc := acc) (by rw [List.getElem?_set_ne (fun h => ij h.symm)]; exact ea)
    rw [e1] at e3
    cases e3
    obtain ⟨F', s2⟩ := up (acc ++ [w]) (xs' ++ [v0]) (by rw [List.length_append]; exact z) UpOk.append
    exact ⟨v0, e0, p, xs', v0, rfl, rfl, e4, by rw [e5]; exact z, q F' _ σ s2⟩
end
end PL

/-! P24 -/
set_option Elab.async false
set_option linter.all false
set_option maxRecDepth 100000
set_option maxHeartbeats 4000000
/-! P24: tuples of what the frame owns: handed back, taken apart. -/
namespace PL
open PySem PySem.Spec L2 PyProof.Rows
/-- return (x, y, z) -/
def sRetT3 (i j k : Nat) : WS := ⟨fun S D => ∃ a b d, S[i]? = some (some a) ∧ S[j]? = some (some b) ∧ S[k]? = some (some d) ∧ i ≠ j ∧ j ≠ k ∧ i ≠ k ∧ D.rt (mkT [a, b, d]), by
  rintro S D D' l ⟨a, b, d, e1, e2, e3, n1, n2, n3, h⟩
  exact ⟨a, b, d, e1, e2, e3, n1, n2, n3, l.rt _ h⟩⟩
/-- target = x, x given away -/
def sAsgMv (i : Nat) (g : WG) : WS := ⟨fun S D => ∃ o, S[i]? = some (some o) ∧ g.run o (S.set i none) D.nx, by
  rintro S D D' l ⟨o, e, h⟩
  exact ⟨o, e, g.mono (fun S z => l.nx _ z) h⟩⟩
section
variable {X : Cx} {c : Cc} {W : WX} {pos : Pos}
theorem ss_retT3 (i j k : Nat) {x y z : Str} {kt : Nat} {p1 p2 p3 p4 : Pos} (hN : X.N[i]? = some x := by rfl) (hv : Vis X.env.scope x := by first | exact Or.inl rfl | exact Or.inr (Or.inl rfl) | exact Or.inr (Or.inr rfl))
    (hd : (x == ("__debug__" : Str)) = false := by decide) (hcd : (x == ("__classdict__" : Str)) = false := by decide)
    (hN2 : X.N[j]? = some y := by rfl) (hv2 : Vis X.env.scope y := by first | exact Or.inl rfl | exact Or.inr (Or.inl rfl) | exact Or.inr (Or.inr rfl))
    (hd2 : (y == ("__debug__" : Str)) = false := by decide) (hcd2 : (y == ("__classdict__" : Str)) = false := by decide)
    (hN3 : X.N[k]? = some z := by rfl) (hv3 : Vis X.env.scope z := by first | exact Or.inl rfl | exact Or.inr (Or.inl rfl) | exact Or.inr (Or.inr rfl))
    (hd3 : (z == ("__debug__" : Str)) = false := by decide) (hcd3 : (z == ("__classdict__" : Str)) = false := by decide)
    (hs1 : starEach [.Name x p1, .Name y p2, .Name z p3] X.env = (false, eval (.Name x p1) X.env) :: starEach [.Name y p2, .Name z p3] X.env := by rfl)
    (hs2 : starEach [.Name y p2, .Name z p3] X.env = (false, eval (.Name y p2) X.env) :: starEach [.Name z p3] X.env := by rfl)
    (hs3 : starEach [.Name z p3] X.env = (false, eval (.Name z p3) X.env) :: starEach [] X.env := by rfl) :
    SS X c W (.Return (some (.Tuple [.Name x p1, .Name y p2, .Name z p3] kt p4)) pos) (sRetT3 i j k) :=
  PS.imp (ps_ret (pe_tup (pa_cons (pe_var hN hv hd hcd) (pa_cons (pe_var hN2 hv2 hd2 hcd2) (pa_cons (pe_var hN3 hv3 hd3 hcd3) pa_nil hs3) hs2) hs1))) fun D σ H ⟨F, S, Ts, ts, nb, s, a, b, d, e1, e2, e3, n1, n2, n3, h⟩ => by
    obtain ⟨v3, F3, _, ev3, nb3, s3⟩ := s.move nb e3
    obtain ⟨v2, F2, _, ev2, nb2, s2⟩ := s3.move (nb_cons nb3 nb) (i := j) (o := b) (by rw [List.getElem?_set_ne (fun h => n2 h.symm)]; exact e2)
    obtain ⟨v1, F1, _, ev1, nb1, s1⟩ := s2.move (nb_cons nb2 (nb_cons nb3 nb)) (i := i) (o := a) (by rw [List.getElem?_set_ne (fun h => n1 h.symm), List.getElem?_set_ne (fun h => n3 h.symm)]; exact e1)
    refine ⟨v1, ev1, v2, ev2, v3, ev3, szL (by simp), fun p np => ?_⟩
    have s4 : Sv c F1 H ([a, b, d] ++ Ts) ([v1, v2, v3] ++ ts) (((S.set k none).set j none).set i none) σ := s1
    obtain ⟨F', _, s5⟩ := s4.mkT rfl (szL (by simp)) np
    exact h F' _ _ _ σ s5
theorem ss_asgMv (i : Nat) {x : Str} {tg : Expr} {g : WG} {p2 : Pos} (hg : SG X c tg g) (hN : X.N[i]? = some x := by rfl) (hv : Vis X.env.scope x := by first | exact Or.inl rfl | exact Or.inr (Or.inl rfl) | exact Or.inr (Or.inr rfl))
    (hd : (x == ("__debug__" : Str)) = false := by decide) (hcd : (x == ("__classdict__" : Str)) = false := by decide)
    (hs : swapsWithSole [tg] (.Name x p2) pos.line X.env = pure false := by rfl) (hw : swappedStores [tg] (.Name x p2) X.env = pure none := by rfl)
    (h1 : (assignEach [tg] X.env).map (·.2) = [assign tg X.env] := by rfl) : SS X c W (.Assign [tg] (.Name x p2) pos) (sAsgMv i g) :=
  PS.imp (ps_asg (pe_var hN hv hd hcd) hg hs hw h1) fun D σ H ⟨F, S, Ts, ts, nb, s, o, e, h⟩ => by
    obtain ⟨v, F', _, ev, _, s1⟩ := s.move nb e
    exact ⟨v, ev, F', _, Ts, ts, o, s1, g.mono (fun S' z F2 H2 σ2 s2 => z F2 H2 σ2 s2) h⟩
end
end PL

/-! P25 -/
set_option Elab.async false
set_option linter.all false
set_option maxRecDepth 100000
set_option maxHeartbeats 4000000
/-! P25: a def whose last argument is given away and comes back changed; numbers set in all rows of a list. -/
namespace PL
open PySem PySem.Spec L2 PyProof.Rows
structure CtL where
  run : List D → O → (O → Prop) → Prop
  mono : ∀ {ds o Q Q'}, (∀ r, Q r → Q' r) → run ds o Q → run ds o Q'
def spMl (G : Gx) (R : CtL) : Sp := fun vs H Q _ => ∃ (F0 : Hp) (v0 : V) (vs' : List V) (o : O) (A : List Addr) (ds : List D), vs = vs' ++ [v0] ∧ o.nb = true ∧ Same F0 H ∧ Ow G F0 H o v0 A ∧ A.Nodup ∧ ReL G F0 H ds vs' ∧
  R.run ds o (fun r => ∀ (H' : Hp) (v : V) (B : List Addr), (∀ a x, H a = some x → a ∉ A → H' a = some x) → (∀ F : Hp, (∀ a ∈ B, F a = none) → Ow G F H' r v B) → B.Nodup → (∀ a ∈ B, H a = none ∨ a ∈ A) → Q v H')
def startL (N : List Str) (ds : List D) (o : O) : List (Option O) := ds.map (fun d => some (.im d)) ++ (some o :: List.replicate (N.length - (ds.length + 1)) none)
theorem SlL.startL {G : Gx} {F H : Hp} {m : Nat} {o : O} {v0 : V} {A : List Addr} (ho : Ow G F H o v0 A) : ∀ {ds : List D} {vs : List V}, ReL G F H ds vs → SlL G F H (ds.map (fun d => some (.im d)) ++ (some o :: List.replicate m none)) (vs.map some ++ (some v0 :: List.replicate m none)) A
  | [], _, e => by
    cases e
    have := SlL.start (G := G) (F := F) (H := H) (m := m) (ds := []) (vs := []) rfl
    exact ⟨v0, _, A, [], rfl, by simp, ho, this⟩
  | d :: ds, _, ⟨v, vr, e, h, r⟩ => by
    subst e
    exact ⟨v, _, [], A, rfl, rfl, ⟨rfl, h⟩, SlL.startL ho r⟩
section
variable {P : Program} {w : World} {K : PySem.W.Frag} {mg : Str → Option Value} {base : Heap} {G : Gx}
theorem ok_ml {x qual : Str} {st : Stmt} {f : Addr} {fd : FuncData} {N ps : List Str} {k : Nat} {R : CtL} {p : WS} (F : Fun K x qual st f fd) (S : FnScope N ps (defScope st)) (len : ∀ ds o Q, R.run ds o Q → ds.length + 1 = ps.length)
    (hbody : ∀ (c : Cc) (cdv : Value) (A : Around) (outer : List Env) (s : Shared) (H : Hp) (E : XK), c.G = G → Room k (A.deeper (PyProof.Rows.envOfC qual (defScope st) s.heap.objs.size f cdv)) →
      SSs (cxOf (L2.CX P w) P w K mg base N qual (defScope st) f cdv A outer s H E) c (fun cls d _ H => E cls d H) (defBody st) p)
    (pure : ∀ ds o Q, R.run ds o Q → p.run (startL N ds o) { nx := fun _ => False, rt := fun r => r.nb = true ∧ r.tidy = true ∧ Q r, ex := fun _ _ => False }) : FnOk P w K mg base (L2.CX P w) (k + 1) f fd ps (spMl G R) := by
  refine F.okX S (fun vs H Q E ⟨F0, v0, vs', o, A, ds, e, _, _, _, _, r, h⟩ => by subst e; rw [List.length_append, ← r.length]; exact len _ _ _ h) (fun cdv Ar outer s H vs Q E hr ⟨F0, v0, vs', o, A, ds, e, nb, sm, ho, nd, r, h⟩ => ?_)
  subst e
  have off : ∀ a, a ∈ A → offH H A a = none := fun a h => by unfold offH; rw [if_pos h]
  have on : ∀ a, a ∉ A → offH H A a = H a := fun a h => by unfold offH; rw [if_neg h]
  have own := Ow.own ho
  refine ⟨_, hbody ⟨G, F0, offH H A⟩ cdv Ar outer s H E rfl hr, ?_⟩
  refine ⟨⟨F0, PL.frz F0 H A⟩, PL.startL N ds o, [], [], (fun o ho => by cases ho), ⟨Same.refl _, frz_same fun a ha => (own a ha).1, frz_sub sm, fun a u q => ?_, fun _ _ => rfl, [], A, ⟨rfl, rfl⟩, ?_, nd, fun a ha => off a ha, (fun a ha => by cases ha), fun a ha => frz_in ha⟩,
    p.le (pure ds o _ h) ⟨fun S' z => z.elim, fun r ⟨nbr, tr, z⟩ F' H' v S' σ' s' => ?_, fun _ z => z.elim, fun _ z => z.elim, fun S' e z => z.elim⟩⟩
  · have q' : offH H A a = some u := q
    by_cases hm : a ∈ A
    · rw [off a hm] at q'; cases q'
    · rw [on a hm] at q'; exact q'
  · unfold PL.startL L2.start
    have := SlL.startL (m := N.length - (ds.length + 1)) ho r
    rw [List.map_append, List.length_append, ← r.length, List.append_assoc]
    exact this
  · obtain ⟨A', C, ⟨v', vr, A1, A2, e, eA, hw, r2⟩, hC, nd', no, nA, nC⟩ := s'.own
    cases e
    have e2 : A2 = [] := r2.2
    subst e2 eA
    rw [List.append_nil] at nd' no
    refine z H' v A1 (fun a x q n => s'.old a x ?_) (fun F hF => Ow.tidy r v A1 tr hF (hw.ow nbr)) (List.nodup_append.mp nd').1 fun a ha => ?_
    · show offH H A a = some x
      rw [on a n]; exact q
    · have q : offH H A a = none := no a (List.mem_append_left _ ha)
      by_cases hm : a ∈ A
      · exact .inr hm
      · rw [on a hm] at q; exact .inl q
end
section
variable {c : Cc} {F : Fz} {H : Hp} {Ts : List O} {ts : List V} {S : List (Option O)} {σ : L2.St}
/-- what was given away comes back -/
theorem Sv.swapOwn {w : O} {v : V} (s : Sv c F H (w :: Ts) (v :: ts) S σ) : ∃ A, Vw c.G F H w v A ∧ A.Nodup ∧ (∀ a ∈ A, F.B a = none) ∧ ∀ (H' : Hp) (r : O) (u : V) (B : List Addr), (∀ a x, H a = some x → a ∉ A → H' a = some x) → (∀ F : Hp, (∀ a ∈ B, F a = none) → Ow c.G F H' r u B) → B.Nodup → (∀ a ∈ B, H a = none ∨ a ∈ A) →
    Sv c F H' (r :: Ts) (u :: ts) S σ := by
  obtain ⟨A, C, ⟨v', vr, A1, A2, e, eA, h, r⟩, hC, nd, no, nA, nC⟩ := s.own
  cases e
  subst eA
  rw [List.append_assoc] at nd no
  have nd1 := (List.nodup_append.mp nd).1
  have nd2 := (List.nodup_append.mp nd).2.1
  have out : ∀ a ∈ A2 ++ C, a ∉ A1 := fun a ha h1 => (List.nodup_append.mp nd).2.2 a h1 a ha rfl
  have own1 := h.own
  refine ⟨A1, h, nd1, fun a ha => nA a (List.mem_append_left _ ha), fun H' r0 u B st hB ndB hm => ?_⟩
  have kp : Keep H H' := fun b u q nl => st b u q fun hb => by
    obtain ⟨_, vs, e⟩ := h.own b hb
    rw [e] at q; cases q
    exact nl _ rfl
  have inH : ∀ a ∈ A2 ++ C, H a ≠ none := fun a ha => by
    rcases List.mem_append.mp ha with h | h
    · obtain ⟨_, vs, e⟩ := r.own a h; rw [e]; simp
    · obtain ⟨_, vs, e⟩ := hC.own a h; rw [e]; simp
  have same : ∀ a ∈ A2 ++ C, H' a = H a := fun a ha => by
    have : ∃ vs, H a = some (.lst vs) := by
      rcases List.mem_append.mp ha with h | h
      · exact (r.own a h).2
      · exact (hC.own a h).2
    obtain ⟨vs, e⟩ := this
    rw [e]
    exact st a _ e (out a ha)
  have fB : ∀ a ∈ B, F.F a = none := fun a ha => (hm a ha).elim (fun h => s.sub.free h) fun h => (own1 a h).1
  refine ⟨s.ext, s.fb, fun a u q => ?_, fun a u q => ?_, s.dom, B ++ A2, C, ⟨u, ts, B, A2, rfl, rfl, (hB F.F fB).vw, r.monoK (Same.refl _) (Same.refl _) kp (fun a ha => ⟨(r.own a ha).1, same a (List.mem_append_left _ ha)⟩)⟩, hC.monoAt kp (fun a ha => same a (List.mem_append_right _ ha)), ?_, fun a ha => ?_, fun a ha => ?_, fun a ha => (nC a ha).trans (same a (List.mem_append_right _ ha)).symm⟩
  · exact st a u (s.bh a u q) fun hm => by rw [nA a (List.mem_append_left _ hm)] at q; cases q
  · exact st a u (s.old a u q) fun hm => by rw [no a (List.mem_append_left _ hm)] at q; cases q
  · rw [List.append_assoc]
    refine List.nodup_append.mpr ⟨ndB, nd2, fun x hx y hy e => ?_⟩
    subst e
    rcases hm x hx with h1 | h1
    · exact inH x hy h1
    · exact out x hy h1
  · rw [List.append_assoc] at ha
    rcases List.mem_append.mp ha with ha | ha
    · rcases hm a ha with h1 | h1
      · exact s.old.free h1
      · exact no a (List.mem_append_left _ h1)
    · exact no a (List.mem_append_right _ ha)
  · rcases List.mem_append.mp ha with ha | ha
    · rcases hm a ha with h1 | h1
      · exact s.bh.free h1
      · exact nA a (List.mem_append_left _ h1)
    · exact nA a (List.mem_append_right _ ha)
end
structure DMl (P : Program) (w : World) (K : PySem.W.Frag) (mg : Str → Option Value) (base : Heap) (x : Str) (k : Nat) (G : Gx) (R : CtL) : Prop where
  ex : ∃ f fd ps, FnOk P w K mg base (L2.CX P w) k f fd ps (spMl G R) ∧ mg x = some (.ref f) ∧ PySem.W.keepIn K (.ref f) = true ∧ Binds K fd ps []
/-- a def whose last argument is given away keeps its contract -/
def KeepsL (N : List Str) (w : WS) (R : CtL) : Prop := ∀ ds o Q, R.run ds o Q → w.run (startL N ds o) { nx := fun _ => False, rt := fun r => r.nb = true ∧ r.tidy = true ∧ Q r, ex := fun _ _ => False }
section
variable {P : Program} {w : World} {K : PySem.W.Frag} {mg : Str → Option Value} {base : Heap} {G : Gx}
theorem dml_of {x qual : Str} {st : Stmt} {N ps : List Str} {k : Nat} {R : CtL} {p : WS} (T : AtD K mg x qual st) (S : FnScope N ps (defScope st)) (bd : ∀ f fd, Fun K x qual st f fd → Binds K fd ps []) (len : ∀ ds o Q, R.run ds o Q → ds.length + 1 = ps.length)
    (hbody : ∀ (f : Addr) (c : Cc) (cdv : Value) (A : Around) (outer : List Env) (s : Shared) (H : Hp) (E : XK), c.G = G → Room k (A.deeper (PyProof.Rows.envOfC qual (defScope st) s.heap.objs.size f cdv)) →
      SSs (cxOf (L2.CX P w) P w K mg base N qual (defScope st) f cdv A outer s H E) c (fun cls d _ H => E cls d H) (defBody st) p)
    (pure : KeepsL N p R) : DMl P w K mg base x (k + 1) G R := by
  obtain ⟨f, fd, F, hm⟩ := T.ex
  exact ⟨f, fd, ps, ok_ml F S len (hbody f) pure, hm, F.kp, bd f fd F⟩
end
/-- return f(a, b, x), x given away -/
def sRetMl (i : Nat) (pa pb : W1 O) (R : CtL) : WS := ⟨fun S D => ∃ w, S[i]? = some (some w) ∧ pa.run (S.set i none) (fun o1 => pb.run (S.set i none) (fun o2 => R.run [o1.er, o2.er] w D.rt) (fun _ => False)) (fun _ => False), by
  rintro S D D' l ⟨w, e, h⟩
  exact ⟨w, e, pa.mono (fun o1 z => pb.mono (fun o2 y => R.mono (fun r => l.rt _) y) (fun _ z => z) z) (fun _ z => z) h⟩⟩
section
variable {X : Cx} {c : Cc} {W : WX} {a b : Expr} {pa pb : W1 O} {pos : Pos}
theorem ss_retMl {k j i : Nat} {R : CtL} {f x : Str} {p p2 pos2 pos3 : Pos} (M : DMl X.prog X.w X.K X.mg X.base f k c.G R) (hr : Room j X.A) (hk : k ≤ j) (tk : Takes X W) (hi : X.N[i]? = some x) (ha : SE X c W a pa) (hb : SE X c W b pb)
    (hv : Vis X.env.scope x := by first | exact Or.inl rfl | exact Or.inr (Or.inl rfl) | exact Or.inr (Or.inr rfl)) (hd : (x == ("__debug__" : Str)) = false := by decide) (hcd : (x == ("__classdict__" : Str)) = false := by decide) (hg : Gl X f := by rfl) (hdb : (f == ("__debug__" : Str)) = false := by decide)
    (hs1 : starEach [a, b, .Name x p2] X.env = (false, eval a X.env) :: starEach [b, .Name x p2] X.env := by rfl) (hs2 : starEach [b, .Name x p2] X.env = (false, eval b X.env) :: starEach [.Name x p2] X.env := by rfl) (hs3 : starEach [.Name x p2] X.env = (false, eval (.Name x p2) X.env) :: starEach [] X.env := by rfl)
    (hpl : (backTo pos2 (starEach [b, .Name x p2] X.env)).any (·.1) = false := by rfl) :
    SS X c W (.Return (some (.Call (.Name f p) [a, b, .Name x p2] [] pos2)) pos3) (sRetMl i pa pb R) := by
  obtain ⟨ff, fd, ps, F, hm, hkp, hbi⟩ := M.ex
  refine PS.imp (ps_ret (pe_callSD (dvs := []) F (hr.mono hk) hg hm hkp hbi .nil (fun σ => passAt tk σ) (pa_cons ha (pa_cons hb (pa_cons (pe_var hi hv hd hcd) pa_nil hs3) hs2) hs1) hdb hs1 hpl)) fun D σ H ⟨F, S, Ts, ts, nb, s, w, eS, h⟩ => ?_
  obtain ⟨v0, F1, _, e0, nbw, s1⟩ := s.move nb eS
  refine ⟨F1, S.set i none, _, _, s1, pa.mono (fun o1 z F2 H2 v1 s2 => ?_) (fun e z => z.elim) h⟩
  refine ⟨F2, S.set i none, _, _, s2, pb.mono (fun o2 y F3 H3 v2 s3 => ?_) (fun e z => z.elim) z⟩
  refine ⟨v0, e0, ?_⟩
  have s3' : Sv c F3 H3 ([o2, o1] ++ (w :: Ts)) ([v2, v1] ++ (v0 :: ts)) (S.set i none) σ := s3
  obtain ⟨B, sB, s4, rel⟩ := s3'.lend rfl
  obtain ⟨w2, wr2, ew2, r2, w1, wr1, ew1, r1, en⟩ := rel
  cases ew2
  cases ew1
  obtain ⟨A, hA, ndA, nB, back⟩ := s4.swapOwn
  have ow : Ow c.G B H3 w v0 A := by
    have h1 := Vw.ow (F := ⟨F3.F, B⟩) nbw hA
    exact Ow.mono s4.fb (Keep.refl H3) w v0 A (fun a ha => ⟨nB a ha, rfl⟩) h1
  refine ⟨B, v0, [v1, v2], w, A, [o1.er, o2.er], rfl, nbw, s4.bh, ow, ndA, ⟨v1, _, rfl, r1, v2, [], rfl, r2, rfl⟩, R.mono (fun r hr H' v B2 st hB ndB hm => ?_) y⟩
  exact hr _ H' v _ _ (back H' r v B2 st hB ndB hm)
end
/-! ### for row in x: row[z] = f(a, C) -/
def progF (f : List O → O) (rows : List (List O)) (k : Nat) : List O := (rows.take k).map f ++ (rows.drop k).map .ls
theorem progF_0 {f : List O → O} {rows : List (List O)} : progF f rows 0 = rows.map .ls := by simp [progF]
theorem progF_n {f : List O → O} {rows : List (List O)} : progF f rows rows.length = rows.map f := by simp [progF]
theorem progF_get {f : List O → O} {rows : List (List O)} {k : Nat} (h : k < rows.length) : (progF f rows k)[k]? = some (.ls rows[k]) := by
  unfold progF
  rw [List.getElem?_append_right (by simp; omega)]
  have : k - (List.map f (List.take k rows)).length = 0 := by simp; omega
  rw [this, List.getElem?_map, List.getElem?_drop]
  simp [h]
theorem progF_set {f : List O → O} {rows : List (List O)} {k : Nat} (h : k < rows.length) : (progF f rows k).set k (f rows[k]) = progF f rows (k + 1) := by
  unfold progF
  have hl : (List.map f (List.take k rows)).length = k := by simp; omega
  rw [List.set_append_right _ _ (by omega), hl, Nat.sub_self, List.drop_eq_getElem_cons h, List.map_cons, List.set_cons_zero, List.take_succ_eq_append_getElem h, List.map_append]
  simp
def setO (g : Nat) (v : D) (r : List O) : O := .ls (r.set g (.im v))
def sForSet (i j kz ka : Nat) (C : Int) (R : Ctr) : WS := ⟨fun S D => ∃ (rows : List (List O)) (z : Int) (d v : PL.D) (g : Nat), i ≠ j ∧ kz ≠ j ∧ ka ≠ j ∧ kz ≠ i ∧ ka ≠ i ∧ j < S.length ∧ S[i]? = some (some (.ls (rows.map .ls))) ∧ S[kz]? = some (some (O.i z)) ∧ S[ka]? = some (some (.im d)) ∧
    (∀ r ∈ rows, ixN r.length z = some g ∧ r.length ≤ sizeLine) ∧ v.flat = true ∧ (∀ (Q : O → Prop) (E : Ex → Prop), Q (.im v) → R.run [d, .int C] Q E) ∧ D.nx ((S.set i (some (.ls (rows.map (setO g v))))).set j none), by
  rintro S D D' l ⟨rows, z, d, v, g, h1, h2, h3, h4, h5, h6, h7, h8, h9, h10, h11, h12, h⟩
  exact ⟨rows, z, d, v, g, h1, h2, h3, h4, h5, h6, h7, h8, h9, h10, h11, h12, l.nx _ h⟩⟩
section
variable {X : Cx} {c : Cc} {W : WX} {i j kz ka : Nat} {x y zn an f : Str}
theorem ss_forSet (i j kz ka : Nat) {R : Ctr} {C : Int} {k jj : Nat} {p1 p2 p3 p4 p5 p6 p7 p8 pos5 pos : Pos} {k4 : Nat} (M : DOk X.prog X.w X.K X.mg X.base f k c.G R) (hr : Room jj X.A) (hk : k ≤ jj) (tk : Takes X W) (hp : PassesOwn (model X.prog X.w) X.A X.env X.xe) (hc : X.calm = true) (nd : X.N.Nodup) (hN : X.N[i]? = some x := by rfl) (hNj : X.N[j]? = some y := by rfl) (hNz : X.N[kz]? = some zn := by rfl) (hNa : X.N[ka]? = some an := by rfl)
    (hv : Vis X.env.scope x := by first | exact Or.inl rfl | exact Or.inr (Or.inl rfl) | exact Or.inr (Or.inr rfl)) (hvy : Vis X.env.scope y := by first | exact Or.inl rfl | exact Or.inr (Or.inl rfl) | exact Or.inr (Or.inr rfl))
    (hvz : Vis X.env.scope zn := by first | exact Or.inl rfl | exact Or.inr (Or.inl rfl) | exact Or.inr (Or.inr rfl)) (hva : Vis X.env.scope an := by first | exact Or.inl rfl | exact Or.inr (Or.inl rfl) | exact Or.inr (Or.inr rfl)) (hly : X.env.scope.names.lookup y = some .local := by rfl)
    (hd : (x == ("__debug__" : Str)) = false := by decide) (hcd : (x == ("__classdict__" : Str)) = false := by decide) (hd2 : (y == ("__debug__" : Str)) = false := by decide) (hcd2 : (y == ("__classdict__" : Str)) = false := by decide)
    (hd3 : (zn == ("__debug__" : Str)) = false := by decide) (hcd3 : (zn == ("__classdict__" : Str)) = false := by decide) (hd4 : (an == ("__debug__" : Str)) = false := by decide) (hcd4 : (an == ("__classdict__" : Str)) = false := by decide) (hg : Gl X f := by rfl) (hdb : (f == ("__debug__" : Str)) = false := by decide)
    (hs1 : starEach [.Name an p6, .Constant (.int C) k4 p7] X.env = (false, eval (.Name an p6) X.env) :: starEach [.Constant (.int C) k4 p7] X.env := by rfl) (hs2 : starEach [.Constant (.int C) k4 p7] X.env = (false, eval (.Constant (.int C) k4 p7) X.env) :: starEach [] X.env := by rfl)
    (hpl : (backTo p8 (starEach [.Constant (.int C) k4 p7] X.env)).any (·.1) = false := by rfl)
    (hasg : ∀ v, assign (.Subscript (.Name y p3) (.Name zn p4) p5) X.env v = (do
      let ov ← holding [v] (eval (.Name y p3) X.env)
      let iv ← holding [v, ov] (eval (.Name zn p4) X.env)
      standAt p5
      holding [v, ov, iv] (setItem ov iv v)
      release [v, ov, iv] []) := by intro _; rfl)
    (hsw : swapsWithSole [.Subscript (.Name y p3) (.Name zn p4) p5] (.Call (.Name f p1) [.Name an p6, .Constant (.int C) k4 p7] [] p8) pos5.line X.env = pure false := by rfl) (hw : swappedStores [.Subscript (.Name y p3) (.Name zn p4) p5] (.Call (.Name f p1) [.Name an p6, .Constant (.int C) k4 p7] [] p8) X.env = pure none := by rfl)
    (h1 : (assignEach [.Subscript (.Name y p3) (.Name zn p4) p5] X.env).map (·.2) = [assign (.Subscript (.Name y p3) (.Name zn p4) p5) X.env] := by rfl) (hfs : ∀ v, foldedSetIterable (.Name x p2) X.env v = pure v := by intro _; rfl) {p9 : Pos} :
    SS X c W (.For (.Name y p9) (.Name x p2) [.Assign [.Subscript (.Name y p3) (.Name zn p4) p5] (.Call (.Name f p1) [.Name an p6, .Constant (.int C) k4 p7] [] p8) pos5] [] pos) (sForSet i j kz ka C R) := by
  obtain ⟨ff, fd, ps, Fn, hm, hkp, hbi⟩ := M.ex
  refine PS.imp (ps_for hp hc (pi_list (pe_var hN hv hd hcd)) (pg_name (i := j) nd hNj (.inl hly) (.inr hly)) (pss_one (ps_asg (pe_callSD (dvs := []) Fn (hr.mono hk) hg hm hkp hbi .nil (fun σ => passAt tk σ) (pa_cons (pe_var hNa hva hd4 hcd4) (pa_cons pe_int pa_nil hs2) hs1) hdb hs1 hpl) (pg_sub (pe_var hNj hvy hd2 hcd2) (pe_var hNz hvz hd3 hcd3) set_list hasg) hsw hw h1)) hfs) fun D σ H ⟨F, S, Ts, ts, nb, s, rows, z, d, v, g, nij, nzj, naj, nzi, nai, hj, eS, eZ, eA, hl, vf, hR, h⟩ => ?_
  have hi : i < S.length := (List.getElem?_eq_some_iff.mp eS).1
  obtain ⟨p, xs, e1, e2, e3⟩ := s.look nb eS
  have hlen : xs.length = rows.length := by rw [e3, List.length_map]
  refine ⟨.ref p, e1, p, rfl, ⟨_, SqL.of e2⟩, ?_⟩
  refine for_list (xs := xs) (fun k σ' H' => ∃ F', Sv c F' H' Ts ts ((S.set i (some (.ls (progF (setO g v) rows k)))).set j none) σ' ∧ σ'[i]? = some (some (.ref p)) ∧ H' p = some (.lst xs)) ⟨F, ?_, e1, e2⟩ (fun k σ' H' _ ⟨_, _, _, q⟩ => SqL.of q) ?_ ?_
  · rw [progF_0, set_same eS]
    exact s.drop j
  · rintro k u σ' H' hk ⟨F', s', e1', e2'⟩
    have hk' : k < rows.length := by rw [← hlen]; exact (List.getElem?_eq_some_iff.mp hk).1
    have sl := s'.len
    have s2 := s'.any_at (some u)
    have ei : ((S.set i (some (.ls (progF (setO g v) rows k)))).set j none)[i]? = some (some (.ls (progF (setO g v) rows k))) := by
      rw [List.getElem?_set_ne (Ne.symm nij), List.getElem?_set_self hi]
    have ej : (σ'.set j (some u))[j]? = some (some u) := List.getElem?_set_self (by rw [← sl]; simpa using hj)
    have ez : ((S.set i (some (.ls (progF (setO g v) rows k)))).set j none)[kz]? = some (some (O.i z)) := by
      rw [List.getElem?_set_ne (Ne.symm nzj), List.getElem?_set_ne (Ne.symm nzi)]; exact eZ
    have ea : ((S.set i (some (.ls (progF (setO g v) rows k)))).set j none)[ka]? = some (some (.im d)) := by
      rw [List.getElem?_set_ne (Ne.symm naj), List.getElem?_set_ne (Ne.symm nai)]; exact eA
    obtain ⟨vz, evz, hvz'⟩ := s2.view ez
    have : vz = .int z := (show _ ∧ _ from hvz').2
    subst this
    obtain ⟨va, eva, hva'⟩ := s2.view ea
    have hre : Re c.G F'.F H' d va := (show _ ∧ _ from hva').2
    refine ⟨va, eva, F'.F, [d, .int C], s2.sub, ⟨va, _, rfl, hre, .int C, [], rfl, rfl, rfl⟩, hR _ _ fun F2 H2 vv A q1 q2 q3 q4 q5 q6 q7 => ?_⟩
    obtain ⟨F3, s3⟩ := s2.back q1 q3 q2 q4 q5 q6 q7
    obtain ⟨D', xs', Dk, ys, g1, g2, g3, g4, g5, g6, g7, up⟩ := s3.upSlot2 (nb_cons rfl nb) ei (progF_get hk')
    rw [List.getElem?_set_ne (Ne.symm nij), e1'] at g1
    cases g1
    have e2'' : H2 p = some (.lst xs) := q3 _ _ e2'
    rw [e2''] at g2
    cases g2
    rw [hk] at g4
    cases g4
    have hrow := hl _ (List.getElem_mem hk')
    obtain ⟨F4, s4⟩ := up (rows[k].set g (.im v)) (ys.set g vv) (by rw [List.length_set]; exact hrow.2) (UpOk.set (ixN_lt hrow.1))
    refine ⟨.ref Dk, ej, .int z, evz, Dk, ys, z, g, rfl, rfl, g5, by rw [g6]; exact hrow.1, F4, ?_, ?_, by rw [upd_ne g7]; exact e2''⟩
    · have eS' : (((S.set i (some (.ls (progF (setO g v) rows k)))).set j none).set i (some (.ls ((progF (setO g v) rows k).set k (.ls (rows[k].set g (.im v))))))) = (S.set i (some (.ls (progF (setO g v) rows (k + 1))))).set j none := by
        rw [List.set_comm _ _ (Ne.symm nij), List.set_set]
        have := progF_set (f := setO g v) hk'
        unfold setO at this ⊢
        rw [this]
      rw [← eS']
      exact s4
    · rw [List.getElem?_set_ne (Ne.symm nij)]
      exact e1'
  · rintro σ' H' ⟨F', s', _, _⟩
    rw [hlen, progF_n] at s'
    exact h F' H' σ' s'
end
end PL

/-! P26 -/
set_option Elab.async false
set_option linter.all false
set_option maxRecDepth 100000
set_option maxHeartbeats 4000000
/-! P26: x in a list; shifts. -/
namespace PL
open PySem PySem.Spec L2 PyProof.Rows
section
variable {X : Cx} {c : Cc} {W : WX} {a b : Expr} {pa pb : W1 O} {pos : Pos}
theorem se_shr (ha : SE X c W a pa) (hb : SE X c W b pb) : SE X c W (.BinOp a .RShift b pos) (w2 pa pb (uI (fun _ j => 0 ≤ j) fun i j => i / 2 ^ j.toNat)) := se_op op_shr fit_I ha hb
abbrev uShr : U2 := uI (fun _ j => 0 ≤ j) fun i j => i / 2 ^ j.toNat
def rInL (K : PySem.W.Frag) (neg : Bool) : R2 := fun x y H Q => ∃ d ds, Dp K H x d ∧ Dp K H y (.list ds) ∧ SeqAt.shaped d = true ∧ SeqAt.shaped (.list ds) = true ∧ Q (.bl (neg ^^ ds.any fun z => PyData.eqv z d)) H
theorem canAll_of {ds : List PyData} (h : SeqAt.shaped (.list ds) = true) : PyData.canLayAll0 ds = true := SeqAt.canLay_of_shaped h
theorem op_inL (hu : X.A.units + 65 < cLine) : OpR X (compareOp .In) (rInL X.K false) := by
  intro pins s σ H x y v u Q I rx ry h
  obtain ⟨d, ds, hd, he, sd, se, q⟩ := h
  obtain ⟨as, r1⟩ := Dp.reads I d x v hd rx
  obtain ⟨bs, r2⟩ := Dp.reads I (.list ds) y u he ry
  exact SeqAt.in_list_reads r2 r1 (canAll_of se) (SeqAt.canLay_of_shaped sd) (room_inT sd hu) ⟨.bl _, H, I, rfl, by simpa using q⟩
theorem op_notInL (hu : X.A.units + 65 < cLine) : OpR X (compareOp .NotIn) (rInL X.K true) := by
  intro pins s σ H x y v u Q I rx ry h
  obtain ⟨d, ds, hd, he, sd, se, q⟩ := h
  obtain ⟨as, r1⟩ := Dp.reads I d x v hd rx
  obtain ⟨bs, r2⟩ := Dp.reads I (.list ds) y u he ry
  exact SeqAt.notIn_list_reads r2 r1 (canAll_of se) (SeqAt.canLay_of_shaped sd) (room_inT sd hu) ⟨.bl _, H, I, rfl, by simpa using q⟩
def uInL (neg : Bool) : U2 := ⟨fun a b Q => ∃ d ds, a.er.py = some d ∧ b.er.py = some (.list ds) ∧ SeqAt.shaped d = true ∧ SeqAt.shaped (.list ds) = true ∧ Q (O.t (neg ^^ ds.any fun z => PyData.eqv z d)), fun hq ⟨d, ds, e1, e2, e3, e4, q⟩ => ⟨d, ds, e1, e2, e3, e4, hq _ q⟩⟩
theorem fit_inL {K : PySem.W.Frag} {neg : Bool} : Fit2 c (rInL K neg) (uInL neg) := fun F H Ts ts S σ a b x y Q s ⟨d, ds, e1, e2, e3, e4, q⟩ =>
  ⟨d, ds, D.dp (Same.refl _) _ _ _ s.pop.topEr e1, D.dp (Same.refl _) _ _ _ s.topEr e2, e3, e4, q F H _ (s.pop.pop.pushIm rfl)⟩
theorem se_inL {x : Str} {p : Pos} (hu : X.A.units + 65 < cLine) (ha : SE X c W a pa) (hb : SE X c W (.Name x p) pb) : SE X c W (.Compare a [.In] [.Name x p] pos) (w2 pa pb (uInL false)) := se_cmp (op_inL hu) fit_inL ha hb rfl
theorem se_notInL {x : Str} {p : Pos} (hu : X.A.units + 65 < cLine) (ha : SE X c W a pa) (hb : SE X c W (.Name x p) pb) : SE X c W (.Compare a [.NotIn] [.Name x p] pos) (w2 pa pb (uInL true)) := se_cmp (op_notInL hu) fit_inL ha hb rfl
theorem st_inL {x : Str} {p : Pos} (hu : X.A.units + 65 < cLine) (ha : SE X c W a pa) (hb : SE X c W (.Name x p) pb) : ST X c W (.Compare a [.In] [.Name x p] pos) (wT (w2 pa pb (uInL false))) := st_cmp (op_inL hu) fit_inL ha hb rfl
theorem st_notInL {x : Str} {p : Pos} (hu : X.A.units + 65 < cLine) (ha : SE X c W a pa) (hb : SE X c W (.Name x p) pb) : ST X c W (.Compare a [.NotIn] [.Name x p] pos) (wT (w2 pa pb (uInL true))) := st_cmp (op_notInL hu) fit_inL ha hb rfl
end
end PL

/-! P27 -/
set_option Elab.async false
set_option linter.all false
set_option maxRecDepth 100000
set_option maxHeartbeats 4000000
/-! P27: x[k].append(None), x a tuple that is not used behind. -/
namespace PL
open PySem PySem.Spec L2 PyProof.Rows
section
variable {c : Cc} {F : Fz} {H : Hp} {Ts : List O} {ts : List V} {S : List (Option O)} {σ : L2.St}
/-- the top is lost, a list of its own may have changed -/
theorem Sv.popUpd {o : O} {y : V} {D : Addr} {ys : List V} {u : HO} (s : Sv c F H (o :: Ts) (y :: ts) S σ) (nb : o.nb = true) (own : ∀ A0, Ow c.G F.F H o y A0 → D ∈ A0) (hD : H D = some (.lst ys)) : Sv c F (upd H D u) Ts ts S σ := by
  obtain ⟨A, C, ⟨v', vr, A0, A4, ev, eA, ho, h4⟩, hC, nd, no, nA, nC⟩ := s.own
  cases ev
  subst eA
  have inA0 : D ∈ A0 := own A0 (ho.ow nb)
  have inA : D ∈ A0 ++ A4 := List.mem_append_left _ inA0
  have kp : Keep H (upd H D u) := fun b u q nl => by
    have : b ≠ D := fun e => by subst e; rw [hD] at q; cases q; exact nl _ rfl
    rw [upd_ne this]; exact q
  have nd' : (A4 ++ C).Nodup ∧ ∀ a ∈ A4 ++ C, a ≠ D := by
    rw [List.append_assoc] at nd
    have h := List.nodup_append.mp nd
    exact ⟨h.2.1, fun a ha e => h.2.2 D inA0 a ha e.symm⟩
  have ne : ∀ a, a ∈ A4 ++ C → upd H D u a = H a := fun a ha => upd_ne (nd'.2 a ha)
  have BD : F.B D = none := nA D inA
  refine ⟨s.ext, s.fb, fun a w q => ?_, fun a w q => ?_, s.dom, A4, C, h4.monoK (Same.refl _) (Same.refl _) kp fun a ha => ⟨(h4.own a ha).1, ne a (List.mem_append_left _ ha)⟩, hC.monoAt kp fun a ha => ne a (List.mem_append_right _ ha), nd'.1, fun a ha => no a ?_, fun a ha => nA a (List.mem_append_right _ ha), fun a ha => (nC a ha).trans (ne a (List.mem_append_right _ ha)).symm⟩
  · have : a ≠ D := fun e => by subst e; rw [BD] at q; cases q
    rw [upd_ne this]; exact s.bh a w q
  · have : a ≠ D := fun e => by
      subst e
      have := no a (List.mem_append_left _ inA)
      rw [this] at q; cases q
    rw [upd_ne this]; exact s.old a w q
  · rcases List.mem_append.mp ha with ha | ha
    · exact List.mem_append_left _ (List.mem_append_right _ ha)
    · exact List.mem_append_right _ ha
theorem OwL.rowAt {G : Gx} {F H : Hp} {row : List O} : ∀ {os : List O} {vs : List V} {B : List Addr} {k : Nat}, OwL G F H os vs B → os[k]? = some (.ls row) → ∃ D ys, vs[k]? = some (.ref D) ∧ H D = some (.lst ys) ∧ ys.length = row.length ∧ D ∈ B
  | [], _, _, k, _, h => by simp at h
  | a :: acc, _, _, 0, ⟨v, vr, B1, B2, e, eB, h, t⟩, ha => by
    simp at ha
    subst ha e eB
    obtain ⟨D, ys, B, e, eA, _, hD, _, ol⟩ := (show Ow G F H (.ls row) v B1 from h)
    subst e eA
    exact ⟨D, ys, rfl, hD, ol.len.symm, by simp⟩
  | a :: acc, _, _, k + 1, ⟨v, vr, B1, B2, e, eB, h, t⟩, ha => by
    subst e eB
    obtain ⟨D, ys, e1, e2, e3, e4⟩ := OwL.rowAt t (k := k) (by simpa using ha)
    exact ⟨D, ys, by simpa using e1, e2, e3, List.mem_append_right _ e4⟩
theorem OwL.uniq {G : Gx} {F H : Hp} : ∀ {os : List O} {vs : List V} {A B : List Addr}, OwL G F H os vs A → OwL G F H os vs B → ∀ {k : Nat} {row : List O} {D : Addr}, os[k]? = some (.ls row) → vs[k]? = some (.ref D) → D ∈ B
  | [], _, _, _, _, _, k, row, D, h, _ => by simp at h
  | a :: acc, _, _, _, _, ⟨v', vr', B1', B2', e', eB', h', t'⟩, 0, row, D, ha, hv => by
    simp at ha
    subst ha e' eB'
    simp at hv
    subst hv
    obtain ⟨D', ys, B, e, eA, _, hD, _, ol⟩ := (show Ow G F H (.ls row) (.ref D) B1' from h')
    cases e
    subst eA
    simp
  | a :: acc, _, _, _, ⟨v, vr, B1, B2, e, eB, h, t⟩, ⟨v', vr', B1', B2', e', eB', h', t'⟩, k + 1, row, D, ha, hv => by
    subst e eB eB'
    cases e'
    exact List.mem_append_right _ (OwL.uniq t t' (k := k) (by simpa using ha) (by simpa using hv))
end
def sAppIt (i k : Nat) : WS := ⟨fun S D => ∃ os row, S[i]? = some (some (.tp os)) ∧ os[k]? = some (.ls row) ∧ row.length < sizeLine ∧ D.nx (S.set i none), by
  rintro S D D' l ⟨a, w, e1, e2, e3, h⟩
  exact ⟨a, w, e1, e2, e3, l.nx _ h⟩⟩
def sRetEV (p : W1 O) (i : Nat) : WS := ⟨fun S D => p.run S (fun o => o.nb = true ∧ ∃ a, S[i]? = some (some a) ∧ D.rt (mkT [o, a])) (D.ex S),
  fun l h => p.mono (fun o ⟨n, a, e, q⟩ => ⟨n, a, e, l.rt _ q⟩) (fun e z => l.ex _ e z) h⟩
section
variable {X : Cx} {c : Cc} {W : WX} {pos : Pos}
theorem ss_appIt (i k : Nat) {x : Str} {p1 p2 p3 p4 apos cpos : Pos} {k4 k5 : Nat} (hN : X.N[i]? = some x := by rfl) (hv : Vis X.env.scope x := by first | exact Or.inl rfl | exact Or.inr (Or.inl rfl) | exact Or.inr (Or.inr rfl))
    (hd : (x == ("__debug__" : Str)) = false := by decide) (hcd : (x == ("__classdict__" : Str)) = false := by decide)
    (hp : PlainIx (.Constant (.int (k : Int)) k5 p1) := by exact fun _ _ => rfl)
    (hbase : attributeBase (.Subscript (.Name x p2) (.Constant (.int (k : Int)) k5 p1) p3) "append" X.env (eval (.Subscript (.Name x p2) (.Constant (.int (k : Int)) k5 p1) p3) X.env) = eval (.Subscript (.Name x p2) (.Constant (.int (k : Int)) k5 p1) p3) X.env := by rfl)
    (hfew : ((backTo cpos (starEach [.Constant .none k4 p4] X.env)).all (fun x => !x.1) && (backToKw cpos (keywordEach [] X.env)).all (fun x => x.1.isSome)
      && decide (([.Constant .none k4 p4] : List Expr).length + ([] : List Keyword).length + (if ([] : List Keyword).isEmpty then 0 else 1) < 30)) = true := by rfl)
    (hline : (apos.endLine == cpos.line) = true := by rfl) (hs : starEach [.Constant .none k4 p4] X.env = (false, eval (.Constant .none k4 p4) X.env) :: starEach [] X.env := by rfl) (hplain : (backTo cpos (starEach ([] : List Expr) X.env)).any (·.1) = false := by rfl)
    (hsw : swapsWith (.Call (.Attribute (.Subscript (.Name x p2) (.Constant (.int (k : Int)) k5 p1) p3) "append" apos) [.Constant .none k4 p4] [] cpos) none pos.line X.env = pure false := by rfl) :
    SS X c W (.Expr (.Call (.Attribute (.Subscript (.Name x p2) (.Constant (.int (k : Int)) k5 p1) p3) "append" apos) [.Constant .none k4 p4] [] cpos) pos) (sAppIt i k) :=
  PS.imp (ps_expr (pe_bm PySem.F.plainAttrs_list PySem.F.slot_list_append PySem.F.type_list_append mt_append (pe_ix ix_tup (pe_var hN hv hd hcd) pe_int hp) (pa_cons pe_non pa_nil hs) hbase hfew hline hs hplain) hsw) fun D σ H ⟨F, S, Ts, ts, nb, s, os, row, ea, ek, hz, q⟩ => by
    obtain ⟨v0, F1, _, e0, nbw, s1⟩ := s.move nb ea
    obtain ⟨A, ho⟩ := s1.top
    obtain ⟨a, vs, e1, e2, _, ol⟩ := (show Ow c.G F1.F H (.tp os) v0 A from ho)
    subst e1
    obtain ⟨D0, ys, g1, g2, g3, g4⟩ := ol.rowAt ek
    refine ⟨.ref a, e0, a, vs, (k : Int), .ref D0, rfl, rfl, SqT.of e2, by rw [atI_nat]; exact g1, .inl ⟨rfl, _, SqL.of g2⟩, D0, ys, .non, rfl, rfl, g2, by rw [g3]; exact hz, ?_⟩
    refine q F1 _ σ (s1.popUpd nbw (D := D0) (fun A0 h => ?_) g2)
    obtain ⟨a', vs', e1', e2', _, ol'⟩ := (show Ow c.G F1.F H (.tp os) (.ref a) A0 from h)
    cases e1'
    rw [e2] at e2'
    cases e2'
    exact OwL.uniq ol ol' ek g1
/-- return (e, x), x given away -/
theorem ss_retEV (i : Nat) {e : Expr} {pe : W1 O} {x : Str} {kt : Nat} {p1 p4 : Pos} (he : SE X c W e pe) (hN : X.N[i]? = some x := by rfl) (hv : Vis X.env.scope x := by first | exact Or.inl rfl | exact Or.inr (Or.inl rfl) | exact Or.inr (Or.inr rfl))
    (hd : (x == ("__debug__" : Str)) = false := by decide) (hcd : (x == ("__classdict__" : Str)) = false := by decide)
    (hs1 : starEach [e, .Name x p1] X.env = (false, eval e X.env) :: starEach [.Name x p1] X.env := by rfl)
    (hs2 : starEach [.Name x p1] X.env = (false, eval (.Name x p1) X.env) :: starEach [] X.env := by rfl) :
    SS X c W (.Return (some (.Tuple [e, .Name x p1] kt p4)) pos) (sRetEV pe i) :=
  PS.imp (ps_ret (pe_tup (pa_cons he (pa_cons (pe_var hN hv hd hcd) pa_nil hs2) hs1))) fun D σ H ⟨F, S, Ts, ts, nb, s, h⟩ => by
    refine ⟨F, S, Ts, ts, s, pe.mono (fun o ⟨n, a, ea, q⟩ F1 H1 v s1 => ?_) (fun e z => exK.st z) h⟩
    obtain ⟨v2, F2, _, ev2, nb2, s2⟩ := s1.move (nb_cons n nb) ea
    refine ⟨v2, ev2, szL (by simp), fun p np => ?_⟩
    have s4 : Sv c F2 H1 ([o, a] ++ Ts) ([v, v2] ++ ts) (S.set i none) σ := s2.swap
    obtain ⟨F', _, s5⟩ := s4.mkT rfl (szL (by simp)) np
    exact q F' _ _ _ σ s5
end
end PL

/-! P28 -/
set_option Elab.async false
set_option linter.all false
set_option maxRecDepth 100000
set_option maxHeartbeats 4000000
/-! P28: a def that calls itself and spoils all that it is handed. -/
namespace PL
open PySem PySem.Spec L2 PyProof.Rows
/-- what may be spoiled, n levels deep: all lists of it are the frame's own -/
def spd : Nat → D → Bool
  | 0, _ => false
  | n + 1, d => match d with
    | .int _ => true
    | .bl _ => true
    | .str _ => true
    | .non => true
    | .tup ds => ds.all (spd n)
    | _ => false
def spo : Nat → O → Bool
  | 0, _ => false
  | n + 1, o => match o with
    | .im d => spd (n + 1) d
    | .bo _ => false
    | .ls os => decide (os.length < sizeLine) && os.all (spo n)
    | .tp os => os.all (spo n)
def spSp (G : Gx) (n : Nat) : Sp := fun vs H Q _ => ∃ (F0 : Hp) (v0 : V) (o : O) (A : List Addr), vs = [v0] ∧ spo n o = true ∧ Same F0 H ∧ Ow G F0 H o v0 A ∧ A.Nodup ∧
  ∀ H' : Hp, (∀ a x, H a = some x → a ∉ A → H' a = some x) → Q .non H'
structure DSp (P : Program) (w : World) (K : PySem.W.Frag) (mg : Str → Option Value) (base : Heap) (x : Str) (k : Nat) (G : Gx) (n : Nat) : Prop where
  ex : ∃ f fd ps, FnOk P w K mg base (L2.CX P w) k f fd ps (spSp G n) ∧ mg x = some (.ref f) ∧ PySem.W.keepIn K (.ref f) = true ∧ Binds K fd ps []
theorem flat_spd : ∀ {n : Nat} {d : D}, spd n d = true → d.flat = true
  | 0, _, h => by simp [spd] at h
  | n + 1, d, h => by
    cases d with
    | tup ds =>
      have h : ds.all (spd n) = true := h
      have : ∀ ds : List D, ds.all (spd n) = true → D.flatL ds = true := by
        intro ds
        induction ds with
        | nil => intro _; rfl
        | cons d ds ih =>
          intro h
          rw [List.all_cons, Bool.and_eq_true] at h
          show (d.flat && D.flatL ds) = true
          rw [flat_spd h.1, ih h.2]
          rfl
      exact this ds h
    | _ => first | rfl | (simp [spd] at h)
theorem spo_nb {n : Nat} {o : O} (h : spo n o = true) : o.nb = true := by
  cases n with
  | zero => simp [spo] at h
  | succ n => cases o <;> first | rfl | (simp [spo] at h)
section
variable {c : Cc} {F : Fz} {H : Hp} {Ts : List O} {ts : List V} {S : List (Option O)} {σ : L2.St}
/-- what is spoiled so far -/
def gut (os : List O) (vs : List V) (k : Nat) : List O := (vs.take k).map (fun v => O.im (.obj v)) ++ os.drop k
theorem gut_len {os : List O} {vs : List V} {k : Nat} (e : os.length = vs.length) (h : k ≤ os.length) : (gut os vs k).length = os.length := by
  unfold gut
  simp
  omega
theorem gut_0 {os : List O} {vs : List V} : gut os vs 0 = os := rfl
theorem gut_all {os : List O} {vs : List V} {k : Nat} (e : os.length = vs.length) (h : os.length ≤ k) : gut os vs k = vs.map fun v => O.im (.obj v) := by
  unfold gut
  rw [List.drop_eq_nil_of_le h, List.append_nil, List.take_of_length_le (by omega)]
theorem gut_s {o : O} {v : V} {os : List O} {vs : List V} {k : Nat} : gut (o :: os) (v :: vs) (k + 1) = O.im (.obj v) :: gut os vs k := rfl
/-- the item at k is taken out -/
theorem OwL.take1 {G : Gx} {F H : Hp} : ∀ {os : List O} {vs : List V} {k : Nat} {o : O} {B : List Addr}, OwL G F H (gut os vs k) vs B → os.length = vs.length → os[k]? = some o →
    ∃ v A, vs[k]? = some v ∧ Ow G F H o v A ∧ A.Sublist B ∧ ∃ C, OwL G F H (gut os vs (k + 1)) vs C ∧ C.Sublist B ∧ (B.Nodup → ∀ a ∈ C, a ∉ A)
  | [], _, k, _, _, _, _, h => by simp at h
  | o :: os, [], k, _, _, _, e, _ => by simp at e
  | o :: os, v :: vs, 0, o', B, h, e, ho => by
    simp at ho
    subst ho
    obtain ⟨v', vr, B1, B2, e1, e2, h1, h2⟩ := (show OwL G F H (o :: os) (v :: vs) B from h)
    cases e1
    subst e2
    refine ⟨v, B1, rfl, h1, List.sublist_append_left _ _, B2, ⟨v, vs, [], B2, rfl, rfl, ⟨rfl, rfl⟩, h2⟩, List.sublist_append_right _ _, fun nd a ha hb => (List.nodup_append.mp nd).2.2 a hb a ha rfl⟩
  | o :: os, v :: vs, k + 1, o', B, h, e, ho => by
    rw [gut_s] at h
    obtain ⟨v', vr, B1, B2, e1, e2, h1, h2⟩ := h
    cases e1
    have hb : B1 = [] := h1.1
    subst hb e2
    obtain ⟨u, A, q1, q2, q3, C, q4, q5, q6⟩ := OwL.take1 h2 (by simpa using e) (by simpa using ho)
    exact ⟨u, A, by simpa using q1, q2, q3, C, ⟨v, vs, [], C, rfl, rfl, ⟨rfl, rfl⟩, q4⟩, q5, q6⟩
theorem spo_at {n : Nat} {os : List O} (h : os.all (spo n) = true) {k : Nat} {o : O} (e : os[k]? = some o) : spo n o = true := List.all_eq_true.mp h o (List.mem_of_getElem? e)
/-- the top changes its lists; what stays of it stands apart from what may change -/
theorem Sv.gutTop {o : O} {v : V} (s : Sv c F H (o :: Ts) (v :: ts) S σ) (nb : o.nb = true) : ∃ A1, Ow c.G F.F H o v A1 ∧ A1.Nodup ∧ ∀ (A0 C1 : List Addr) (o' : O), (∀ a ∈ A0, a ∈ A1) → C1.Sublist A1 → (∀ a ∈ C1, a ∉ A0) → Ow c.G F.F H o' v C1 → ∀ H' : Hp, (∀ a x, H a = some x → a ∉ A0 → H' a = some x) → Sv c F H' (o' :: Ts) (v :: ts) S σ := by
  obtain ⟨A, C, ⟨v', vr, A1, A2, e, eA, ho, r⟩, hC, nd, no, nA, nC⟩ := s.own
  cases e
  subst eA
  rw [List.append_assoc] at nd no
  have nd1 := (List.nodup_append.mp nd).1
  have own1 := (ho.ow nb).own
  refine ⟨A1, ho.ow nb, nd1, fun A0 C1 o' h1 sub dis hw H' st => ?_⟩
  have out : ∀ a ∈ A2 ++ C, a ∉ A0 := fun a ha h0 => (List.nodup_append.mp nd).2.2 a (h1 a h0) a ha rfl
  have kp : Keep H H' := fun b u q nl => st b u q fun hb => by
    obtain ⟨vs, e⟩ := (own1 b (h1 b hb)).2
    rw [e] at q; cases q
    exact nl _ rfl
  have same : ∀ a, a ∉ A0 → (∃ vs, H a = some (.lst vs)) → H' a = H a := fun a ha ⟨vs, e⟩ => by
    rw [e]
    exact st a _ e ha
  refine ⟨s.ext, s.fb, fun a u q => ?_, fun a u q => ?_, s.dom, C1 ++ A2, C, ⟨v, ts, C1, A2, rfl, rfl, ?_, r.monoK (Same.refl _) (Same.refl _) kp (fun a ha => ⟨(r.own a ha).1, same a (out a (List.mem_append_left _ ha)) (r.own a ha).2⟩)⟩, hC.monoAt kp (fun a ha => same a (out a (List.mem_append_right _ ha)) (hC.own a ha).2), ?_, fun a ha => ?_, fun a ha => ?_, fun a ha => ?_⟩
  · exact st a u (s.bh a u q) fun hm => by rw [nA a (List.mem_append_left _ (h1 a hm))] at q; cases q
  · exact st a u (s.old a u q) fun hm => by rw [no a (List.mem_append_left _ (h1 a hm))] at q; cases q
  · exact (Ow.mono (Same.refl _) kp o' v C1 (fun a ha => ⟨(hw.own a ha).1, same a (dis a ha) (hw.own a ha).2⟩) hw).vw
  · rw [List.append_assoc]
    exact nd.sublist (sub.append_right _)
  · rw [List.append_assoc] at ha
    exact no a ((sub.append_right _).subset ha)
  · refine nA a ?_
    rcases List.mem_append.mp ha with h | h
    · exact List.mem_append_left _ (sub.subset h)
    · exact List.mem_append_right _ h
  · rw [nC a ha, same a (out a (List.mem_append_right _ ha)) (hC.own a ha).2]
end
def spOut (o : O) (Q : O → Prop) : Prop := match o with
  | .im d => Q (.im d)
  | .ls os => ∀ vs : List V, vs.length = os.length → Q (.ls (vs.map fun v => .im (.obj v)))
  | .tp os => ∀ vs : List V, vs.length = os.length → Q (.tp (vs.map fun v => .im (.obj v)))
  | .bo _ => False
def spIn (n : Nat) : O → Bool
  | .im (.tup ds) => ds.all (spd n)
  | .ls os => decide (os.length < sizeLine) && os.all (spo n)
  | .tp os => os.all (spo n)
  | _ => false
/-- for x in thing: f(x), all of thing given away -/
def sForSp (n i j : Nat) : WS := ⟨fun S D => ∃ o, S[i]? = some (some o) ∧ i ≠ j ∧ j < S.length ∧ spIn n o = true ∧ spOut o fun o' => D.nx ((S.set i (some o')).set j none), by
  rintro S D D' l ⟨o, e, ij, hj, h, q⟩
  refine ⟨o, e, ij, hj, h, ?_⟩
  cases o with
  | im d => exact l.nx _ q
  | ls os => exact fun vs e => l.nx _ (q vs e)
  | tp os => exact fun vs e => l.nx _ (q vs e)
  | bo d => exact q⟩
section
variable {X : Cx} {c : Cc} {W : WX} {pos : Pos}
theorem set_some_same {α : Type} {l : List (Option α)} {i : Nat} {v : α} (h : l[i]? = some (some v)) : l.set i (some v) = l := set_same h
theorem ss_forSp (n i j : Nat) {kk k : Nat} {f x y : Str} {p1 p2 p3 p4 p5 p6 : Pos} (M : DSp X.prog X.w X.K X.mg X.base f k c.G n) (hr : Room kk X.A) (hk : k ≤ kk) (tk : Takes X W) (hp : PassesOwn (model X.prog X.w) X.A X.env X.xe) (hc : X.calm = true)
    (hND : X.N.Nodup) (hN : X.N[i]? = some x := by rfl) (hM : X.N[j]? = some y := by rfl) (hl : Loc X.env.scope y := by exact Or.inl rfl) (hf : X.fn y = true ∨ X.env.scope.names.lookup y = some .local := by first | exact .inl rfl | exact .inr rfl | assumption)
    (hv : Vis X.env.scope x := by first | exact Or.inl rfl | exact Or.inr (Or.inl rfl) | exact Or.inr (Or.inr rfl)) (hd : (x == ("__debug__" : Str)) = false := by decide) (hcd : (x == ("__classdict__" : Str)) = false := by decide)
    (hv2 : Vis X.env.scope y := by first | exact Or.inl rfl | exact Or.inr (Or.inl rfl) | exact Or.inr (Or.inr rfl)) (hd2 : (y == ("__debug__" : Str)) = false := by decide) (hcd2 : (y == ("__classdict__" : Str)) = false := by decide)
    (hg : Gl X f := by rfl) (hdb : (f == ("__debug__" : Str)) = false := by decide) (hs1 : starEach [.Name y p4] X.env = (false, eval (.Name y p4) X.env) :: starEach [] X.env := by rfl) (hpl : (backTo p5 (starEach ([] : List Expr) X.env)).any (·.1) = false := by rfl)
    (hsw : swapsWith (.Call (.Name f p3) [.Name y p4] [] p5) none p6.line X.env = pure false := by rfl)
    (hs : ∀ v, foldedSetIterable (.Name x p2) X.env v = pure v := by intro _; rfl) :
    SS X c W (.For (.Name y p1) (.Name x p2) [.Expr (.Call (.Name f p3) [.Name y p4] [] p5) p6] [] pos) (sForSp n i j) := by
  obtain ⟨ff, fd, ps, FF, hm, hkp, hb⟩ := M.ex
  refine PS.imp (ps_for hp hc (pi_any (pe_var hN hv hd hcd)) (pg_name hND hM hl hf) (pss_one (ps_expr (pe_callSD (dvs := []) FF (hr.mono hk) hg hm hkp hb .nil (fun σ => passAt tk σ) (pa_cons (pe_var hM hv2 hd2 hcd2) pa_nil hs1) hdb hs1 hpl) hsw)) hs) fun D σ H ⟨F, S, Ts, ts, nb, s, o, eS, ij, hj, h, q⟩ => ?_
  have hi : i < S.length := (List.getElem?_eq_some_iff.mp eS).1
  -- a turn: the item is taken out and given away
  have turn : ∀ {F : Fz} {H : Hp} {σ : L2.St} {S' : List (Option O)} {o1 o2 u : O} {v x : V} (keep : Addr → Prop) (P : L2.St → Hp → Prop), Sv c F H Ts ts S' σ → S'[i]? = some (some o1) → S'.length = S.length → o1.nb = true → o2.nb = true → spo n u = true →
      (∀ (F : Fz) B, Ow c.G F.F H o1 v B → ∃ A C, Ow c.G F.F H u x A ∧ A.Sublist B ∧ Ow c.G F.F H o2 v C ∧ C.Sublist B ∧ (B.Nodup → (∀ a ∈ C, a ∉ A) ∧ ∀ a, keep a → a ∉ A)) → σ[i]? = some (some v) →
      (∀ (F : Fz) (H' : Hp) (σ : L2.St), Sv c F H' Ts ts ((S'.set j (some (.im (.obj x)))).set i (some o2)) σ → σ[i]? = some (some v) → (∀ a y, keep a → H a = some y → H' a = some y) → P σ H') →
      gName j x σ H fun σ2 H2 => tDrop (tCallSD (spSp c.G n) [] (fun σ cls d H => W cls d σ H) (tCons (tVar j) tNil)) { D with nx := P, ct := P, bk := D.nx } σ2 H2 := by
    intro F H σ S' o1 o2 u v x keep P s e1 el n1 n2 hu hw ev hP
    obtain ⟨F1, _, _, s1⟩ := (s.pushIm (d := .obj x) (v := x) rfl).put (i := j) rfl (by rw [el]; exact hj)
    have e1' : (S'.set j (some (.im (.obj x))))[i]? = some (some o1) := by rw [List.getElem?_set_ne (Ne.symm ij)]; exact e1
    have ev' : (σ.set j (some x))[i]? = some (some v) := by rw [List.getElem?_set_ne (Ne.symm ij)]; exact ev
    obtain ⟨v0, F2, _, e0, _, s2⟩ := s1.move nb e1'
    rw [ev'] at e0
    cases e0
    obtain ⟨A1, ho, nd, back⟩ := s2.gutTop n1
    obtain ⟨A, C, hA, subA, h2, subC, dis⟩ := hw F2 A1 ho
    have hjσ : (σ.set j (some x))[j]? = some (some x) := by
      rw [List.getElem?_set_self]
      have := s.len
      omega
    refine ⟨x, hjσ, F2.F, x, u, A, rfl, hu, s2.sub, hA, nd.sublist subA, fun H' st => ?_⟩
    have s3 := back A C o2 (fun a ha => subA.subset ha) subC (dis nd).1 h2 H' st
    obtain ⟨F4, _, _, s4⟩ := s3.put (i := i) n2 (by rw [List.length_set, List.length_set, el]; exact hi)
    rw [List.set_set, set_same ev'] at s4
    exact hP F4 H' _ s4 ev' fun a y ka ha => st a y ha ((dis nd).2 a ka)
  -- the end
  have fin : ∀ {F : Fz} {H : Hp} {σ : L2.St} {sj : Option O} {o' : O}, D.nx σ H ∨ (Sv c F H Ts ts ((S.set j sj).set i (some o')) σ ∧ (endK c W Ts ts D).nx ((S.set i (some o')).set j none)) → D.nx σ H := by
    rintro F H σ sj o' (h | ⟨s, h⟩)
    · exact h
    · have s5 := s.drop j
      rw [List.set_comm _ _ (i := j) (j := i) (Ne.symm ij), List.set_set] at s5
      exact h F H σ s5
  have setj : ∀ (sj : Option O) (o1 : O), ((S.set j sj).set i (some o1))[i]? = some (some o1) := fun sj o1 => by
    rw [List.getElem?_set_self (by rw [List.length_set]; exact hi)]
  have start : S = (S.set j (S[j]?.getD none)).set i (some o) := by
    have e : S.set j (S[j]?.getD none) = S := by
      refine List.ext_getElem? fun k => ?_
      by_cases hk : k = j
      · subst hk
        rw [List.getElem?_set_self hj, List.getElem?_eq_getElem hj]
        rfl
      · rw [List.getElem?_set_ne (fun e => hk e.symm)]
    rw [e, set_same eS]
  have again : ∀ (sj w : Option O) (o1 o2 : O), (((S.set j sj).set i (some o1)).set j w).set i (some o2) = (S.set j w).set i (some o2) := fun sj w o1 o2 => by
    rw [List.set_comm (some o1) w ij, List.set_set, List.set_set]
  have ln : ∀ (sj : Option O) (o1 : O), ((S.set j sj).set i (some o1)).length = S.length := fun sj o1 => by rw [List.length_set, List.length_set]
  cases o with
  | ls os =>
    obtain ⟨p, xs, e1, e2, e3⟩ := s.look nb eS
    have h : (decide (os.length < sizeLine) && os.all (spo n)) = true := h
    rw [Bool.and_eq_true] at h
    refine ⟨.ref p, e1, p, rfl, .inl ⟨⟨_, SqL.of e2⟩, fun t m σ H => m = os.length - t ∧ t ≤ os.length ∧ ∃ (F : Fz) (sj : Option O), Sv c F H Ts ts ((S.set j sj).set i (some (.ls (gut os xs t)))) σ ∧ σ[i]? = some (some (.ref p)) ∧ H p = some (.lst xs), ⟨os.length, by simp, Nat.zero_le _, F, S[j]?.getD none, by rw [gut_0, ← start]; exact s, e1, e2⟩, ?_⟩⟩
    rintro t m σ H ⟨rfl, ht, F, sj, s, e1, e2⟩
    by_cases hlt : t < os.length
    · refine .inr ⟨⟨xs, xs[t]'(by omega), SqL.of e2, List.getElem?_eq_getElem (by omega)⟩, fun σ H => ∃ (F : Fz) (sj : Option O), Sv c F H Ts ts ((S.set j sj).set i (some (.ls (gut os xs (t + 1))))) σ ∧ σ[i]? = some (some (.ref p)) ∧ H p = some (.lst xs), fun σ' H' ⟨F, sj, s, g1, g2⟩ => ⟨os.length - (t + 1), by omega, rfl, hlt, F, sj, s, g1, g2⟩, fun x H' ⟨eH, y⟩ => ?_⟩
      subst eH
      have ex := y xs (SqL.of e2)
      refine turn (fun a => a = p) _ s (setj _ _) (ln _ _) rfl rfl (spo_at h.2 (List.getElem?_eq_getElem hlt)) (o2 := .ls (gut os xs (t + 1))) (fun F B hB => ?_) e1 fun F' H' σ' s' g1 g2 => ⟨F', _, by rw [again] at s'; exact s', g1, g2 p _ rfl e2⟩
      obtain ⟨a, vs, B', ea, eB, nF, hp, z, ol⟩ := (show Ow c.G F.F _ (.ls (gut os xs t)) (.ref p) B from hB)
      cases ea
      rw [e2] at hp
      cases hp
      subst eB
      obtain ⟨v, A, q1, q2, q3, C, q4, q5, q6⟩ := ol.take1 e3.symm (List.getElem?_eq_getElem hlt)
      rw [ex] at q1
      cases q1
      refine ⟨A, p :: C, q2, q3.trans (List.sublist_cons_self _ _), ⟨p, xs, C, rfl, rfl, nF, e2, by rw [gut_len e3.symm (by omega)]; rw [gut_len e3.symm (by omega)] at z; exact z, q4⟩, q5.cons_cons _, fun nd => ⟨fun b hb => ?_, fun b eb hb => ?_⟩⟩
      · rcases List.mem_cons.mp hb with rfl | hb
        · exact fun hA => (List.nodup_cons.mp nd).1 (q3.subset hA)
        · exact q6 (List.nodup_cons.mp nd).2 b hb
      · subst eb
        exact (List.nodup_cons.mp nd).1 (q3.subset hb)
    · have et : t = os.length := by omega
      subst et
      refine .inl ⟨⟨xs, SqL.of e2, by omega⟩, fin (.inr ⟨s, ?_⟩)⟩
      rw [gut_all e3.symm (Nat.le_refl _)]
      exact q xs e3
  | tp os =>
    obtain ⟨v, ev, hw⟩ := s.view eS
    obtain ⟨v2, F2, _, e0, _, s2⟩ := s.move nb eS
    obtain ⟨A9, h9⟩ := s2.top
    obtain ⟨p, xs, ep, e2, _, ol9⟩ := (show Ow c.G F2.F H (.tp os) v2 A9 from h9)
    subst ep
    have e1 := e0
    have e3 := ol9.len.symm
    have h : os.all (spo n) = true := h
    refine ⟨.ref p, e1, p, rfl, .inr ⟨⟨_, SqT.of e2⟩, fun t m σ H => m = os.length - t ∧ t ≤ os.length ∧ ∃ (F : Fz) (sj : Option O), Sv c F H Ts ts ((S.set j sj).set i (some (.tp (gut os xs t)))) σ ∧ σ[i]? = some (some (.ref p)) ∧ H p = some (.tup xs), ⟨os.length, by simp, Nat.zero_le _, F, S[j]?.getD none, by rw [gut_0, ← start]; exact s, e1, e2⟩, ?_⟩⟩
    rintro t m σ H ⟨rfl, ht, F, sj, s, e1, e2⟩
    by_cases hlt : t < os.length
    · refine .inr ⟨⟨xs, xs[t]'(by omega), SqT.of e2, List.getElem?_eq_getElem (by omega)⟩, fun σ H => ∃ (F : Fz) (sj : Option O), Sv c F H Ts ts ((S.set j sj).set i (some (.tp (gut os xs (t + 1))))) σ ∧ σ[i]? = some (some (.ref p)) ∧ H p = some (.tup xs), fun σ' H' ⟨F, sj, s, g1, g2⟩ => ⟨os.length - (t + 1), by omega, rfl, hlt, F, sj, s, g1, g2⟩, fun x H' ⟨eH, y⟩ => ?_⟩
      subst eH
      have ex := y xs (SqT.of e2)
      refine turn (fun a => a = p) _ s (setj _ _) (ln _ _) rfl rfl (spo_at h (List.getElem?_eq_getElem hlt)) (o2 := .tp (gut os xs (t + 1))) (fun F B hB => ?_) e1 fun F' H' σ' s' g1 g2 => ⟨F', _, by rw [again] at s'; exact s', g1, g2 p _ rfl e2⟩
      obtain ⟨a, vs, ea, hp, z, ol⟩ := (show Ow c.G F.F _ (.tp (gut os xs t)) (.ref p) B from hB)
      cases ea
      rw [e2] at hp
      cases hp
      obtain ⟨v, A, q1, q2, q3, C, q4, q5, q6⟩ := ol.take1 e3.symm (List.getElem?_eq_getElem hlt)
      rw [ex] at q1
      cases q1
      refine ⟨A, C, q2, q3, ⟨p, xs, rfl, e2, by rw [gut_len e3.symm (by omega)]; rw [gut_len e3.symm (by omega)] at z; exact z, q4⟩, q5, fun nd => ⟨q6 nd, fun b eb hb => ?_⟩⟩
      subst eb
      obtain ⟨_, vs', e⟩ := q2.own b hb
      rw [e2] at e
      cases e
    · have et : t = os.length := by omega
      subst et
      refine .inl ⟨⟨xs, SqT.of e2, by omega⟩, fin (.inr ⟨s, ?_⟩)⟩
      rw [gut_all e3.symm (Nat.le_refl _)]
      exact q xs e3
  | im d =>
    cases d with
    | tup ds =>
      have h : ds.all (spd n) = true := h
      obtain ⟨v2, F2, _, e0, _, s2⟩ := s.move nb eS
      obtain ⟨p, xs, ep, e2, _, rel⟩ := s2.topIm
      subst ep
      have e1 := e0
      have e3 := rel.length.symm
      refine ⟨.ref p, e1, p, rfl, .inr ⟨⟨_, SqT.of e2⟩, fun t m σ H => m = ds.length - t ∧ t ≤ ds.length ∧ ∃ (F : Fz) (sj : Option O), Sv c F H Ts ts ((S.set j sj).set i (some (.im (.tup ds)))) σ ∧ σ[i]? = some (some (.ref p)) ∧ H p = some (.tup xs), ⟨ds.length, by simp, Nat.zero_le _, F, S[j]?.getD none, by rw [← start]; exact s, e1, e2⟩, ?_⟩⟩
      rintro t m σ H ⟨rfl, ht, F, sj, s, e1, e2⟩
      by_cases hlt : t < ds.length
      · refine .inr ⟨⟨xs, xs[t]'(by omega), SqT.of e2, List.getElem?_eq_getElem (by omega)⟩, fun σ H => ∃ (F : Fz) (sj : Option O), Sv c F H Ts ts ((S.set j sj).set i (some (.im (.tup ds)))) σ ∧ σ[i]? = some (some (.ref p)) ∧ H p = some (.tup xs), fun σ' H' ⟨F, sj, s, g1, g2⟩ => ⟨ds.length - (t + 1), by omega, rfl, hlt, F, sj, s, g1, g2⟩, fun x H' ⟨eH, y⟩ => ?_⟩
        subst eH
        have ex := y xs (SqT.of e2)
        have hu : spo n (.im ds[t]) = true := by
          have := List.all_eq_true.mp h ds[t] (List.getElem_mem _)
          cases n with
          | zero => simp [spd] at this
          | succ n => exact this
        refine turn (fun a => a = p) _ s (setj _ _) (ln _ _) rfl rfl hu (o2 := .im (.tup ds)) (fun F B hB => ?_) e1 fun F' H' σ' s' g1 g2 => ⟨F', _, by rw [again] at s'; exact s', g1, g2 p _ rfl e2⟩
        obtain ⟨eB, a, vs, ea, hp, z, rel⟩ := (show Ow c.G F.F _ (.im (.tup ds)) (.ref p) B from hB)
        cases ea
        rw [e2] at hp
        cases hp
        obtain ⟨d, g1, g2⟩ := rel.get ex
        rw [List.getElem?_eq_getElem hlt] at g1
        cases g1
        subst eB
        exact ⟨[], [], ⟨rfl, g2⟩, List.Sublist.refl _, ⟨rfl, p, xs, rfl, e2, z, rel⟩, List.Sublist.refl _, fun _ => ⟨fun _ _ h => (nomatch h), fun _ _ h => (nomatch h)⟩⟩
      · have et : t = ds.length := by omega
        subst et
        exact .inl ⟨⟨xs, SqT.of e2, by omega⟩, fin (.inr ⟨s, q⟩)⟩
    | _ => simp [spIn] at h
  | bo d => simp [spIn] at h
end
section
variable {P : Program} {w : World} {K : PySem.W.Frag} {mg : Str → Option Value} {base : Heap} {G : Gx}
theorem ok_sp {x qual : Str} {st : Stmt} {f : Addr} {fd : FuncData} {N ps : List Str} {k n : Nat} {p : WS} (F : Fun K x qual st f fd) (S : FnScope N ps (defScope st)) (len : ps.length = 1)
    (hbody : n ≠ 0 → ∀ (c : Cc) (cdv : Value) (A : Around) (outer : List Env) (s : Shared) (H : Hp) (E : XK), c.G = G → Room k (A.deeper (PyProof.Rows.envOfC qual (defScope st) s.heap.objs.size f cdv)) →
      SSs (cxOf (L2.CX P w) P w K mg base N qual (defScope st) f cdv A outer s H E) c (fun cls d _ H => E cls d H) (defBody st) p)
    (pure : ∀ o, spo n o = true → p.run (startM N o []) { nx := fun _ => True, rt := fun _ => False, ex := fun _ _ => False }) : FnOk P w K mg base (L2.CX P w) (k + 1) f fd ps (spSp G n) := by
  refine F.okX S (fun vs H Q E ⟨F0, v0, o, A, e, _⟩ => by subst e; exact len.symm) (fun cdv Ar outer s H vs Q E hr ⟨F0, v0, o, A, e, hs, sm, ho, nd, h⟩ => ?_)
  subst e
  have off : ∀ a, a ∈ A → offH H A a = none := fun a h => by unfold offH; rw [if_pos h]
  have on : ∀ a, a ∉ A → offH H A a = H a := fun a h => by unfold offH; rw [if_neg h]
  have own := Ow.own ho
  have n0 : n ≠ 0 := fun e => by subst e; simp [spo] at hs
  refine ⟨_, hbody n0 ⟨G, F0, offH H A⟩ cdv Ar outer s H E rfl hr, ?_⟩
  refine ⟨⟨F0, PL.frz F0 H A⟩, startM N o [], [], [], (fun o ho => by cases ho), ⟨Same.refl _, frz_same fun a ha => (own a ha).1, frz_sub sm, fun a u q => ?_, fun _ _ => rfl, [], A, ⟨rfl, rfl⟩, ?_, nd, fun a ha => off a ha, (fun a ha => by cases ha), fun a ha => frz_in ha⟩,
    p.le (pure o hs) ⟨fun S' _ F' H' σ' s' => ?_, fun _ z => z.elim, fun _ z => z.elim, fun _ z => z.elim, fun S' e z => z.elim⟩⟩
  · have q' : offH H A a = some u := q
    by_cases hm : a ∈ A
    · rw [off a hm] at q'; cases q'
    · rw [on a hm] at q'; exact q'
  · unfold startM L2.start
    have := SlL.start (G := G) (F := F0) (H := H) (m := N.length - (0 + 1)) (ds := []) (vs := []) rfl
    exact ⟨v0, _, A, [], rfl, by simp, ho, this⟩
  · exact h H' fun a y q na => s'.old a y (by show offH H A a = some y; rw [on a na]; exact q)
/-- a text that spoils: its reading by how deep -/
def w_spoil (n : Nat) : WS := sSeq (sIf (wOr (wT (wA (wCons (wV 0) (wCons (wC (.obj (.ty "tuple"))) wNil)) (uA2 (uIsi "tuple")))) (wT (wA (wCons (wV 0) (wCons (wC (.obj (.ty "list"))) wNil)) (uA2 (uIsi "list"))))) (sForSp n 0 1) sNext) (sIf (wT (wA (wCons (wV 0) (wCons (wC (.obj (.ty "list"))) wNil)) (uA2 (uIsi "list")))) (sAppend 0 (wC .non)) sNext)
theorem dsp_of {x qual : Str} {st : Stmt} {ps : List Str} {y : Str} (T : AtD K mg x qual st) (S : FnScope [ps.getD 0 (Str.ofString ""), y] ps (defScope st)) (len : ps.length = 1) (bd : ∀ f fd, Fun K x qual st f fd → Binds K fd ps [])
    (hbody : ∀ (n : Nat) (M : DSp P w K mg base x (n + 1) G n) (f : Addr) (c : Cc) (cdv : Value) (A : Around) (outer : List Env) (s : Shared) (H : Hp) (E : XK), c.G = G → Room (n + 1) (A.deeper (PyProof.Rows.envOfC qual (defScope st) s.heap.objs.size f cdv)) →
      SSs (cxOf (L2.CX P w) P w K mg base [ps.getD 0 (Str.ofString ""), y] qual (defScope st) f cdv A outer s H E) c (fun cls d _ H => E cls d H) (defBody st) (w_spoil n))
    (pure : ∀ n o, spo (n + 1) o = true → (w_spoil n).run (startM [ps.getD 0 (Str.ofString ""), y] o []) { nx := fun _ => True, rt := fun _ => False, ex := fun _ _ => False }) : ∀ n, DSp P w K mg base x (n + 1) G n
  | 0 => by
    obtain ⟨f, fd, F, hm⟩ := T.ex
    exact ⟨f, fd, ps, ok_sp (p := sNever) F S len (fun h => absurd rfl h) (fun o h => by simp [spo] at h), hm, F.kp, bd f fd F⟩
  | n + 1 => by
    obtain ⟨f, fd, F, hm⟩ := T.ex
    exact ⟨f, fd, ps, ok_sp F S len (fun _ => hbody n (dsp_of T S len bd hbody pure n) f) (pure n), hm, F.kp, bd f fd F⟩
end
local macro_rules | `(tactic| walk_at "pl") => `(tactic| simp (config := { maxSteps := 1000000 }) only [sSeq, sIf, sRet, sRetV, sRetN, sAsg, sPar, sPar3, sAug, sNext, sExpr, sBreak, sCont, W1.pure, wV, wC, w1, w2, wT, wAnd, wOr, wNot, wAndV, wOrV, wNotV, wIf, wCons, wNil, wA, wL, wTp, wCall, uA1, uA2, uI, uIB, uIU, uEq_int, uEq_str, uEq_bl, uIsi, uLen, uInt, uIx, uCat, uLst, wSl, wItA, wR1, wR2, wZip, wEnum, wRev, wON, wOS, gF, gN, bodyK, startS,   nb_im, nb_ls, nb_tp, nb_bo, vw_im, vw_ls, vw_tp, er_im, er_bo, er_ls, er_tp, erL_nil, erL_cons, its_iml, its_imt, its_scr, its_bol, its_bot, its_ls, its_tp, trk_iml, trk_imt, trk_bot, trk_tp, isL_imt, isL_bot, isL_tp,  trk_bol, trk_ls, isL_iml, isL_scr, isL_bol, isL_ls, fz_im, fz_bo, fz_ls, fz_tp, ty_int, ty_bl, ty_str, ty_non, ty_tup, ty_lst, len_lst, len_tup, len_scr, all_nil, all_cons, Bool.and_self, true_or,   List.map_cons, List.map_nil, List.cons_append, List.nil_append, List.append_nil, List.length_cons, List.length_nil, List.replicate, List.getElem?_cons_zero, List.getElem?_cons_succ, List.set_cons_zero, List.set_cons_succ, List.set_nil, Option.some.injEq, exists_eq_left', exists_eq_left, exists_eq_right, exists_eq', exists_and_left, exists_and_right, and_true, true_and, and_assoc, O.im.injEq, D.int.injEq, D.bl.injEq, D.tup.injEq, D.lst.injEq, D.kd.injEq, D.scr.injEq, D.str.injEq, Ctr.fn, Ctr.rel, sFor_run, wLC_run, all_mem_nil,  sAppend,   tidy_i, tidy_t, tidy_n, tidy_kd, or_true, Bool.and_true,  mkL_nb, all_map_i, all_map_im, cutA_map, cutA_63, take_map', drop_map',  its_lsi, erL_append, erL_mapi, map_im_int, List.map_append, List.all_append, List.length_map, List.length_append,  unr_cons, unr_nil, whole_int, Option.isSome_some,  all_mem_cons, atI_0, atI_1, atI_2, atI_3, atI_4, isB_int_int, isB_int_bool, isB_int_str, isB_int_tuple, isB_int_list, isB_bool_int, isB_bool_bool, isB_bool_str, isB_bool_tuple, isB_bool_list, isB_str_int, isB_str_bool, isB_str_str, isB_str_tuple, isB_str_list, isB_tuple_int, isB_tuple_bool, isB_tuple_str, isB_tuple_tuple, isB_tuple_list, isB_list_int, ty_dic, isB_dict_int, isB_dict_bool, isB_dict_str, isB_dict_tuple, isB_dict_list, mkL_0, isB_list_bool, isB_list_str, isB_list_tuple, isB_list_list, isB_NoneType_int, isB_NoneType_bool, isB_NoneType_str, isB_NoneType_tuple, isB_NoneType_list, Prod.exists, Prod.forall, forall_exists_index, and_imp, forall_eq, forall_eq', Bool.false_xor, Bool.true_xor, List.cons.injEq, Nat.reduceAdd, Nat.reduceSub, Nat.reduceLT, Nat.lt_add_one, Nat.zero_lt_succ, Nat.zero_add,   Bool.not_eq_true', Bool.not_eq_false', Bool.not_true, Bool.not_false, decide_eq_false_iff_not, decide_eq_true_eq, if_true, if_false, Bool.false_eq_true, Bool.true_eq_false, reduceIte])
local macro_rules | `(tactic| walk_at "ds") => `(tactic| repeat refine And.intro (by first | with_reducible rfl | decide | exact mulok_r (by decide) | exact mulok_l (by decide) | exact szL (by decide)) ?_)
theorem nb_objs {vs : List V} : (vs.map fun v => O.im (.obj v)).all O.nb = true := by
  rw [List.all_map]
  exact List.all_eq_true.mpr fun _ _ => rfl
theorem p_spoil {a b : Str} (n : Nat) (o : O) (h : spo (n + 1) o = true) : (w_spoil n).run (startM [a, b] o []) { nx := fun _ => True, rt := fun _ => False, ex := fun _ _ => False } := by
  have h' : spo (n + 1) o = true := h
  unfold w_spoil startM
  cases o with
  | bo d => simp [spo] at h
  | ls os =>
    have h2 : (decide (os.length < sizeLine) && os.all (spo n)) = true := h
    have h3 := h2
    rw [Bool.and_eq_true, decide_eq_true_eq] at h3
    walk_at "pl"
    refine ⟨_, rfl, by decide, by simp, h2, fun vs hv => ?_⟩
    walk_at "pl"
    exact ⟨_, rfl, by rw [List.length_map, hv]; exact h3.1⟩
  | tp os =>
    have h2 : os.all (spo n) = true := h
    walk_at "pl"
    refine ⟨_, rfl, by decide, by simp, h2, fun vs hv => ?_⟩
    walk_at "pl"
  | im d =>
    have h3 : spd (n + 1) d = true := h
    cases d with
    | tup ds =>
      have h2 : ds.all (spd n) = true := h3
      walk_at "pl"
      refine ⟨_, rfl, by decide, by simp, h2, ?_⟩
      unfold spOut
      walk_at "pl"
    | int i => walk_at "pl"
    | bl i => walk_at "pl"
    | str i => walk_at "pl"
    | non => walk_at "pl"
    | _ => simp [spd] at h3
/-- f(e), what e tells given away -/
def sSpoil (n : Nat) (p : W1 O) : WS := ⟨fun S D => p.run S (fun o => spo n o = true ∧ D.nx S) (D.ex S), fun l h => p.mono (fun o ⟨a, b⟩ => ⟨a, l.nx _ b⟩) (fun e z => l.ex _ e z) h⟩
section
variable {X : Cx} {c : Cc} {W : WX} {pos : Pos} {a : Expr} {pa : W1 O}
theorem ss_spoil {n kk k : Nat} {f : Str} {p1 p2 : Pos} (M : DSp X.prog X.w X.K X.mg X.base f k c.G n) (hr : Room kk X.A) (hk : k ≤ kk) (tk : Takes X W) (ha : SE X c W a pa)
    (hg : Gl X f := by rfl) (hdb : (f == ("__debug__" : Str)) = false := by decide) (hs1 : starEach [a] X.env = (false, eval a X.env) :: starEach [] X.env := by rfl) (hpl : (backTo p2 (starEach ([] : List Expr) X.env)).any (·.1) = false := by rfl)
    (hsw : swapsWith (.Call (.Name f p1) [a] [] p2) none pos.line X.env = pure false := by rfl) : SS X c W (.Expr (.Call (.Name f p1) [a] [] p2) pos) (sSpoil n pa) := by
  obtain ⟨ff, fd, ps, FF, hm, hkp, hb⟩ := M.ex
  refine PS.imp (ps_expr (pe_callSD (dvs := []) FF (hr.mono hk) hg hm hkp hb .nil (fun σ => passAt tk σ) (pa_cons ha pa_nil hs1) hdb hs1 hpl) hsw) fun D σ H ⟨F, S, Ts, ts, nb, s, h⟩ => ?_
  refine ⟨F, S, Ts, ts, s, pa.mono (fun o ⟨hs, z⟩ F1 H1 v s1 => ?_) (fun e z => exK.st z) h⟩
  obtain ⟨A, hA, nd, _, gone⟩ := s1.gone
  have nbo := spo_nb hs
  exact ⟨F1.F, v, o, A, rfl, hs, s1.sub, hA.ow nbo, nd, fun H' st => z F1 H' _ (gone H' st)⟩
end
end PL

/-! P29 -/
set_option Elab.async false
set_option linter.all false
set_option maxRecDepth 100000
set_option maxHeartbeats 4000000
/-! P29: NoInverse raised with its rank; the rank of a caught one; list(range(n)). -/
namespace PL
open PySem PySem.Spec L2 PyProof.Rows
/-- what the written part says of NoInverse -/
structure InvT (K : PySem.W.Frag) (mg : Str → Option Value) (C FE fI : Addr) : Prop where
  T : OexC K C
  iC : PySem.W.findIn K (.ref C) "__init__" = some (some (.ref fI))
  tI : PySem.W.typeIn K (.ref fI) = some (.type "function")
  no : PySem.W.findIn K (.ref C) "rank" = some none
  fe : mg "FrameError" = some (.ref FE)
  ga : PySem.W.specialIn K (.ref FE) "__getattribute__" = some (some (.builtin "type.__getattribute__"))
  rd : PySem.W.readsIn K FE (.type "type") = true
  fc : PySem.W.findCls K (.ref FE) (.type "type") "__init__" = some (.val (.builtin "ValueError.__init__"))
  mgI : mg "NoInverse" = some (.ref C)
  gaC : PySem.W.findIn K (.ref C) "__getattribute__" = some (some (.builtin "BaseException.__getattribute__"))
  gg : PySem.W.findIn K (.ref C) "__getattr__" = some none
  hd : PySem.W.hasDictIn K C = true
theorem InvT.xf {K : PySem.W.Frag} {mg : Str → Option Value} {C FE fI : Addr} (T : InvT K mg C FE fI) : XfC K C := ⟨T.gaC, T.gg, T.T.exC, T.hd⟩
section
variable {X : Cx} {e : Expr} {es : List Expr} {ta : TA} {p1 p2 pos : Pos} {C FE fI : Addr}
theorem pe_oeinit {pl : Sem Bool} (T : InvT X.K X.mg C FE fI) (ha : PA X (e :: es) ta) (hg : Gl X "FrameError" := by rfl)
    (hc : eval (.Call (.Attribute (.Name "FrameError" p1) "__init__" p2) (e :: es) [] pos) X.env = (do
      let ov ← eval (.Name "FrameError" p1) X.env
      standAt p2.atName
      let (f, first) ← holding [ov] (getMethod ov "__init__" pl)
      callWith pos f first (backTo pos (starEach (e :: es) X.env)) (backToKw pos (keywordEach [] X.env))) := by rfl)
    (he : starEach (e :: es) X.env = (false, eval e X.env) :: starEach es X.env := by rfl) (hpl : (backTo pos (starEach es X.env)).any (·.1) = false := by rfl) :
    PE X (.Call (.Attribute (.Name "FrameError" p1) "__init__" p2) (e :: es) [] pos) (tVeI X.K ta) := by
  refine ⟨fun pins s σ H Q I h => ?_⟩
  refine PySem.W.methodCall_KW (ld_glob I hg T.fe ?_ (by decide)) hc
  refine PySem.W.method_cls I.kIn T.ga (PySem.W.cls_value I.kIn T.rd T.fc (by decide +kernel) ?_)
  show wpAny _ _ (callWith pos (Value.builtin "ValueError.__init__") [] (backTo pos (starEach (e :: es) X.env)) []) _ _ _
  refine PyProof.Rows.callWith_method1 (thn (ha.run pos pins _ σ H _ (I.tok _) h) fun us s1 ⟨vs, H1, I1, r1, a, C, ws, ev, hl, T, ea, q⟩ => ?_) he hpl
  subst ev
  cases r1 with
  | @cons _ u0 _ ur ra rw' =>
    obtain rfl : u0 = Value.ref a := ra
    have hlen : ur.length ≤ sizeLine := by
      rw [← Paired.length rw', sizeLine_eq]
      omega
    exact oinit_ok T I1 ea hlen fun s' J => ⟨.non, H1, J, rfl, q⟩
end
def spInv (C : Addr) : Sp := fun vs H Q _ => ∃ (a : Addr) (r : Int), vs = [.ref a, .int r] ∧ H a = some (exo a C none) ∧ ∀ dx, H dx = none → dx ≠ a → Q .non (upd (upd H dx (exd dx [("rank", .int r)])) a (exo a C (some dx)))
section
variable {P : Program} {w : World} {K : PySem.W.Frag} {mg : Str → Option Value} {base : Heap}
theorem ok_inv {st : Stmt} {fd : FuncData} {C FE fI : Addr} {m : Str} (T : InvT K mg C FE fI) (F : Fun K "__init__" "NoInverse.__init__" st fI fd) (S : FnScope ["self", "rank"] ["self", "rank"] (defScope st))
    (hbody : ∀ (cdv : Value) (A : Around) (outer : List Env) (s : Shared) (H : Hp) (E : XK), Room 0 (A.deeper (PyProof.Rows.envOfC "NoInverse.__init__" (defScope st) s.heap.objs.size fI cdv)) →
      PSs (cxOf (L2.CX P w) P w K mg base ["self", "rank"] "NoInverse.__init__" (defScope st) fI cdv A outer s H E) (defBody st) (tSeq (tDrop (tVeI K (tCons (tVar 0) (tCons (tC (.str m)) tNil)))) (tOst K "rank" (tVar 0) (tVar 1)))) :
    FnOk P w K mg base (L2.CX P w) 1 fI fd ["self", "rank"] (spInv C) := by
  refine F.okX S (fun vs H Q E ⟨a, r, e, _⟩ => by subst e; rfl) (fun cdv A outer s H vs Q E hr ⟨a, r, e, ha, q⟩ => ⟨_, hbody cdv A outer s H E hr, ?_⟩)
  subst e
  refine ⟨_, rfl, a, C, [.str m], rfl, by simp, T.T, ha, _, rfl, _, rfl, a, C, rfl, T.T, T.no, .inl ⟨ha, fun dx n ne => ?_⟩⟩
  exact q dx n ne
end
/-- NoInverse as a def may raise it -/
structure InvOk (P : Program) (w : World) (K : PySem.W.Frag) (mg : Str → Option Value) (base : Heap) (G : Gx) : Prop where
  ex : ∃ FE fI fd, InvT K mg (G.xs .inverse) FE fI ∧ FnOk P w K mg base (L2.CX P w) 1 fI fd ["self", "rank"] (spInv (G.xs .inverse)) ∧ Binds K fd ["self", "rank"] []
def sRaiseInv (q : W1 (List O)) : WS := ⟨fun S D => q.run S (fun os => ∃ r, os = [O.i r] ∧ D.ex S (.inverse r)) (D.ex S), fun l h => q.mono (fun os ⟨r, e, z⟩ => ⟨r, e, l.ex _ _ z⟩) (fun e z => l.ex _ e z) h⟩
section
variable {X : Cx} {c : Cc} {W : WX} {a : Expr} {q : W1 (List O)} {pos : Pos}
theorem ss_raiseInv {k : Nat} {x : Str} {p pos' : Pos} (hc : X.calm = true) (M : InvOk X.prog X.w X.K X.mg X.base c.G) (hr : Room k X.A) (hk : 2 ≤ k) (tk : Takes X W) (ha : SA X c W [a] q) (ex : x = "NoInverse") (hg : Gl X x := by rfl) (hdb : (x == ("__debug__" : Str)) = false := by decide)
    (he : starEach [a] X.env = (false, eval a X.env) :: starEach [] X.env := by rfl) (hpl : (backTo pos (starEach ([] : List Expr) X.env)).any (·.1) = false := by rfl) :
    SS X c W (.Raise (some (.Call (.Name x p) [a] [] pos)) none pos') (sRaiseInv q) := by
  obtain ⟨FE, fI, fd, T, F, hb⟩ := M.ex
  subst ex
  refine PS.imp (ps_raise hc tk (pmk_oex (dvs := []) T.T T.iC T.tI F (hr.mono hk) hb .nil (fun _ _ _ _ _ _ _ h => by obtain ⟨_, _, _, _, _, _, _, _, _, _, _, _, z⟩ := h; exact z.elim) hg T.mgI ha hdb he hpl)) fun D σ H ⟨F, S, Ts, ts, nb, s, h⟩ => ?_
  refine ⟨F, S, Ts, ts, s, q.mono (fun os ⟨r, e, z⟩ F1 H1 vs s1 el => ?_) (fun e z => exK.st z) h⟩
  subst e
  obtain ⟨v, rfl⟩ := len1 el
  have hv := s1.int
  subst hv
  refine ⟨by simp, fun a0 n0 => ⟨a0, r, rfl, upd_same, fun dx n ne => ⟨rfl, dx, _, upd_same, by rw [upd_ne ne, upd_same], ?_, ?_⟩⟩⟩
  · rw [upd_ne ne] at n
    exact n
  · rw [upd_ne ne] at n
    have eH : upd (del (upd (upd (upd H1 a0 (exo a0 (c.G.xs .inverse) none)) dx (exd dx [("rank", .int r)])) a0 (exo a0 (c.G.xs .inverse) (some dx))) a0) dx (.xd [("rank", .int r)]) = upd H1 dx (.xd [("rank", .int r)]) := by
      funext b
      by_cases hb : b = dx
      · rw [hb, upd_same, upd_same]
      · rw [upd_ne hb, upd_ne hb]
        by_cases h0 : b = a0
        · rw [h0, del_same, n0]
        · rw [del_ne h0, upd_ne h0, upd_ne hb, upd_ne h0]
    rw [eH]
    exact z σ _ (some dx) F1 _ (s1.pop.alloc n) ⟨rfl, dx, rfl, upd_same⟩
end
/-! the rank of a caught one -/
def uRank : U1 := ⟨fun a Q => ∃ r, a = .im (.exn (.inverse r)) ∧ Q (O.i r), fun hq ⟨p, e, q⟩ => ⟨p, e, hq _ q⟩⟩
def tXr (C : Addr) (te : TE) : TE := fun σ H Q => te σ H fun x H1 => ∃ (a dd : Addr) (r : Int), x = .ref a ∧ H1 a = some (exq a C (some dd)) ∧ H1 dd = some (.xd [("rank", .int r)]) ∧ Q (.int r) H1
theorem pe_xr {X : Cx} {C : Addr} {e : Expr} {te : TE} {pos : Pos} (T : XfC X.K C) (hno : PySem.W.findIn X.K (.ref C) "rank" = some none) (he : PE X e te) (hb : attributeBase e "rank" X.env (eval e X.env) = eval e X.env := by rfl) :
    PE X (.Attribute e "rank" pos) (tXr C te) := by
  refine ⟨fun pins s σ H Q I h => ?_⟩
  refine attr_of hb (thn (he.run pins s σ H _ I h) fun u s1 hh => ?_)
  obtain ⟨x, H1, I1, rx, a, dd, r, ex, eq, ea, q⟩ := hh
  subst ex
  obtain rfl : u = Value.ref a := rx
  have hxq : ObjOk X.prog X.w H1 s1.heap a (.ext fun h => ∃ (o : Obj) (vs : Array Value), h.get? a = some o ∧ o.cls = .ref C ∧ o.dict = some dd ∧ o.data = .fields vs) := I1.hok a _ eq
  obtain ⟨oe, vs, ha, hcl, hdi, hda⟩ := hxq.1
  have hx : ObjOk X.prog X.w H1 s1.heap dd (.xd [("rank", .int r)]) := I1.hok dd _ ea
  obtain ⟨mA, hns, hr⟩ := hx
  obtain ⟨od, ho, hl⟩ := lookIn_ns hns
  obtain ⟨u, hu, ru⟩ := RelO.some_of (v := .int r) (o := mA "rank") (by have := hr "rank"; exact this)
  have J : PySem.W.InstAt s1.heap a oe C (some od) := ⟨ha, hcl, by unfold PySem.W.notCls; rw [hda] <;> rfl, by rw [hdi]; exact ho⟩
  exact HandSPX.exc_get I1.kIn J T.ga T.gg T.exC (PySem.W.findObj_own T.hdC hno rfl (by rw [hl, hu])) (handed_of ru) ⟨_, H1, I1.tok _, ru, q⟩
/-- the class as it is read -/
structure RankF (K : PySem.W.Frag) (C : Addr) : Prop where
  xf : XfC K C
  no : PySem.W.findIn K (.ref C) "rank" = some none
theorem se_rank {X : Cx} {c : Cc} {W : WX} {a : Expr} {pa : W1 O} {pos : Pos} (T : RankF X.K (c.G.xs .inverse)) (ha : SE X c W a pa) (hb : attributeBase a "rank" X.env (eval a X.env) = eval a X.env := by rfl) : SE X c W (.Attribute a "rank" pos) (w1 pa uRank) :=
  PE.imp (pe_xr T.xf T.no ha hb) fun σ H Q ⟨F, S, Ts, ts, s, h⟩ => by
    refine ⟨F, S, Ts, ts, s, pa.mono (fun o ⟨r, e, q⟩ F1 H1 v s1 => ?_) (fun _ z => z) h⟩
    subst e
    obtain ⟨a0, d, ev, eq, hr⟩ := s1.topIm
    obtain ⟨dd, ed, hdd⟩ := hr
    subst ed
    exact ⟨a0, dd, r, ev, eq, hdd, q F1 H1 _ (s1.pop.pushIm rfl)⟩
end PL

/-! P30 -/
set_option Elab.async false
set_option linter.all false
set_option maxRecDepth 100000
set_option maxHeartbeats 4000000
/-! P30: list(range(n)), reversed(range(n)), sum, max, min, all, <<, is None. -/
namespace PL
open PySem PySem.Spec L2 PyProof.Rows
section
variable {X : Cx} {c : Cc} {W : WX} {a b : Expr} {pa pb : W1 O} {es : List Expr} {q : W1 (List O)} {pos : Pos} {tg : Expr}
theorem rgV_nat (n : Int) : rgV 0 n = (List.range n.toNat).map fun i => V.int (0 + (i : Nat)) := by unfold rgV; rw [Int.sub_zero]
theorem ItV.intL {G : Gx} {F : Fz} {H : Hp} {lo : Int} {n : Nat} : ItV G F H (PL.intL lo n) ((List.range n).map fun i => V.int (lo + (i : Nat))) := by
  refine ⟨by rw [intL_len, List.length_map, List.length_range], fun j o e => ?_⟩
  obtain ⟨h1, h2⟩ := intL_get e
  subst h2
  exact ⟨.int (lo + (j : Nat)), by rw [List.getElem?_map, List.getElem?_range h1]; rfl, rfl, rfl⟩
theorem intL_nb {lo : Int} {n : Nat} : (intL lo n).all O.nb = true := by
  unfold intL
  rw [List.all_map]
  exact List.all_eq_true.mpr fun _ _ => rfl
/-- list(range(n)) -/
def wLR1 (p : W1 O) : W1 O := ⟨fun S Q E => p.run S (fun o => ∃ n, o = O.i n ∧ -(2 ^ 62) ≤ n ∧ n ≤ 16777216 ∧ Q (.ls (intL 0 n.toNat))) E, fun hq he h => p.mono (fun o ⟨n, e, h1, h2, z⟩ => ⟨n, e, h1, h2, hq _ z⟩) he h⟩
theorem se_lr1 {p p2 pos2 : Pos} (hc : X.calm = true) (hm : X.mg "list" = none) (hmr : X.mg "range" = none) (ha : SE X c W a pa) (hg : Gl X "list" := by rfl) (hgr : Gl X "range" := by rfl) (he : starEach [a] X.env = (false, eval a X.env) :: starEach [] X.env := by rfl)
    (he2 : starEach [.Call (.Name "range" p2) [a] [] pos2] X.env = (false, eval (.Call (.Name "range" p2) [a] [] pos2) X.env) :: starEach [] X.env := by rfl) :
    SE X c W (.Call (.Name "list" p) [.Call (.Name "range" p2) [a] [] pos2] [] pos) (wLR1 pa) :=
  PE.imp (pe_listRg hc hg hm (prg_1 hgr hmr ha he) he2) fun σ H Q ⟨F, S, Ts, ts, s, h⟩ => by
    refine ⟨F, S, Ts, ts, s, pa.mono (fun o ⟨n, e, h1, h2, z⟩ F1 H1 v s1 => ?_) (fun e z => z) h⟩
    subst e
    have := s1.int
    subst this
    refine ⟨n, rfl, ⟨by omega, by omega, h1, by omega, by omega⟩, fun r nr => ?_⟩
    rw [rgV_nat]
    obtain ⟨F4, _, s4⟩ := (s1.pop.pushN (ItV.intL (lo := 0) (n := n.toNat))).mkL (ItV.intL (G := c.G) (F := F1) (H := H1)).1 (by rw [intL_len]; exact szl h2) nr
    rw [mkL_nb intL_nb] at s4
    exact z F4 _ _ s4
/-- reversed(range(n)) -/
def wRevR1 (p : W1 O) : W1 Wk := ⟨fun S Q E => p.run S (fun o => ∃ n, o = O.i n ∧ -(2 ^ 62) ≤ n ∧ n ≤ 16777216 ∧ Q ⟨[], (intL 0 n.toNat).reverse⟩) E, fun hq he h => p.mono (fun o ⟨n, e, h1, h2, z⟩ => ⟨n, e, h1, h2, hq _ z⟩) he h⟩
theorem walk_rev_range {n : Nat} {lo : Int} (e : lo = (n : Int) - 1) (z : n ≤ sizeLine) : WalkOk c (Itc lo (-1) n) ⟨[], (intL 0 n).reverse⟩ [] := by
  have hl : (intL 0 n).reverse.length = n := by rw [List.length_reverse, intL_len]
  refine ⟨by show (intL 0 n).reverse.length ≤ _; rw [hl]; exact z, fun F H Ts ts S σ s => ⟨fun i hi => by have hi : (intL 0 n).reverse.length ≤ i := hi; rw [hl] at hi; exact hi, fun i o ho => ?_⟩⟩
  have ho : (intL 0 n).reverse[i]? = some o := ho
  have hi := (List.getElem?_eq_some_iff.mp ho).1
  rw [hl] at hi
  rw [List.getElem?_reverse (by rw [intL_len]; exact hi), intL_len] at ho
  obtain ⟨h1, h2⟩ := intL_get ho
  subst h2
  refine ⟨hi, fun x H' ⟨eH, y⟩ => ?_⟩
  subst eH y
  have : lo + (i : Nat) * (-1) = 0 + ((n - 1 - i : Nat) : Int) := by omega
  rw [this]
  exact ⟨F, s.pushIm rfl⟩
theorem si_revR1 {p p2 pos2 : Pos} (hm : X.mg "reversed" = none) (hmr : X.mg "range" = none) (ha : SE X c W a pa) (hg : Gl X "reversed" := by rfl) (hgr : Gl X "range" := by rfl) (he : starEach [a] X.env = (false, eval a X.env) :: starEach [] X.env := by rfl)
    (he2 : starEach [.Call (.Name "range" p2) [a] [] pos2] X.env = (false, eval (.Call (.Name "range" p2) [a] [] pos2) X.env) :: starEach [] X.env := by rfl) :
    SI X c W tg (.Call (.Name "reversed" p) [.Call (.Name "range" p2) [a] [] pos2] [] pos) (wRevR1 pa) :=
  PI.imp (pi_revR hg hm (prg_1 hgr hmr ha he) he2) fun σ H R ⟨F, S, Ts, ts, s, h⟩ => ⟨F, S, Ts, ts, s, pa.mono (fun o ⟨n, e, h1, h2, z⟩ F1 H1 v s1 => by
    subst e
    have := s1.int
    subst this
    refine ⟨n, rfl, by omega, by omega, h1, by omega, ?_⟩
    rw [Int.sub_zero]
    exact z F1 H1 _ [] s1.pop rfl (walk_rev_range (by omega) (szl h2))) (fun _ z => z) h⟩
theorem ItV.ofInts {G : Gx} {F : Fz} {H : Hp} {ns : List Int} {vs : List V} (h : ItV G F H (ns.map O.i) vs) : vs = ns.map V.int := by
  have el := h.1
  rw [List.length_map] at el
  refine List.ext_getElem? fun j => ?_
  by_cases hj : j < ns.length
  · obtain ⟨v, hv, hw⟩ := h.2 j (O.i ns[j]) (by rw [List.getElem?_map, List.getElem?_eq_getElem hj]; rfl)
    have : v = .int ns[j] := (show _ ∧ _ from hw).2
    rw [hv, this, List.getElem?_map, List.getElem?_eq_getElem hj]
    rfl
  · rw [List.getElem?_eq_none (by omega), List.getElem?_eq_none (by rw [List.length_map]; omega)]
theorem ItV.ofBls {G : Gx} {F : Fz} {H : Hp} {ns : List Bool} {vs : List V} (h : ItV G F H (ns.map O.t) vs) : vs = ns.map V.bl := by
  have el := h.1
  rw [List.length_map] at el
  refine List.ext_getElem? fun j => ?_
  by_cases hj : j < ns.length
  · obtain ⟨v, hv, hw⟩ := h.2 j (O.t ns[j]) (by rw [List.getElem?_map, List.getElem?_eq_getElem hj]; rfl)
    have : v = .bl ns[j] := (show _ ∧ _ from hw).2
    rw [hv, this, List.getElem?_map, List.getElem?_eq_getElem hj]
    rfl
  · rw [List.getElem?_eq_none (by omega), List.getElem?_eq_none (by rw [List.length_map]; omega)]
/-- a list on top: its place, its items -/
theorem Sv.listTop {F : Fz} {H : Hp} {Ts : List O} {ts : List V} {S : List (Option O)} {σ : L2.St} {o : O} {v : V} {os : List O} (s : Sv c F H (o :: Ts) (v :: ts) S σ) (h : o.its = some os) (t : o.isL = true) :
    ∃ (F' : Fz) (p : Addr) (vs : List V), Sv c F' H Ts ts S σ ∧ v = .ref p ∧ SqL c.G.K H p vs ∧ ItV c.G F' H os vs := by
  obtain ⟨F', p, vs, h⟩ := Sv.items (o := o) (Ts := Ts) (ts := ts) s h
  rcases h with ⟨_, _, s', ev, hs, _, hi, _⟩ | ⟨h1, h2, p, vs, ev, hs, hi⟩
  · rw [if_pos t] at hs
    exact ⟨F', p, vs, s'.pop, ev, hs, hi⟩
  · exact ⟨F, p, vs, s.pop, ev, hs, hi⟩
def uSum : U1 := ⟨fun a Q => ∃ ns : List Int, a.its = some (ns.map O.i) ∧ a.isL = true ∧ Q (O.i ns.sum), fun hq ⟨ns, e, t, q⟩ => ⟨ns, e, t, hq _ q⟩⟩
theorem se_sum {p : Pos} (hK : X.K = c.G.K) (hc : X.calm = true) (hm : X.mg "sum" = none) (ha : SA X c W [a] q) (hg : Gl X "sum" := by rfl) (he : starEach [a] X.env = (false, eval a X.env) :: starEach [] X.env := by rfl) : SE X c W (.Call (.Name "sum" p) [a] [] pos) (wA q (uA1 uSum)) :=
  se_cB (x := "sum") (cr_sum hc) (by
    rw [hK]
    intro F H Ts ts S σ os vs Q s e ⟨a, ea, ns, ei, t, z⟩
    subst ea
    obtain ⟨v, rfl⟩ := len1 e
    obtain ⟨F1, p, vs, s1, ev, hs, hi⟩ := Sv.listTop (Ts := Ts) (ts := ts) s ei t
    have := hi.ofInts
    subst this ev
    exact ⟨p, ns, rfl, hs, z F1 H _ (s1.pushIm rfl)⟩) hg hm (by decide +kernel) ha (he := he)
def uMaxL : U1 := ⟨fun a Q => ∃ ns : List Int, a.its = some (ns.map O.i) ∧ a.isL = true ∧ 0 < ns.length ∧ ∀ m, m ∈ ns → (∀ y, y ∈ ns → y ≤ m) → Q (O.i m), fun hq ⟨ns, e, t, l, q⟩ => ⟨ns, e, t, l, fun m h1 h2 => hq _ (q m h1 h2)⟩⟩
theorem se_maxL {p : Pos} (hK : X.K = c.G.K) (hc : X.calm = true) (hm : X.mg "max" = none) (ha : SA X c W [a] q) (hg : Gl X "max" := by rfl) (he : starEach [a] X.env = (false, eval a X.env) :: starEach [] X.env := by rfl) : SE X c W (.Call (.Name "max" p) [a] [] pos) (wA q (uA1 uMaxL)) :=
  se_cB (x := "max") (cr_max hc) (by
    rw [hK]
    intro F H Ts ts S σ os vs Q s e ⟨a, ea, ns, ei, t, l, z⟩
    subst ea
    obtain ⟨v, rfl⟩ := len1 e
    obtain ⟨F1, p, vs, s1, ev, hs, hi⟩ := Sv.listTop (Ts := Ts) (ts := ts) s ei t
    have := hi.ofInts
    subst this ev
    exact ⟨p, ns, rfl, hs, l, fun m h1 h2 => z m h1 h2 F1 H _ (s1.pushIm rfl)⟩) hg hm (by decide +kernel) ha (he := he)
def uAll : U1 := ⟨fun a Q => ∃ bs : List Bool, a.its = some (bs.map O.t) ∧ a.isL = true ∧ Q (O.t (bs.all id)), fun hq ⟨ns, e, t, q⟩ => ⟨ns, e, t, hq _ q⟩⟩
theorem se_all {p : Pos} (hK : X.K = c.G.K) (hc : X.calm = true) (hm : X.mg "all" = none) (ha : SA X c W [a] q) (hg : Gl X "all" := by rfl) (he : starEach [a] X.env = (false, eval a X.env) :: starEach [] X.env := by rfl) : SE X c W (.Call (.Name "all" p) [a] [] pos) (wA q (uA1 uAll)) :=
  se_cB (x := "all") (cr_all hc) (by
    rw [hK]
    intro F H Ts ts S σ os vs Q s e ⟨a, ea, ns, ei, t, z⟩
    subst ea
    obtain ⟨v, rfl⟩ := len1 e
    obtain ⟨F1, p, vs, s1, ev, hs, hi⟩ := Sv.listTop (Ts := Ts) (ts := ts) s ei t
    have := hi.ofBls
    subst this ev
    exact ⟨p, ns, rfl, hs, z F1 H _ (s1.pushIm rfl)⟩) hg hm (by decide +kernel) ha (he := he)
abbrev uMax2 : U2 := uI (fun _ _ => True) fun i j => if j > i then j else i
abbrev uMin2 : U2 := uI (fun _ _ => True) fun i j => if j < i then j else i
theorem se_max2 {p : Pos} (hc : X.calm = true) (hm : X.mg "max" = none) (ha : SA X c W [a, b] q) (hg : Gl X "max" := by rfl) (he : starEach [a, b] X.env = (false, eval a X.env) :: starEach [b] X.env := by rfl) (hpl : (backTo pos (starEach [b] X.env)).any (·.1) = false := by rfl) :
    SE X c W (.Call (.Name "max" p) [a, b] [] pos) (wA q (uA2 uMax2)) :=
  se_cB (x := "max") (call_max2 hc) (fun F H Ts ts S σ os vs Q s e ⟨a, b, ea, i, j, ei, ej, _, z⟩ => by
    subst ea ei ej
    obtain ⟨v, w, rfl⟩ := len2 e
    have s0 : Sv c F H (O.i i :: O.i j :: Ts) (v :: w :: ts) S σ := s
    have e1 := s0.int
    have e2 := s0.pop.int
    subst e1 e2
    exact ⟨i, j, rfl, z F H _ (s0.pop.pop.pushIm rfl)⟩) hg hm (by decide +kernel) ha (he := he) (hpl := hpl)
theorem se_min2 {p : Pos} (hc : X.calm = true) (hm : X.mg "min" = none) (ha : SA X c W [a, b] q) (hg : Gl X "min" := by rfl) (he : starEach [a, b] X.env = (false, eval a X.env) :: starEach [b] X.env := by rfl) (hpl : (backTo pos (starEach [b] X.env)).any (·.1) = false := by rfl) :
    SE X c W (.Call (.Name "min" p) [a, b] [] pos) (wA q (uA2 uMin2)) :=
  se_cB (x := "min") (call_min2 hc) (fun F H Ts ts S σ os vs Q s e ⟨a, b, ea, i, j, ei, ej, _, z⟩ => by
    subst ea ei ej
    obtain ⟨v, w, rfl⟩ := len2 e
    have s0 : Sv c F H (O.i i :: O.i j :: Ts) (v :: w :: ts) S σ := s
    have e1 := s0.int
    have e2 := s0.pop.int
    subst e1 e2
    exact ⟨i, j, rfl, z F H _ (s0.pop.pop.pushIm rfl)⟩) hg hm (by decide +kernel) ha (he := he) (hpl := hpl)
abbrev uShl : U2 := uI CPow fun i j => i * 2 ^ j.toNat
theorem se_shl (ha : SE X c W a pa) (hb : SE X c W b pb) : SE X c W (.BinOp a .LShift b pos) (w2 pa pb uShl) := se_op op_shl fit_I ha hb
/-- is None -/
def D.isN : D → Option Bool
  | .non => some true
  | .int _ => some false
  | .bl _ => some false
  | .str _ => some false
  | .tup _ => some false
  | .lst _ => some false
  | .kd _ => some false
  | .exn _ => some false
  | .dic => some false
  | _ => none
theorem D.isN_v {G : Gx} {F H : Hp} {d : D} {v : V} {b : Bool} (h : Re G F H d v) (e : d.isN = some b) : decide (v = .non) = b := by
  have rf : ∀ a : Addr, decide (V.ref a = V.non) = false := fun a => decide_eq_false (fun z => by cases z)
  cases d with
  | non => cases e; exact decide_eq_true (show v = .non from h)
  | int i => cases e; have h : v = .int i := h; subst h; exact decide_eq_false (fun z => by cases z)
  | bl i => cases e; have h : v = .bl i := h; subst h; exact decide_eq_false (fun z => by cases z)
  | str i => cases e; have h : v = .str i := h; subst h; exact decide_eq_false (fun z => by cases z)
  | tup ds => cases e; obtain ⟨a, _, ev, _⟩ := h; subst ev; exact rf a
  | lst ds => cases e; obtain ⟨a, _, ev, _⟩ := h; subst ev; exact rf a
  | exn x => cases e; obtain ⟨a, _, ev, _⟩ := h; subst ev; exact rf a
  | dic => cases e; obtain ⟨a, ev, _⟩ := h; subst ev; exact rf a
  | kd k =>
    cases e
    cases k with
    | b k =>
      cases k with
      | fr => obtain ⟨p, dx, ev, q⟩ := h; subst ev; exact rf p
      | rs r => obtain ⟨p, dx, ev, q⟩ := h; subst ev; exact rf p
    | po r => obtain ⟨p, dx, u, ev, q, _⟩ := h; subst ev; exact rf p
  | scr _ => cases e
  | obj _ => cases e
  | lsa _ _ => cases e
def uIsN (neg : Bool) : U2 := ⟨fun a b Q => b = O.n ∧ ∃ k, a.er.isN = some k ∧ Q (O.t (neg ^^ k)), fun hq ⟨e, k, h, q⟩ => ⟨e, k, h, hq _ q⟩⟩
theorem fit_isN : Fit2 c (fun x y H Q => y = V.non ∧ Q (.bl (decide (x = .non))) H) (uIsN false) := fun F H Ts ts S σ a b x y Q s ⟨eb, k, hk, z⟩ => by
  subst eb
  have ey : y = .non := s.topIm
  have hx := D.isN_v s.pop.topEr hk
  refine ⟨ey, ?_⟩
  rw [hx]
  have := z F H _ (s.pop.pop.pushIm rfl)
  rw [Bool.false_xor] at this
  exact this
theorem fit_notN : Fit2 c (fun x y H Q => y = V.non ∧ Q (.bl (!decide (x = .non))) H) (uIsN true) := fun F H Ts ts S σ a b x y Q s ⟨eb, k, hk, z⟩ => by
  subst eb
  have ey : y = .non := s.topIm
  have hx := D.isN_v s.pop.topEr hk
  refine ⟨ey, ?_⟩
  rw [hx]
  have := z F H _ (s.pop.pop.pushIm rfl)
  rw [Bool.true_xor] at this
  exact this
theorem se_isN (ha : SE X c W a pa) (hb : SE X c W b pb) : SE X c W (.Compare a [.Is] [b] pos) (w2 pa pb (uIsN false)) := se_cmp op_isN fit_isN ha hb (nomark _)
theorem se_notN (ha : SE X c W a pa) (hb : SE X c W b pb) : SE X c W (.Compare a [.IsNot] [b] pos) (w2 pa pb (uIsN true)) := se_cmp op_notN fit_notN ha hb (nomark _)
theorem st_isN (ha : SE X c W a pa) (hb : SE X c W b pb) : ST X c W (.Compare a [.Is] [b] pos) (wT (w2 pa pb (uIsN false))) := st_cmp op_isN fit_isN ha hb (nomark _)
theorem st_notN (ha : SE X c W a pa) (hb : SE X c W b pb) : ST X c W (.Compare a [.IsNot] [b] pos) (wT (w2 pa pb (uIsN true))) := st_cmp op_notN fit_notN ha hb (nomark _)
end
end PL

/-! P31 -/
set_option Elab.async false
set_option linter.all false
set_option maxRecDepth 100000
set_option maxHeartbeats 4000000
/-! P31: a target that nothing reads: its slot tells nothing. -/
namespace PL
open PySem PySem.Spec L2 PyProof PyProof.Rows
theorem SlL.dead {G : Gx} {F H : Hp} {x : Option V} : ∀ {S : List (Option O)} {σ : L2.St} {C : List Addr} {i : Nat}, SlL G F H (S.set i none) σ C → SlL G F H (S.set i none) (σ.set i x) C
  | [], σ, C, i, ⟨e, h⟩ => by subst e; exact ⟨rfl, h⟩
  | o :: S, σ, C, 0, ⟨y, τ, e, r⟩ => by subst e; exact ⟨x, τ, rfl, r⟩
  | none :: S, σ, C, i + 1, ⟨y, τ, e, r⟩ => by subst e; exact ⟨y, _, rfl, SlL.dead r⟩
  | some o :: S, σ, C, i + 1, ⟨v, τ, B, D, e, eC, h, r⟩ => by subst e; exact ⟨v, _, B, D, rfl, eC, h, SlL.dead r⟩
theorem Sv.dead {c : Cc} {F : Fz} {H : Hp} {Ts : List O} {ts : List V} {S : List (Option O)} {σ : L2.St} {o : O} {v : V} (s : Sv c F H (o :: Ts) (v :: ts) S σ) (i : Nat) : Sv c F H Ts ts (S.set i none) (σ.set i (some v)) := by
  have s' := s.pop.drop i
  obtain ⟨A, C, hA, hC, r⟩ := s'.own
  exact ⟨s'.ext, s'.fb, s'.bh, s'.old, s'.dom, A, C, hA, hC.dead, r⟩
def gD (i : Nat) : WG := ⟨fun _ S Q => Q (S.set i none), fun hq h => hq _ h⟩
theorem gok_D {c : Cc} {i : Nat} {vs : List Nat} (hi : i ∈ vs) : GOk c (gName i) (gD i) vs := fun F H Ts ts S σ o x K s h =>
  h F _ (s.dead i) (wipe_set hi) (wipeS_set hi)
/-! xs + ys where xs is the script itself -/
def rCatS (K : PySem.W.Frag) : R2 := fun x y H Q => ∃ l b xs zs, x = V.ref l ∧ y = V.ref b ∧ SqL K H l xs ∧ SqL K H b zs ∧ xs.length + zs.length ≤ sizeLine ∧ ∀ p, H p = none → Q (.ref p) (upd H p (.lst (xs ++ zs)))
section
variable {X : Cx} {c : Cc} {W : WX} {pos : Pos}
theorem op_catS : OpR X (binaryOp .Add) (rCatS X.K) := by
  intro pins s σ H x y v u Q I rx ry h
  obtain ⟨a, b, xs, zs, rfl, rfl, hs, hb, hz, q⟩ := h
  obtain rfl : v = Value.ref a := rx
  obtain rfl : u = Value.ref b := ry
  obtain ⟨its, rv, ⟨⟨cls, dd, data, sl⟩, k, ho, hc, hdn, hd⟩, hlen⟩ := I.list hs
  obtain ⟨its2, rv2, ⟨⟨cls2, dd2, data2, sl2⟩, k2, ho2, hc2, hdn2, hd2⟩, hlen2⟩ := I.list hb
  have hc1 : cls = Value.type "list" := hc
  have hd1 : data = Data.seq its.toArray k := hd
  have hc3 : cls2 = Value.type "list" := hc2
  have hd3 : data2 = Data.seq its2.toArray k2 := hd2
  subst hc1 hd1 hc3 hd3
  have ea : its.toArray ++ its2.toArray = (its ++ its2).toArray := by simp
  refine concat_meets ⟨_, ho, rfl⟩ ⟨_, ho2, rfl⟩ noFill_list_add seq_list_add PySem.F.slot_list_add PySem.F.entry_list_add (PySem.F.args_list_add_2 _ _) (list_addW a b its.toArray its2.toArray k k2 dd dd2 sl sl2 (by rw [List.size_toArray, List.size_toArray, ← rv.length, ← rv2.length]; exact hz)) ⟨ho, ho2, ?_⟩
  rw [ea]
  exact ⟨.ref s.heap.objs.size, upd H s.heap.objs.size (.lst (xs ++ zs)), I.lnew (t' := s.toks) (rv.append rv2) (by rw [List.length_append]; omega), rfl, q _ I.fresh⟩
def uCatS : U2 := ⟨fun a b Q => ∃ ns us, a = .im (.scr ns) ∧ b.its = some us ∧ b.isTrk = true ∧ ns.length + us.length ≤ sizeLine ∧ Q (mkL (ns.map O.i ++ us)), fun hq ⟨os, us, e1, e2, e3, z, q⟩ => ⟨os, us, e1, e2, e3, z, hq _ q⟩⟩
theorem fit_catS : Fit2 c (rCatS c.G.K) uCatS := fun F H Ts ts S σ a b x y Q s ⟨ns, us, e1, e2, t2, z, q⟩ => by
  subst e1
  obtain ⟨F2, p2, vs2, h2⟩ := s.items e2
  rcases h2 with ⟨_, _, s2, ev2, _, k2, i2, _⟩ | ⟨h1, h2, _⟩
  · obtain ⟨F3, p3, vs3, h3⟩ := s2.pop.items (o := .im (.scr ns)) rfl
    rcases h3 with ⟨f3, g3, s3, ev3, k3, _, i3, _⟩ | ⟨_, _, pp, vv, ev3, k3, i3⟩
    · subst ev2 ev3
      rw [if_pos (show (O.im (D.scr ns)).isL = true from rfl)] at k3
      have i4 := i3.app (i2.mono f3 g3)
      refine ⟨p3, p2, vs3, vs2, rfl, rfl, k3, SqL.of (k2 t2), by rw [← i2.1, ← i3.1, List.length_map]; exact z, fun r n => let ⟨F4, _, s4⟩ := (s3.pop.pushN i4).mkL i4.1 (by rw [List.length_append, List.length_map]; exact z) n; q F4 _ _ s4⟩
    · subst ev2 ev3
      have i4 := i3.app i2
      refine ⟨pp, p2, vv, vs2, rfl, rfl, k3, SqL.of (k2 t2), by rw [← i2.1, ← i3.1, List.length_map]; exact z, fun r n => let ⟨F4, _, s4⟩ := (s2.pop.pop.pushN i4).mkL i4.1 (by rw [List.length_append, List.length_map]; exact z) n; q F4 _ _ s4⟩
  · rw [t2] at h2; cases h2
theorem se_catS {a b : Expr} {pa pb : W1 O} (hK : X.K = c.G.K) (ha : SE X c W a pa) (hb : SE X c W b pb) : SE X c W (.BinOp a .Add b pos) (w2 pa pb uCatS) := se_op (r := rCatS c.G.K) (by rw [← hK]; exact op_catS) fit_catS ha hb
end
end PL

/-! P32 -/
set_option Elab.async false
set_option linter.all false
set_option maxRecDepth 100000
set_option maxHeartbeats 4000000
/-! P32: list(reversed(x)). -/
namespace PL
open PySem PySem.Spec L2 PyProof.Rows RT
section
variable {prog : Program} {w : World} {A : Around} {E : Value → Shared → Prop} {s : Shared}
theorem wpAny_extend_rev {R : Result → Shared → Prop} {it l : Addr} {items : Array Value} (hh : A.handled = none) (hit : s.heap.IsRevIter it l ((items.size : Int) - 1)) (hl : s.heap.IsList l items) (hne : l ≠ it) (hn : items.size ≤ sizeLine)
    (S : Addr) (res : Value) (c₀ : Nat) (hS : s.heap.get? S = some { cls := .type "list", data := .seq #[] c₀ }) (hSi : S ≠ it) (hSl : S ≠ l)
    (hR : ∀ h' tk acc' c', (∀ b o, b ≠ S → b ≠ it → s.heap.get? b = some o → h'.get? b = some o) → h'.get? S = some { cls := .type "list", dict := none, data := .seq acc' c', slots := #[] } →
      ItemsOf (fun i v => items[items.size - 1 - i]? = some v) acc' items.size → R (.ok (.ret res)) { s with heap := h', toks := tk }) :
    wpAny (model prog w) A.in1 (Builtin.List.listExtendWith (.ref S) (.ref it) res)
      (fun fin s' => match fin with | .done f => R (.ok f) s' | .again c' => c'.quiet = true ∧ codeAny (model prog w) A c' R s') (fun e s' => R (.error e) s') s := by
  have W := (Walks.listRev (prog := prog) (w := w) (A := A.in1) hh it l hne items).toS
  have hSf : S ∉ [it, l] := by simp only [List.mem_cons, List.not_mem_nil, or_false, not_or]; exact ⟨hSi, hSl⟩
  have hT : s.TypeIs (.ref it) "list_reverseiterator" := hit.typeIs
  have h1 : Builtin.List.listSameRef (.ref S) (.ref it) = false := by simp [Builtin.List.listSameRef, hSi]
  unfold Builtin.List.listExtendWith
  refine wpAny_bind (wpAny_typeOf hT ?_)
  rw [if_neg (by rw [h1]; decide)]
  refine wpAny_bind (wpAny_pyIter_revIter hit ?_)
  refine wpAny_bind (wpAny_holding ?_)
  unfold Builtin.List.listLengthHint
  refine wpAny_bind (wpAny_specialOf hT nolen_lri ?_)
  show wpAny _ A.in1 (specialOf (Value.ref it) (Str.ofString "__length_hint__") >>= _) _ _ _
  refine wpAny_bind (wpAny_specialOf hT hint_lri ?_)
  generalize hid : ("list_reverseiterator.__length_hint__" : String) = id0
  wp_delta
  rw [show splitId id0 = some ("list_reverseiterator", "__length_hint__") from by subst hid; decide +kernel]
  subst hid
  refine wpAny_bind (wpAny_isInstance (b := true) hT (by rw [isSubtype_type]; kernel_rfl) ?_)
  refine wpAny_pure ?_
  rw [if_neg (by decide)]
  have e0 : ((items.size : Nat) : Int) - 1 - ((0 : Nat) : Int) = (items.size : Int) - 1 := by omega
  refine wpAny_pure ⟨plainId_quiet F.plain_extend_loop _, codeAny_extend_loopS W hn S hSf res items.size 0 _ #[] c₀ rfl (Nat.zero_le _) ⟨Nat.zero_le _, by rw [e0]; exact hit, hl⟩ hS (ItemsOf.nil _) fun s' acc' c' hm hS' hacc => ?_⟩
  rw [Moved.eq_with hm]
  refine hR s'.heap s'.toks acc' c' (fun b o hb hbi e => hm.heap b o (fun hmem => ?_) e) hS' hacc
  rcases List.mem_cons.mp hmem with e' | hmem
  · exact hb e'
  · exact hbi (List.mem_singleton.mp hmem)
theorem wpAny_list_init_rev {R : Result → Shared → Prop} {it l : Addr} {items : Array Value} (hh : A.handled = none) (hit : s.heap.IsRevIter it l ((items.size : Int) - 1)) (hl : s.heap.IsList l items) (hne : l ≠ it) (hn : items.size ≤ sizeLine)
    (S : Addr) (hS : s.heap.get? S = some { cls := .type "list", data := .seq #[] }) (hSi : S ≠ it) (hSl : S ≠ l)
    (hR : ∀ h' tk acc' c', (∀ b o, b ≠ S → b ≠ it → s.heap.get? b = some o → h'.get? b = some o) → h'.get? S = some { cls := .type "list", dict := none, data := .seq acc' c', slots := #[] } →
      ItemsOf (fun i v => items[items.size - 1 - i]? = some v) acc' items.size → R (.ok (.ret .none)) { s with heap := h', toks := tk }) :
    wpAny (model prog w) A.in1 (Builtin.«list.__init__» ⟨[.ref S, .ref it], []⟩)
      (fun fin s' => match fin with | .done f => R (.ok f) s' | .again c' => c'.quiet = true ∧ codeAny (model prog w) A c' R s') (fun e s' => R (.error e) s') s := by
  show wpAny _ _ (do let old ← Builtin.List.listItems (.ref S); Builtin.List.listUpdate (.ref S) (fun _ => #[]); letGo old.toList.reverse; Builtin.List.listExtendWith (.ref S) (.ref it) .none) _ _ s
  refine wpAny_bind ?_
  unfold Builtin.List.listItems
  refine wpAny_bind (wpAny_seqItems hS rfl (wpAny_pure ?_))
  show wpAny _ _ (updateSeq S (fun _ => #[]) >>= fun _ => letGo (#[] : Array Value).toList.reverse >>= fun _ => Builtin.List.listExtendWith (.ref S) (.ref it) .none) _ _ s
  refine wpAny_bind (wpAny_updateSeq hS rfl ?_)
  have hS₂ := Heap.get?_update_self (Obj.mapSeq (fun _ => (#[] : Array Value))) hS rfl
  have oth : ∀ b o, b ≠ S → s.heap.get? b = some o → (s.heap.update S (Obj.mapSeq (fun _ => (#[] : Array Value)))).get? b = some o :=
    fun b o hb e => (Heap.get?_update_other _ _ (Ne.symm hb)).trans e
  refine wpAny_bind (wpAny_letGo ?_)
  obtain ⟨ol, hol, hl2⟩ := id hl
  refine wpAny_extend_rev hh (hit.at fun o e => oth it o (Ne.symm hSi) e) ⟨ol, oth l ol (Ne.symm hSl) hol, hl2⟩ hne hn S .none _ hS₂ hSi hSl fun h' tk acc' c' hk hS' hacc => ?_
  exact hR h' tk acc' c' (fun b o hb hbi e => hk b o hb hbi (oth b o hb e)) hS' hacc
theorem call_list_rev {it l : Addr} {items : Array Value} {Q : Value → Shared → Prop} (hh : A.handled = none) (hit : s.heap.IsRevIter it l ((items.size : Int) - 1)) (hl : s.heap.IsList l items) (hne : l ≠ it) (hn : items.size ≤ sizeLine)
    (hQ : ∀ h' tk acc' c', (∀ b o, b ≠ it → s.heap.get? b = some o → h'.get? b = some o) → h'.get? s.heap.objs.size = some { cls := .type "list", dict := none, data := .seq acc' c', slots := #[] } →
      ItemsOf (fun i v => items[items.size - 1 - i]? = some v) acc' items.size → Q (.ref s.heap.objs.size) { s with heap := h', toks := tk }) :
    wpAny (model prog w) A (call (.type "list") [.ref it]) Q E s := by
  obtain ⟨oi, hoi, _⟩ := id hit
  obtain ⟨ol, hol, _⟩ := id hl
  have hSi : s.heap.objs.size ≠ it := Nat.ne_of_gt (Heap.lt_size hoi)
  have hSl : s.heap.objs.size ≠ l := Nat.ne_of_gt (Heap.lt_size hol)
  refine callType_codes (Q₁ := fun obj s₁ => obj = .ref s.heap.objs.size ∧ s₁ = { s with heap := s.heap.push { cls := .type "list", data := .seq #[] } }) F.called_list (F.typeCall_list_1 _) F.entry_list_init
    (code_list_new _ ⟨rfl, rfl⟩) fun obj s₁ h₁ => ?_
  obtain ⟨rfl, rfl⟩ := h₁
  have hS : (s.heap.push { cls := .type "list", data := .seq #[] }).get? s.heap.objs.size = some { cls := .type "list", data := .seq #[] } := Heap.get?_push_size _ rfl
  refine ⟨⟨_, hS, rfl⟩, F.args_list_init_2 _ _, wpAny_list_init_rev (A := A.in1) hh (hit.at fun o e => Heap.get?_push_of_some _ e) (hl.push _) hne hn _ hS hSi hSl fun h' tk acc' c' hk hS' hacc => ?_⟩
  exact ⟨rfl, hQ h' tk acc' c' (fun b o hb e => hk b o (Nat.ne_of_lt (Heap.lt_size e)) hb (Heap.get?_push_of_some _ e)) hS' hacc⟩
end
section
variable {X : Cx} {c : Cc} {W : WX} {a : Expr} {pa : W1 O} {pos : Pos}
def tLstRev (K : PySem.W.Frag) (te : TE) : TE := fun σ H Q => te σ H fun v H1 => ∃ (a : Addr) (xs : List V), v = .ref a ∧ SqL K H1 a xs ∧ ∀ q, H1 q = none → Q (.ref q) (upd H1 q (.lst xs.reverse))
theorem pe_lstRev {e : Expr} {te : TE} {p p2 pos pos2 : Pos} (hc : X.calm = true) (hg : Gl X "list") (hm : X.mg "list" = none) (hg2 : Gl X "reversed") (hm2 : X.mg "reversed" = none) (he : PE X e te)
    (hs : starEach [e] X.env = (false, eval e X.env) :: starEach [] X.env := by rfl)
    (hs2 : starEach [.Call (.Name "reversed" p2) [e] [] pos2] X.env = (false, eval (.Call (.Name "reversed" p2) [e] [] pos2) X.env) :: starEach [] X.env := by rfl) :
    PE X (.Call (.Name "list" p) [.Call (.Name "reversed" p2) [e] [] pos2] [] pos) (tLstRev X.K te) := by
  refine ⟨fun pins s σ H Q I h => ?_⟩
  refine Call_ (ld_blt I hg hm boot_list (PyProof.Rows.callWith_type1 (args_cons (Call_ (ld_blt I hg2 hm2 PyProof.Rows.boot_reversed (PyProof.Rows.callWith_type1 (args_cons (thn (he.run pins s σ H _ I h) fun u s1 ⟨v, H1, I1, r1, q1⟩ => args_nil ?_) hs) hs rfl))) hs2) hs2 rfl))
  obtain ⟨a, xs, ev, hq, q⟩ := q1
  subst ev
  obtain rfl : u = Value.ref a := r1
  obtain ⟨its, rv, p', hz⟩ := I1.list hq
  refine call_reversed_list p'.isList (args_nil ?_)
  have k0 : ∀ b o, s1.heap.get? b = some o → (s1.heap.push (revObj a ((its.toArray.size : Int) - 1))).get? b = some o := fun b o e => Heap.get?_push_of_some _ e
  have I2 : Inv X pins σ H1 { s1 with heap := s1.heap.push (revObj a ((its.toArray.size : Int) - 1)) } := I1.kept (t' := s1.toks) k0
  obtain ⟨f0, f1, f2, f3, f4, f5⟩ := I1.fpOk (H' := H1) (b := s1.heap.objs.size) (Nat.le_refl _) (I1.hok.fresh (Nat.le_refl _))
  have hl := p'.isList
  obtain ⟨ol, hol, _⟩ := id hl
  have hne : a ≠ s1.heap.objs.size := Nat.ne_of_lt (Heap.lt_size hol)
  have hn : its.toArray.size ≤ sizeLine := by rw [List.size_toArray, ← rv.length]; exact hz
  refine call_list_rev (s := { s1 with heap := s1.heap.push (revObj a ((its.toArray.size : Int) - 1)) }) (I1.ok.hd hc) ⟨_, Heap.get?_push_size _ rfl, rfl, rfl⟩ (hl.push _) hne hn fun h' tk acc c' hk e' hi => ?_
  have hsz : (s1.heap.push (revObj a ((its.toArray.size : Int) - 1))).objs.size = s1.heap.objs.size + 1 := by
    unfold Heap.push
    exact Array.size_push _
  have kk : ∀ b o, s1.heap.get? b = some o → h'.get? b = some o := fun b o e => hk b o (Nat.ne_of_lt (Heap.lt_size e)) (k0 b o e)
  refine ⟨.ref (s1.heap.push (revObj a ((its.toArray.size : Int) - 1))).objs.size, upd H1 (s1.heap.push (revObj a ((its.toArray.size : Int) - 1))).objs.size (.lst xs.reverse), I1.laid (t' := tk) kk (by rw [hsz]; omega) (show ObjOk X.prog X.w _ _ _ (.lst xs.reverse) from ⟨by rw [List.length_reverse]; exact hz, acc.toList, c', vals_rev rv hi, ?_⟩), rfl, q _ (I1.hok.fresh (by rw [hsz]; omega))⟩
  rw [Array.toArray_toList]
  exact e'
/-- list(reversed(x)) -/
def wLRev (p : W1 O) : W1 O := ⟨fun S Q E => p.run S (fun o => ∃ os, o.its = some os ∧ o.isTrk = true ∧ Q (mkL os.reverse)) E, fun hq he h => p.mono (fun o ⟨os, e, t, z⟩ => ⟨os, e, t, hq _ z⟩) he h⟩
theorem ItV.rev {G : Gx} {F : Fz} {H : Hp} {os : List O} {vs : List V} (h : ItV G F H os vs) : ItV G F H os.reverse vs.reverse := by
  obtain ⟨e, h⟩ := h
  refine ⟨by rw [List.length_reverse, List.length_reverse]; exact e, fun j o q => ?_⟩
  have hj := (List.getElem?_eq_some_iff.mp q).1
  rw [List.length_reverse] at hj
  rw [List.getElem?_reverse hj] at q
  obtain ⟨v, e1, h1⟩ := h _ o q
  exact ⟨v, by rw [List.getElem?_reverse (by omega), ← e]; exact e1, h1⟩
theorem se_lrev {p p2 pos2 : Pos} (hK : X.K = c.G.K) (hc : X.calm = true) (hm : X.mg "list" = none) (hm2 : X.mg "reversed" = none) (ha : SE X c W a pa) (hg : Gl X "list" := by rfl) (hg2 : Gl X "reversed" := by rfl) (he : starEach [a] X.env = (false, eval a X.env) :: starEach [] X.env := by rfl)
    (he2 : starEach [.Call (.Name "reversed" p2) [a] [] pos2] X.env = (false, eval (.Call (.Name "reversed" p2) [a] [] pos2) X.env) :: starEach [] X.env := by rfl) :
    SE X c W (.Call (.Name "list" p) [.Call (.Name "reversed" p2) [a] [] pos2] [] pos) (wLRev pa) :=
  PE.imp (pe_lstRev hc hg hm hg2 hm2 ha he he2) fun σ H Q ⟨F, S, Ts, ts, s, h⟩ => by
    refine ⟨F, S, Ts, ts, s, pa.mono (fun o ⟨os, e, t, z⟩ F1 H1 v s1 => ?_) (fun e z => z) h⟩
    obtain ⟨F', pp, vs, hh⟩ := s1.items e
    rcases hh with ⟨_, _, s', ev, hs, _, hi, hz⟩ | ⟨h1, h2, pp, vs, ev, hs, hi⟩
    · rw [if_pos (O.isTrk_isL t)] at hs
      refine ⟨pp, vs, ev, by rw [hK]; exact hs, fun r nr => ?_⟩
      have hi2 := hi.rev
      obtain ⟨F4, _, s4⟩ := (s'.pop.pushN hi2).mkL hi2.1 (by rw [List.length_reverse]; exact hz) nr
      exact z F4 _ _ s4
    · rw [t] at h2; cases h2
end
end PL

/-! P33 -/
set_option Elab.async false
set_option linter.all false
set_option maxRecDepth 100000
set_option maxHeartbeats 4000000
/-! P33: x[k].append(None), the other parts of x stay the frame's own. -/
namespace PL
open PySem PySem.Spec L2 PyProof.Rows
theorem OwL.takeObj {G : Gx} {F H : Hp} {o : O} : ∀ {os : List O} {vs : List V} {B : List Addr} {k : Nat}, OwL G F H os vs B → os[k]? = some o → ∃ v A C, vs[k]? = some v ∧ Ow G F H o v A ∧ OwL G F H (os.set k (.im (.obj v))) vs C ∧ (A ++ C).Perm B
  | [], _, _, k, _, h => by simp at h
  | a :: os, _, _, 0, ⟨v, vr, B1, B2, e, eB, h, t⟩, ha => by
    simp at ha
    subst ha e eB
    exact ⟨v, B1, B2, rfl, h, ⟨v, vr, [], B2, rfl, rfl, ⟨rfl, rfl⟩, t⟩, List.Perm.refl _⟩
  | a :: os, _, _, k + 1, ⟨v, vr, B1, B2, e, eB, h, t⟩, ha => by
    subst e eB
    obtain ⟨w, A, C, e1, h1, h2, h3⟩ := OwL.takeObj t (k := k) (by simpa using ha)
    refine ⟨w, A, B1 ++ C, by simpa using e1, h1, ⟨v, vr, B1, C, rfl, rfl, h, h2⟩, ?_⟩
    exact (List.perm_append_comm_assoc A B1 C).trans (List.Perm.append_left B1 h3)
section
variable {c : Cc} {F : Fz} {H : Hp} {Ts : List O} {ts : List V} {S : List (Option O)} {σ : L2.St}
theorem Sv.takeTp {os : List O} {k : Nat} {row : List O} {a : V} (s : Sv c F H (.tp os :: Ts) (a :: ts) S σ) (h : os[k]? = some (.ls row)) :
    ∃ v, (∃ p vs, a = .ref p ∧ H p = some (.tup vs) ∧ vs[k]? = some v) ∧ Sv c F H (.ls row :: .tp (os.set k (.im (.obj v))) :: Ts) (v :: a :: ts) S σ := by
  obtain ⟨A, C, ⟨v', vr, A1, A2, e, eA, ho, r⟩, hC, nd, no, nA, nC⟩ := s.own
  cases e
  subst eA
  obtain ⟨p, vs, ep, e2, z, ol⟩ := (show Ow c.G F.F H (.tp os) a A1 from ho.ow rfl)
  obtain ⟨v, B, D, g1, g2, g3, g4⟩ := ol.takeObj h
  have pm : (B ++ (D ++ A2)).Perm (A1 ++ A2) := by
    rw [← List.append_assoc]
    exact List.Perm.append_right A2 g4
  have pm2 : (B ++ (D ++ A2) ++ C).Perm (A1 ++ A2 ++ C) := List.Perm.append_right C pm
  refine ⟨v, ⟨p, vs, ep, e2, g1⟩, s.ext, s.fb, s.bh, s.old, s.dom, B ++ (D ++ A2), C, ⟨v, a :: ts, B, D ++ A2, rfl, rfl, Ow.vw g2, ⟨a, ts, D, A2, rfl, rfl, ?_, r⟩⟩, hC, (pm2.nodup_iff).mpr nd, fun x hx => no x (pm2.mem_iff.mp hx), fun x hx => nA x (pm.mem_iff.mp hx), nC⟩
  exact Ow.vw (show Ow c.G F.F H (.tp (os.set k (.im (.obj v)))) a D from ⟨p, vs, ep, e2, by rw [List.length_set]; exact z, g3⟩)
end
def sAppItK (i k : Nat) : WS := ⟨fun S D => ∃ os row, S[i]? = some (some (.tp os)) ∧ os[k]? = some (.ls row) ∧ row.length < sizeLine ∧ ∀ v, D.nx (S.set i (some (.tp (os.set k (.im (.obj v)))))), by
  rintro S D D' l ⟨a, w, e1, e2, e3, h⟩
  exact ⟨a, w, e1, e2, e3, fun v => l.nx _ (h v)⟩⟩
section
variable {X : Cx} {c : Cc} {W : WX} {pos : Pos}
theorem ss_appItK (i k : Nat) {x : Str} {p1 p2 p3 p4 apos cpos : Pos} {k4 k5 : Nat} (hN : X.N[i]? = some x := by rfl) (hv : Vis X.env.scope x := by first | exact Or.inl rfl | exact Or.inr (Or.inl rfl) | exact Or.inr (Or.inr rfl))
    (hd : (x == ("__debug__" : Str)) = false := by decide) (hcd : (x == ("__classdict__" : Str)) = false := by decide)
    (hp : PlainIx (.Constant (.int (k : Int)) k5 p1) := by exact fun _ _ => rfl)
    (hbase : attributeBase (.Subscript (.Name x p2) (.Constant (.int (k : Int)) k5 p1) p3) "append" X.env (eval (.Subscript (.Name x p2) (.Constant (.int (k : Int)) k5 p1) p3) X.env) = eval (.Subscript (.Name x p2) (.Constant (.int (k : Int)) k5 p1) p3) X.env := by rfl)
    (hfew : ((backTo cpos (starEach [.Constant .none k4 p4] X.env)).all (fun x => !x.1) && (backToKw cpos (keywordEach [] X.env)).all (fun x => x.1.isSome)
      && decide (([.Constant .none k4 p4] : List Expr).length + ([] : List Keyword).length + (if ([] : List Keyword).isEmpty then 0 else 1) < 30)) = true := by rfl)
    (hline : (apos.endLine == cpos.line) = true := by rfl) (hs : starEach [.Constant .none k4 p4] X.env = (false, eval (.Constant .none k4 p4) X.env) :: starEach [] X.env := by rfl) (hplain : (backTo cpos (starEach ([] : List Expr) X.env)).any (·.1) = false := by rfl)
    (hsw : swapsWith (.Call (.Attribute (.Subscript (.Name x p2) (.Constant (.int (k : Int)) k5 p1) p3) "append" apos) [.Constant .none k4 p4] [] cpos) none pos.line X.env = pure false := by rfl) :
    SS X c W (.Expr (.Call (.Attribute (.Subscript (.Name x p2) (.Constant (.int (k : Int)) k5 p1) p3) "append" apos) [.Constant .none k4 p4] [] cpos) pos) (sAppItK i k) :=
  PS.imp (ps_expr (pe_bm PySem.F.plainAttrs_list PySem.F.slot_list_append PySem.F.type_list_append mt_append (pe_ix ix_tup (pe_var hN hv hd hcd) pe_int hp) (pa_cons pe_non pa_nil hs) hbase hfew hline hs hplain) hsw) fun D σ H ⟨F, S, Ts, ts, nb, s, os, row, ea, ek, hz, q⟩ => by
    obtain ⟨v0, F1, _, e0, nbw, s1⟩ := s.move nb ea
    obtain ⟨A, ho⟩ := s1.top
    obtain ⟨a, vs, e1, e2, _, ol⟩ := (show Ow c.G F1.F H (.tp os) v0 A from ho)
    subst e1
    obtain ⟨D0, ys, g1, g2, g3, g4⟩ := ol.rowAt ek
    refine ⟨.ref a, e0, a, vs, (k : Int), .ref D0, rfl, rfl, SqT.of e2, by rw [atI_nat]; exact g1, .inl ⟨rfl, _, SqL.of g2⟩, D0, ys, .non, rfl, rfl, g2, by rw [g3]; exact hz, ?_⟩
    obtain ⟨v, ⟨p, vs', e1', e2', g5⟩, s2⟩ := s1.takeTp ek
    cases e1'
    rw [e2] at e2'
    cases e2'
    rw [g1] at g5
    cases g5
    have s3 := s2.popUpd rfl (D := D0) (u := .lst (ys ++ [.non])) (fun A0 h => by
      obtain ⟨D', ys', B, e, eA, _, hD, _, ol'⟩ := (show Ow c.G F1.F H (.ls row) (.ref D0) A0 from h)
      cases e
      subst eA
      simp) g2
    have hi : i < (S.set i none).length := by
      have := (List.getElem?_eq_some_iff.mp ea).1
      rw [List.length_set]
      exact this
    obtain ⟨F4, _, _, s4⟩ := s3.put rfl hi
    rw [List.set_set] at s4
    have es : List.set σ i (some (V.ref a)) = σ := by
      refine List.ext_getElem? fun j => ?_
      rw [List.getElem?_set]
      split
      · rename_i e
        subst e
        split
        · exact e0.symm
        · rename_i h
          have := (List.getElem?_eq_some_iff.mp e0).1
          omega
      · rfl
    rw [es] at s4
    exact q (.ref D0) F4 _ σ s4
/-- x.pop() -/
def sPop (i : Nat) : WS := ⟨fun S D => ∃ acc, S[i]? = some (some (.ls acc)) ∧ acc ≠ [] ∧ D.nx (S.set i (some (.ls acc.dropLast))), by
  rintro S D D' l ⟨a, e1, e2, h⟩
  exact ⟨a, e1, e2, l.nx _ h⟩⟩
theorem ss_pop (i : Nat) {x : Str} {p2 apos cpos : Pos} (hN : X.N[i]? = some x := by rfl) (hv : Vis X.env.scope x := by first | exact Or.inl rfl | exact Or.inr (Or.inl rfl) | exact Or.inr (Or.inr rfl))
    (hd : (x == ("__debug__" : Str)) = false := by decide) (hcd : (x == ("__classdict__" : Str)) = false := by decide)
    (hbase : attributeBase (.Name x p2) "pop" X.env (eval (.Name x p2) X.env) = eval (.Name x p2) X.env := by rfl)
    (hline : (apos.endLine == cpos.line) = true := by rfl)
    (hsw : swapsWith (.Call (.Attribute (.Name x p2) "pop" apos) [] [] cpos) none pos.line X.env = pure false := by rfl) :
    SS X c W (.Expr (.Call (.Attribute (.Name x p2) "pop" apos) [] [] cpos) pos) (sPop i) :=
  PS.imp (ps_expr (pe_bm0 PySem.F.plainAttrs_list PySem.F.slot_list_pop PySem.F.type_list_pop mt_pop (pe_var hN hv hd hcd) hbase hline) hsw) fun D σ H ⟨F, S, Ts, ts, nb, s, acc, ea, h0, q⟩ => by
    obtain ⟨p, xs, e1, e2, _⟩ := s.look nb ea
    refine ⟨_, e1, .inl ⟨rfl, _, SqL.of e2⟩, ?_⟩
    have s1 : Sv c F H (O.n :: Ts) (.non :: ts) S σ := s.pushIm rfl
    obtain ⟨D', xs', e3, e4, e5, up⟩ := s1.upSlot (nb_cons rfl nb) ea
    rw [e1] at e3
    cases e3
    have hz : acc.length ≤ sizeLine := by
      obtain ⟨v0, F9, _, e0, _, s9⟩ := s.move nb ea
      rw [e1] at e0
      cases e0
      obtain ⟨A, ho⟩ := s9.top
      obtain ⟨_, _, _, _, _, _, _, z, _⟩ := (show Ow c.G F9.F H (.ls acc) (.ref p) A from ho.ow rfl)
      exact z
    have hl0 : acc.length ≠ 0 := fun e => h0 (List.length_eq_zero_iff.mp e)
    obtain ⟨F', s2⟩ := up acc.dropLast xs'.dropLast (by rw [List.length_dropLast]; omega) (UpOk.pop e5)
    exact ⟨p, xs', xs'[xs'.length - 1]'(by omega), rfl, rfl, e4, List.getElem?_eq_getElem (by omega), q F' _ σ s2⟩
end
end PL

/-! P34 -/
set_option Elab.async false
set_option linter.all false
set_option maxRecDepth 100000
set_option maxHeartbeats 4000000
/-! P34: a call of what is borrowed; its answer may lean on that, so it is borrowed too. -/
namespace PL
open PySem PySem.Spec L2
section
variable {c : Cc} {F : Fz} {H : Hp} {Ts : List O} {ts : List V} {S : List (Option O)} {σ : L2.St}
theorem Sv.backBo (s : Sv c F H Ts ts S σ) {F2 H2 : Hp} (f : Same F.B F2) (k : Same H H2) (b : Same F2 H2) (d : ∀ a, H a ≠ none → F2 a = F.B a) {x : D} {v : V} (h : Re c.G F2 H2 x v) : Sv c ⟨F.F, F2⟩ H2 (.bo x :: Ts) (v :: ts) S σ := by
  obtain ⟨A, C, hA, hC, nd, no, nA, nC⟩ := s.own
  have stA : ∀ a ∈ A, F.F a = none ∧ H2 a = H a := fun a ha => by
    obtain ⟨h1, vs, e⟩ := hA.own a ha
    exact ⟨h1, (k a _ e).trans e.symm⟩
  have stC : ∀ a ∈ C, F.F a = none ∧ H2 a = H a := fun a ha => by
    obtain ⟨h1, vs, e⟩ := hC.own a ha
    exact ⟨h1, (k a _ e).trans e.symm⟩
  have s' : Sv c ⟨F.F, F2⟩ H2 Ts ts S σ := by
    refine ⟨s.ext, fun a o e => f a o (s.fb a o e), b, fun a o e => k a o (s.old a o e), s.dom, A, C, hA.monoK (F' := ⟨F.F, F2⟩) (Same.refl F.F) f (.of k) stA, hC.mono (Same.refl _) (.of k) stC, nd, no, fun a ha => ?_, fun a ha => ?_⟩
    · obtain ⟨_, vs, e⟩ := hA.own a ha
      exact (d a (by rw [e]; simp)).trans (nA a ha)
    · obtain ⟨_, vs, e⟩ := hC.own a ha
      exact (d a (by rw [e]; simp)).trans ((nC a ha).trans (stC a ha).2.symm)
  exact s'.pushBo h
end
section
variable {X : Cx} {c : Cc} {W : WX} {e : Expr} {es : List Expr} {q : W1 (List O)} {R : Ctr} {k : Nat} {f : Addr} {fd : FuncData} {ps : List Str} {x : Str} {p pos : Pos}
def wCallB (q : W1 (List O)) (R : Ctr) : W1 O := ⟨fun S Q E => q.run S (fun os => R.run (O.erL os) (fun o => ∃ d, o = .im d ∧ Q (.bo d)) E) E, fun hq he h => q.mono (fun os z => R.mono (fun o ⟨d, e, z⟩ => ⟨d, e, hq _ z⟩) he z) he h⟩
theorem se_callB (F : FnOk X.prog X.w X.K X.mg X.base (L2.CX X.prog X.w) k f fd ps (spOf c.G R)) (hr : Room k X.A) (tk : Takes X W) (hm : X.mg x = some (.ref f)) (hk : PySem.W.keepIn X.K (.ref f) = true) (hb : Binds X.K fd ps []) (ha : SA X c W (e :: es) q) (hg : Gl X x := by rfl)
    (hdb : (x == ("__debug__" : Str)) = false := by decide) (he : starEach (e :: es) X.env = (false, eval e X.env) :: starEach es X.env := by rfl) (hpl : (backTo pos (starEach es X.env)).any (·.1) = false := by rfl) :
    SE X c W (.Call (.Name x p) (e :: es) [] pos) (wCallB q R) :=
  PE.imp (pe_callS F hr hg hm hk hb (fun σ => passAt tk σ) ha hdb he hpl) fun σ H Q ⟨F, S, Ts, ts, s, h⟩ => ⟨F, S, Ts, ts, s, q.mono (fun os z F1 H1 vs s1 el => by
    obtain ⟨B, g, s2, r⟩ := s1.lend el
    refine ⟨B, _, s2.bh, r, R.mono (fun o zz F2 H2 v A h1 h2 h3 h4 h5 h6 h7 => ?_) (fun e z => ?_) z⟩
    · obtain ⟨d, eo, z⟩ := zz
      subst eo
      obtain ⟨_, hre⟩ := (show _ ∧ _ from h5)
      exact z _ _ _ (s2.backBo h1 h3 h2 h4 hre)
    · exact fun cls d H' k x => z cls d _ H' ((s1.popN el).grow (Same.refl _) k ((s1.popN el).sub.trans k) (fun _ _ => rfl)) x) (fun _ z => z) h⟩
theorem se_dB {j : Nat} (D : DOk X.prog X.w X.K X.mg X.base x k c.G R) (hr : Room j X.A) (hk : k ≤ j) (tk : Takes X W) (ha : SA X c W (e :: es) q) (hg : Gl X x := by rfl)
    (hdb : (x == ("__debug__" : Str)) = false := by decide) (he : starEach (e :: es) X.env = (false, eval e X.env) :: starEach es X.env := by rfl) (hpl : (backTo pos (starEach es X.env)).any (·.1) = false := by rfl) :
    SE X c W (.Call (.Name x p) (e :: es) [] pos) (wCallB q R) := by
  obtain ⟨f, fd, ps, F, hm, hkp, hb⟩ := D.ex
  exact se_callB F (hr.mono hk) tk hm hkp hb ha hg hdb he hpl
end
end PL

/-! P35 -/
set_option Elab.async false
set_option linter.all false
set_option maxRecDepth 100000
set_option maxHeartbeats 4000000
/-! P35: Polys(kind) is made. -/
namespace PL
open PySem PySem.Spec L2
def spMkP (G : Gx) : Sp := fun vs H Q _ => ∃ (x dx : Addr) (u : V), vs = [.ref x, u] ∧ H x = some (.ins G.CP dx []) ∧
  ∀ H' : Hp, H' x = some (.ins G.CP dx [("under", u)]) → (∀ b o, H b = some o → b ≠ x → H' b = some o) → Q .non H'
section
variable {P : Program} {w : World} {K : PySem.W.Frag} {mg : Str → Option Value} {base : Heap} {G : Gx}
theorem ok_initP {qual : Str} {st : Stmt} {f : Addr} {fd : FuncData} {k : Nat} {p1 p2 p3 p4 : Pos} (F : Fun K "__init__" qual st f fd) (S : FnScope ["self", "under"] ["self", "under"] (defScope st)) (cl : Cls K G.CP) (no : NoAttr K G.CP "under")
    (hst : defBody st = [.Assign [.Attribute (.Name "self" p1) "under" p2] (.Name "under" p3) p4])
    (hv1 : (defScope st).names.lookup ("self" : Str) = some .local) (hv2 : (defScope st).names.lookup ("under" : Str) = some .local) : FnOk P w K mg base (L2.CX P w) (k + 1) f fd ["self", "under"] (spMkP G) := by
  refine F.okX S (fun vs H Q E ⟨x, dx, u, e, _⟩ => by subst e; rfl) (fun cdv A outer s H vs Q E hr ⟨x, dx, u, e, hx, h1⟩ => ?_)
  subst e
  rw [hst]
  refine ⟨_, pss_one (ps_fld (pe_var (i := 0) rfl (.inl hv1)) (pe_var (i := 1) rfl (.inl hv2)) rfl), ?_⟩
  refine ⟨_, rfl, _, rfl, x, _, dx, [], rfl, hx, cl, no, by decide, ?_⟩
  exact h1 _ upd_same fun b o e hb => by rw [upd_ne hb]; exact e
end
section
variable {X : Cx} {c : Cc} {W : WX} {a : Expr} {pa : W1 O} {pos : Pos}
structure MkP (P : Program) (w : World) (K : PySem.W.Frag) (mg : Str → Option Value) (base : Heap) (k : Nat) (G : Gx) : Prop where
  ex : ∃ f fd, Mk K G.CP f ∧ FnOk P w K mg base (L2.CX P w) k f fd ["self", "under"] (spMkP G) ∧ mg "Polys" = some (.ref G.CP) ∧ Binds K fd ["self", "under"] []
def wMkP (pa : W1 O) : W1 O := ⟨fun S Q E => pa.run S (fun o => ∃ b, o = .im (.kd (.b b)) ∧ Q (.im (.kd (.po b)))) E,
  fun hq he h => pa.mono (fun o ⟨b, e, z⟩ => ⟨b, e, hq _ z⟩) he h⟩
theorem se_mkPo {k j : Nat} {p : Pos} (M : MkP X.prog X.w X.K X.mg X.base k c.G) (hr : Room j X.A) (hk : k + 1 ≤ j) (tk : Takes X W) (ha : SE X c W a pa) (hg : Gl X "Polys" := by rfl)
    (he : starEach [a] X.env = (false, eval a X.env) :: starEach [] X.env := by rfl) (hpl : (backTo pos (starEach ([] : List Expr) X.env)).any (·.1) = false := by rfl) :
    SE X c W (.Call (.Name "Polys" p) [a] [] pos) (wMkP pa) := by
  obtain ⟨f, fd, M, F, hm, hb⟩ := M.ex
  refine ⟨fun pins s σ H Q I ⟨F0, S, Ts, ts, sv, h⟩ => ?_⟩
  refine wpAny_Call_Name_kw (ld_glob I hg hm ?_ (by decide))
  refine PySem.W.callWith_K (h₀ := X.base) I.ok.mod.kin M.kp (thn ((pa_cons ha pa_nil he).run pos pins s σ H (fun vs H1 => ∃ v F1 b, vs = [v] ∧ Sv c F1 H1 (.im (.kd (.b b)) :: Ts) (v :: ts) S σ ∧
      ∀ F' H' v, Sv c F' H' (.im (.kd (.po b)) :: Ts) (v :: ts) S σ → Q v H') I ?_) fun us s1 ⟨vs, H1, I1, r, v, F1, b, ev, s2, z2⟩ => ⟨I1.kIn, ?_⟩) he hpl
  · refine ⟨F0, S, Ts, ts, sv, W1.le pa h (fun o ⟨b, eo, z⟩ F1 H1 v s1 => ⟨v, F1, b, rfl, eo ▸ s1, z⟩) (fun _ z => z)⟩
  · subst ev
    refine run_makeAt (E := WE W σ) (dvs := []) M F (hr.mono hk) hb .nil (passAt tk σ) I1 r fun x dx nx nd ne => ?_
    refine ⟨x, dx, v, rfl, upd_same, fun H' hx' k => ⟨rfl, ?_⟩⟩
    have sm : Same H1 H' := fun b u e => k b u (by rw [upd_ne (ne_of_none e nx), upd_ne (ne_of_none e nd)]; exact e) (ne_of_none e nx)
    have ku : KindAt c.G H1 (.b b) v := s2.topIm
    refine z2 _ H' _ ((s2.pop.grow (Same.refl _) sm (s2.sub.trans sm) (fun _ _ => rfl)).pushIm ?_)
    show KindAt c.G H' (.po b) (.ref x)
    cases b with
    | fr =>
      obtain ⟨p2, d2, e2, q2⟩ := ku
      exact ⟨x, dx, v, rfl, hx', p2, d2, e2, sm _ _ q2⟩
    | rs q =>
      obtain ⟨p2, d2, e2, q2⟩ := ku
      exact ⟨x, dx, v, rfl, hx', p2, d2, e2, sm _ _ q2⟩
end
end PL

/-! P36 -/
set_option Elab.async false
set_option linter.all false
set_option maxRecDepth 100000
set_option maxHeartbeats 4000000
/-! P36: f(..)[k], the part of a list of the frame's own stays its own. -/
namespace PL
open PySem PySem.Spec L2
section
variable {c : Cc} {F : Fz} {H : Hp} {Ts : List O} {ts : List V} {S : List (Option O)} {σ : L2.St}
theorem Sv.takeLs {os : List O} {j : Nat} {o : O} {a : V} (s : Sv c F H (.ls os :: Ts) (a :: ts) S σ) (h : os[j]? = some o) :
    ∃ p vs v, a = .ref p ∧ H p = some (.lst vs) ∧ os.length = vs.length ∧ vs[j]? = some v ∧ Sv c F H (o :: Ts) (v :: ts) S σ := by
  obtain ⟨A, C, ⟨v', vr, A1, A2, e, eA, ho, r⟩, hC, nd, no, nA, nC⟩ := s.own
  cases e
  subst eA
  obtain ⟨p, vs, B0, ep, eB, nF, e2, z, ol⟩ := (show Ow c.G F.F H (.ls os) a A1 from ho.ow rfl)
  subst eB
  obtain ⟨v, B, D, g1, g2, g3, g4⟩ := ol.takeObj h
  have sub : ∀ x, x ∈ B ++ A2 → x ∈ p :: B0 ++ A2 := fun x hx => by
    rcases List.mem_append.mp hx with hx | hx
    · exact List.mem_append_left _ (List.mem_cons_of_mem _ (g4.mem_iff.mp (List.mem_append_left _ hx)))
    · exact List.mem_append_right _ hx
  have nd1 : (B ++ D ++ A2 ++ C).Nodup := by
    have h1 : (B0 ++ A2 ++ C).Nodup := by
      rw [List.cons_append, List.cons_append] at nd
      exact (List.nodup_cons.mp nd).2
    exact ((List.Perm.append_right C (List.Perm.append_right A2 g4)).nodup_iff).mpr h1
  have nd2 : (B ++ A2 ++ C).Nodup := nd1.sublist (List.Sublist.append (List.Sublist.append (List.sublist_append_left B D) (List.Sublist.refl _)) (List.Sublist.refl _))
  refine ⟨p, vs, v, ep, e2, ol.len, g1, s.ext, s.fb, s.bh, s.old, s.dom, B ++ A2, C, ⟨v, ts, B, A2, rfl, rfl, Ow.vw g2, r⟩, hC, nd2, fun x hx => no x ?_, fun x hx => nA x (sub x hx), nC⟩
  rcases List.mem_append.mp hx with hx | hx
  · exact List.mem_append_left _ (sub x hx)
  · exact List.mem_append_right _ hx
def uIxO : U2 := ⟨fun a b Q => ∃ k o os, b = O.i k ∧ a = .ls os ∧ atI os k = some o ∧ Q o, fun hq ⟨k, o, os, e1, e2, e3, q⟩ => ⟨k, o, os, e1, e2, e3, hq _ q⟩⟩
theorem fit_ixO : Fit2 c (rIx c.G.K) uIxO := fun F H Ts ts S σ a b x y Q s ⟨k, o, os, eb, ei, ea, q⟩ => by
  subst eb ei
  obtain rfl := s.int
  have hj : ∃ j, os[j]? = some o ∧ ixN os.length k = some j := by
    unfold atI at ea
    cases h : ixN os.length k with
    | none => rw [h] at ea; cases ea
    | some j => rw [h] at ea; exact ⟨j, ea, rfl⟩
  obtain ⟨j, e1, e2⟩ := hj
  obtain ⟨p, vs, v, ep, hp, el, g1, s'⟩ := s.pop.takeLs e1
  subst ep
  refine .inl ⟨p, vs, k, v, rfl, rfl, SqL.of hp, ?_, q F H v s'⟩
  unfold atI
  rw [← el, e2]
  exact g1
end
section
variable {X : Cx} {c : Cc} {W : WX} {a b : Expr} {pa pb : W1 O} {pos : Pos}
theorem se_subO (hK : X.K = c.G.K) (ha : SE X c W a pa) (hb : SE X c W b pb) (hs : PlainIx b := by exact fun _ _ => rfl) : SE X c W (.Subscript a b pos) (w2 pa pb uIxO) :=
  se_ix (r := rIx X.K) ix_seq (by rw [hK]; exact fit_ixO) ha hb hs
end
end PL

/-! P37 -/
set_option Elab.async false
set_option linter.all false
set_option maxRecDepth 100000
set_option maxHeartbeats 4000000
/-! P37: [x[j] for x in t] over rows of the frame's own. -/
namespace PL
open PySem PySem.Spec L2
section
variable {X : Cx} {c : Cc} {W : WX} {a b : Expr} {pa pb : W1 O} {pos : Pos}
theorem pick_vals {α : Type} {R : Nat → α → Prop} : ∀ n, (∀ k, k < n → ∃ v, R k v) → ∃ vals : List α, vals.length = n ∧ ∀ k, k < n → ∃ v, R k v ∧ vals[k]? = some v
  | 0, _ => ⟨[], rfl, fun k h => absurd h (Nat.not_lt_zero k)⟩
  | n + 1, h => by
    obtain ⟨vals, e, hv⟩ := pick_vals n fun k hk => h k (by omega)
    obtain ⟨v, hn⟩ := h n (by omega)
    refine ⟨vals ++ [v], by rw [List.length_append, e]; rfl, fun k hk => ?_⟩
    by_cases q : k < n
    · obtain ⟨u, h1, h2⟩ := hv k q
      exact ⟨u, h1, by rw [List.getElem?_append_left (by omega)]; exact h2⟩
    · have : k = n := by omega
      subst this
      exact ⟨v, hn, by rw [List.getElem?_append_right (by omega), e, Nat.sub_self]; rfl⟩
theorem pe_V (i : Nat) {x : Str} (hN : X.N[i]? = some x := by rfl) (hv : Vis X.env.scope x := by first | exact Or.inl rfl | exact Or.inr (Or.inl rfl) | exact Or.inr (Or.inr rfl)) (hd : (x == ("__debug__" : Str)) = false := by decide) (hcd : (x == ("__classdict__" : Str)) = false := by decide) : PE X (.Name x pos) (tVar i) := pe_var hN hv hd hcd
/-- [x[j] for x in t], t rows of the frame's own -/
def wCol (t i jn : Nat) : W1 O := ⟨fun S Q _ => ∃ (rows : List O) (us : List D) (j : Int), S[t]? = some (some (O.ls rows)) ∧ S[jn]? = some (some (O.i j)) ∧ i ≠ jn ∧ i < S.length ∧ us.length = rows.length ∧ rows.length < sizeLine ∧ (∀ (k : Nat) (row : O), rows[k]? = some row → ∃ (xs : List O) (d : D), row = O.ls xs ∧ atI xs j = some (O.im d) ∧ us[k]? = some d) ∧ Q (O.ls (us.map O.im)),
  fun hq _ h => by
    obtain ⟨rows, us, j, h1, h2, h3, h4, h5, h6, h7, q⟩ := h
    exact ⟨rows, us, j, h1, h2, h3, h4, h5, h6, h7, hq _ q⟩⟩
theorem se_col {x y z : Str} {t i jn : Nat} {p1 p2 p3 p4 p5 : Pos} {scope : Scope} (hK : X.K = c.G.K) (hc : X.calm = true) (hN : X.N.Nodup) (ok : BlkOk X.N X.env.scope scope [(x, i)]) (ht : PE X (.Name z p5) (tVar t))
    (hg : ∀ (s : Shared) (H : Hp) (C : Addr) (cl : List (Str × Addr)) (fp : List Addr), PG (X.blk s H scope (compEnvC scope cl C X.env) fp) (.Name x p4) (gName i))
    (he : ∀ (s : Shared) (H : Hp) (C : Addr) (cl : List (Str × Addr)) (fp : List Addr), PE (X.blk s H scope (compEnvC scope cl C X.env) fp) (.Subscript (.Name x p1) (.Name y p2) p3) (tOp (rIxL X.K) (tVar i) (tVar jn)))
    (hs : ∀ v, foldedSetIterable (.Name z p5) X.env v = pure v := by intro _; rfl) :
    SE X c W (.ListComp (.Subscript (.Name x p1) (.Name y p2) p3) [⟨.Name x p4, .Name z p5, [], 0⟩] scope pos) (wCol t i jn) :=
  PE.imp (pe_lc (own := [(x, i)]) hc hN (pi_any ht) ok hg (fun _ _ _ _ _ => pts_nil) he hs) fun σ H Q ⟨F, S, Ts, ts, s, hw⟩ => by
    obtain ⟨rows, us, j, eS, ej, nij, hi, hlen, hz, hrow, q⟩ := hw
    obtain ⟨A, C, hA, hC, _⟩ := s.own
    obtain ⟨v0, B0, e0, ho, _⟩ := hC.get eS
    obtain ⟨v1, B1, e1, hj, _⟩ := hC.get ej
    have hv1 : v1 = .int j := hj.2
    subst hv1
    obtain ⟨a, vs, B, ea, eB, nF, e2, z, ol⟩ := (show Ow c.G F.F H (.ls rows) v0 B0 from ho)
    subst ea
    have key : ∀ k, k < rows.length → ∃ v, ∃ p xs, vs[k]? = some (V.ref p) ∧ H p = some (HO.lst xs) ∧ atI xs j = some v ∧ Re c.G F.F H (us.getD k .non) v := fun k hk => by
      obtain ⟨ro, d, er, ex, eu⟩ := hrow k _ (List.getElem?_eq_getElem hk)
      obtain ⟨v, A1, _, g1, g2, _, _⟩ := ol.takeObj (List.getElem?_eq_getElem hk)
      rw [er] at g2
      obtain ⟨p, xs, B2, ep, _, _, e3, _, ol2⟩ := (show Ow c.G F.F H (.ls ro) v A1 from g2)
      subst ep
      obtain ⟨jj, f1, f2⟩ := atI_get2 (ys := xs) ol2.len ex
      obtain ⟨w, A2, _, g3, g4, _, _⟩ := ol2.takeObj f1
      refine ⟨w, p, xs, g1, e3, f2 w g3, ?_⟩
      rw [List.getD_eq_getElem?_getD, eu]
      exact (show _ ∧ _ from g4).2
    have hvs : vs.length = rows.length := ol.len.symm
    obtain ⟨vals, hvl, hv⟩ := pick_vals rows.length key
    refine ⟨.ref a, e0, a, rfl, .inl ⟨⟨vs, SqL.of e2⟩, fun D nD => ?_⟩⟩
    have ne : ∀ p u, H p = some u → p ≠ D := fun p u e h => by subst h; rw [nD] at e; cases e
    refine ⟨fun k m H' => m = rows.length - k ∧ k ≤ rows.length ∧ H' = upd H D (.lst (vals.take k)), ⟨_, rfl, Nat.zero_le _, rfl⟩, ?_⟩
    rintro k m H' ⟨rfl, hk, rfl⟩
    have sa : SqL X.K (upd H D (.lst (vals.take k))) a vs := SqL.of (by rw [upd_ne (ne a _ e2)]; exact e2)
    by_cases hlt : k < rows.length
    · obtain ⟨v, ⟨p, xs, g1, g2, g3, _⟩, g5⟩ := hv k hlt
      refine .inr ⟨⟨vs, _, sa, g1⟩, fun H'' => H'' = upd H D (.lst (vals.take (k + 1))), fun H'' e => ⟨rows.length - (k + 1), by omega, rfl, hlt, e⟩, fun w H'' ⟨eH, y⟩ => ?_⟩
      subst eH
      have ew := y vs sa
      rw [g1] at ew
      cases ew
      have hil : i < σ.length := by rw [← hC.len]; exact hi
      have e3 : ((L2.wipe σ [i]).set i (some (V.ref p)))[i]? = some (some (V.ref p)) := by
        rw [List.getElem?_set_self (by rw [wipe_length]; exact hil)]
      have e4 : ((L2.wipe σ [i]).set i (some (V.ref p)))[jn]? = some (some (V.int j)) := by
        rw [List.getElem?_set_ne nij, wipe_out (by simp; exact fun e => nij e.symm)]; exact e1
      have hw : L2.wipe ((L2.wipe σ [i]).set i (some (V.ref p))) [i] = L2.wipe σ [i] := by
        show ((σ.set i none).set i (some (V.ref p))).set i none = σ.set i none
        rw [List.set_set, List.set_set]
      have hlen2 : (vals.take k).length < sizeLine := by rw [List.length_take]; omega
      refine ⟨hw, V.ref p, e3, V.int j, e4, p, xs, j, v, rfl, rfl, SqL.of (by rw [upd_ne (ne p _ g2)]; exact g2), g3, vals.take k, upd_same, hlen2, ?_⟩
      show upd (upd H D (.lst (vals.take k))) D (.lst (vals.take k ++ [v])) = upd H D (.lst (vals.take (k + 1)))
      rw [upd_upd, List.take_add_one, g5]
      rfl
    · have ek : k = rows.length := by omega
      subst ek
      refine .inl ⟨⟨vs, sa, by omega⟩, ?_⟩
      have et : vals.take rows.length = vals := List.take_of_length_le (by omega)
      rw [et]
      have it : ItV c.G F H (us.map O.im) vals := ⟨by rw [List.length_map]; omega, fun k o e => by
        rw [List.getElem?_map] at e
        obtain ⟨d, f1, f2⟩ := Option.map_eq_some_iff.mp e
        subst f2
        have hkl : k < rows.length := by rw [← hlen]; exact (List.getElem?_eq_some_iff.mp f1).1
        obtain ⟨v, ⟨p, xs, _, _, _, h⟩, h5⟩ := hv k hkl
        rw [List.getD_eq_getElem?_getD, f1] at h
        exact ⟨v, h5, rfl, h⟩⟩
      obtain ⟨F', _, s'⟩ := (s.pushN it).mkL it.1 (by rw [List.length_map]; omega) nD
      have nb : (us.map O.im).all O.nb = true := by rw [List.all_map]; exact List.all_eq_true.mpr fun _ _ => rfl
      rw [mkL_nb nb] at s'
      exact q F' _ _ s'
end
end PL

/-! P38 -/
set_option Elab.async false
set_option linter.all false
set_option maxRecDepth 100000
set_option maxHeartbeats 4000000
/-! P38: x[k].append(None), x a list that is not used behind. -/
namespace PL
open PySem PySem.Spec L2 PyProof.Rows
def sAppIl (i k : Nat) : WS := ⟨fun S D => ∃ os row, S[i]? = some (some (.ls os)) ∧ os[k]? = some (.ls row) ∧ row.length < sizeLine ∧ D.nx (S.set i none), by
  rintro S D D' l ⟨a, w, e1, e2, e3, h⟩
  exact ⟨a, w, e1, e2, e3, l.nx _ h⟩⟩
section
variable {X : Cx} {c : Cc} {W : WX} {pos : Pos}
theorem ss_appIl (i k : Nat) {x : Str} {p1 p2 p3 p4 apos cpos : Pos} {k4 k5 : Nat} (hN : X.N[i]? = some x := by rfl) (hv : Vis X.env.scope x := by first | exact Or.inl rfl | exact Or.inr (Or.inl rfl) | exact Or.inr (Or.inr rfl))
    (hd : (x == ("__debug__" : Str)) = false := by decide) (hcd : (x == ("__classdict__" : Str)) = false := by decide)
    (hp : PlainIx (.Constant (.int (k : Int)) k5 p1) := by exact fun _ _ => rfl)
    (hbase : attributeBase (.Subscript (.Name x p2) (.Constant (.int (k : Int)) k5 p1) p3) "append" X.env (eval (.Subscript (.Name x p2) (.Constant (.int (k : Int)) k5 p1) p3) X.env) = eval (.Subscript (.Name x p2) (.Constant (.int (k : Int)) k5 p1) p3) X.env := by rfl)
    (hfew : ((backTo cpos (starEach [.Constant .none k4 p4] X.env)).all (fun x => !x.1) && (backToKw cpos (keywordEach [] X.env)).all (fun x => x.1.isSome)
      && decide (([.Constant .none k4 p4] : List Expr).length + ([] : List Keyword).length + (if ([] : List Keyword).isEmpty then 0 else 1) < 30)) = true := by rfl)
    (hline : (apos.endLine == cpos.line) = true := by rfl) (hs : starEach [.Constant .none k4 p4] X.env = (false, eval (.Constant .none k4 p4) X.env) :: starEach [] X.env := by rfl) (hplain : (backTo cpos (starEach ([] : List Expr) X.env)).any (·.1) = false := by rfl)
    (hsw : swapsWith (.Call (.Attribute (.Subscript (.Name x p2) (.Constant (.int (k : Int)) k5 p1) p3) "append" apos) [.Constant .none k4 p4] [] cpos) none pos.line X.env = pure false := by rfl) :
    SS X c W (.Expr (.Call (.Attribute (.Subscript (.Name x p2) (.Constant (.int (k : Int)) k5 p1) p3) "append" apos) [.Constant .none k4 p4] [] cpos) pos) (sAppIl i k) :=
  PS.imp (ps_expr (pe_bm PySem.F.plainAttrs_list PySem.F.slot_list_append PySem.F.type_list_append mt_append (pe_ix ix_list (pe_var hN hv hd hcd) pe_int hp) (pa_cons pe_non pa_nil hs) hbase hfew hline hs hplain) hsw) fun D σ H ⟨F, S, Ts, ts, nb, s, os, row, ea, ek, hz, q⟩ => by
    obtain ⟨v0, F1, _, e0, nbw, s1⟩ := s.move nb ea
    obtain ⟨A, ho⟩ := s1.top
    obtain ⟨a, vs, B0, e1, eB, _, e2, _, ol⟩ := (show Ow c.G F1.F H (.ls os) v0 A from ho)
    subst e1
    obtain ⟨D0, ys, g1, g2, g3, g4⟩ := ol.rowAt ek
    refine ⟨.ref a, e0, a, vs, (k : Int), .ref D0, rfl, rfl, SqL.of e2, by rw [atI_nat]; exact g1, .inl ⟨rfl, _, SqL.of g2⟩, D0, ys, .non, rfl, rfl, g2, by rw [g3]; exact hz, ?_⟩
    refine q F1 _ σ (s1.popUpd nbw (D := D0) (fun A0 h => ?_) g2)
    obtain ⟨a', vs', B1, e1', eB', _, e2', _, ol'⟩ := (show Ow c.G F1.F H (.ls os) (.ref a) A0 from h)
    cases e1'
    rw [e2] at e2'
    cases e2'
    rw [eB']
    exact List.mem_cons_of_mem _ (OwL.uniq ol ol' ek g1)
end
end PL

/-! P39 -/
set_option Elab.async false
set_option linter.all false
set_option maxRecDepth 100000
set_option maxHeartbeats 4000000
/-! P39: a def that calls itself and keeps what it tells in a dict that it hands on. -/
namespace PL
open PySem PySem.Spec L2 PyProof.Rows
mutual
/-- no dict in it -/
def D.nd : D → Bool
  | .dic => false
  | .tup ds => D.ndL ds
  | .lst ds => D.ndL ds
  | .lsa _ ds => D.ndL ds
  | _ => true
def D.ndL : List D → Bool
  | [] => true
  | d :: ds => d.nd && D.ndL ds
end
/-- all stays but lists, and what stands at p -/
def KeepP (p : Addr) (H H' : Hp) : Prop := ∀ b o, b ≠ p → H b = some o → (∀ xs, o ≠ .lst xs) → H' b = some o
def DkAt (H : Hp) (p : Addr) : Prop := ∃ kvs, H p = some (.dK kvs)
theorem KeepP.at_ {p a : Addr} {H H' : Hp} (k : KeepP p H H') (dk : DkAt H p) {o : HO} (e : H a = some o) (n1 : ∀ xs, o ≠ .lst xs) (n2 : ∀ kvs, o ≠ .dK kvs) : H' a = some o := by
  obtain ⟨kvs, q⟩ := dk
  exact k a o (L2.ne_of e q (n2 kvs)) e n1
theorem KindAt.monoP {G : Gx} {H H' : Hp} {p : Addr} (dk : DkAt H p) (k : KeepP p H H') {d : Kd} {v : V} (h : KindAt G H d v) : KindAt G H' d v := by
  match d, h with
  | .b .fr, ⟨p, dx, e, q⟩ => exact ⟨p, dx, e, k.at_ dk q (fun _ z => nomatch z) (fun _ z => nomatch z)⟩
  | .b (.rs _), ⟨p, dx, e, q⟩ => exact ⟨p, dx, e, k.at_ dk q (fun _ z => nomatch z) (fun _ z => nomatch z)⟩
  | .po .fr, ⟨p, dx, u, e, q, p2, d2, e2, q2⟩ => exact ⟨p, dx, u, e, k.at_ dk q (fun _ z => nomatch z) (fun _ z => nomatch z), p2, d2, e2, k.at_ dk q2 (fun _ z => nomatch z) (fun _ z => nomatch z)⟩
  | .po (.rs _), ⟨p, dx, u, e, q, p2, d2, e2, q2⟩ => exact ⟨p, dx, u, e, k.at_ dk q (fun _ z => nomatch z) (fun _ z => nomatch z), p2, d2, e2, k.at_ dk q2 (fun _ z => nomatch z) (fun _ z => nomatch z)⟩
theorem RankAt.monoP {H H' : Hp} {p : Addr} (dk : DkAt H p) (k : KeepP p H H') {d : Option Addr} {e : Ex} (h : RankAt H d e) : RankAt H' d e := by
  match e, h with
  | .inverse r, ⟨dd, e, q⟩ => exact ⟨dd, e, k.at_ dk q (fun _ z => nomatch z) (fun _ z => nomatch z)⟩
  | .kind, h => exact h
  | .number, h => exact h
  | .fit, h => exact h
  | .turn, h => exact h
  | .text, h => exact h
  | .name, h => exact h
  | .row, h => exact h
mutual
theorem Re.monoP {G : Gx} {F F' H H' : Hp} {p : Addr} (dk : DkAt H p) (f : Same F F') (k : KeepP p H H') : ∀ (d : D) (v : V), d.nd = true → Re G F H d v → Re G F' H' d v
  | .non, _, _, h => h
  | .bl _, _, _, h => h
  | .int _, _, _, h => h
  | .str _, _, _, h => h
  | .tup ds, v, n, ⟨a, vs, e, q, z, r⟩ => ⟨a, vs, e, k.at_ dk q (fun _ z => nomatch z) (fun _ z => nomatch z), z, ReL.monoP dk f k ds vs n r⟩
  | .lst ds, v, n, ⟨a, vs, e, q, z, r⟩ => ⟨a, vs, e, f _ _ q, z, ReL.monoP dk f k ds vs n r⟩
  | .kd _, _, _, h => KindAt.monoP dk k h
  | .scr _, _, _, ⟨a, e, q⟩ => ⟨a, e, f.seq q⟩
  | .obj _, _, _, h => h
  | .dic, _, n, _ => nomatch n
  | .lsa a ds, v, n, ⟨e, vs, q, z, r⟩ => ⟨e, vs, f _ _ q, z, ReL.monoP dk f k ds vs n r⟩
  | .exn _, _, _, ⟨a, d, e, q, r⟩ => ⟨a, d, e, k.at_ dk q (fun _ z => nomatch z) (fun _ z => nomatch z), r.monoP dk k⟩
theorem ReL.monoP {G : Gx} {F F' H H' : Hp} {p : Addr} (dk : DkAt H p) (f : Same F F') (k : KeepP p H H') : ∀ (ds : List D) (vs : List V), D.ndL ds = true → ReL G F H ds vs → ReL G F' H' ds vs
  | [], _, _, h => h
  | d :: ds, _, n, ⟨v, vr, e, h, r⟩ => by
    have n' : d.nd = true ∧ D.ndL ds = true := by simpa [D.ndL] using n
    exact ⟨v, vr, e, Re.monoP dk f k d v n'.1 h, ReL.monoP dk f k ds vr n'.2 r⟩
end
/-- frozen, no dict in it -/
def ndO : O → Bool
  | .im d => d.nd
  | _ => false
def ndT (os : List O) : Bool := os.all ndO
def ndS (S : List (Option O)) : Bool := S.all fun o => match o with
  | none => true
  | some o => ndO o
theorem SlL.monoP {G : Gx} {F F' H H' : Hp} {p : Addr} (dk : DkAt H p) (f : Same F F') (k : KeepP p H H') : ∀ {S : List (Option O)} {σ : L2.St} {A : List Addr}, ndS S = true → SlL G F H S σ A → SlL G F' H' S σ []
  | [], _, _, _, ⟨e, _⟩ => ⟨e, rfl⟩
  | none :: S, _, _, n, ⟨x, τ, e, r⟩ => by
    have n' : ndS S = true := by simpa [ndS] using n
    exact ⟨x, τ, e, r.monoP dk f k n'⟩
  | some (.im d) :: S, _, _, n, ⟨v, τ, B, C, e, eA, ⟨_, h⟩, r⟩ => by
    have n' : d.nd = true ∧ ndS S = true := by simpa [ndS, ndO] using n
    exact ⟨v, τ, [], [], e, rfl, ⟨rfl, h.monoP dk f k _ _ n'.1⟩, r.monoP dk f k n'.2⟩
  | some (.bo d) :: S, _, _, n, _ => by simp [ndS, ndO] at n
  | some (.ls d) :: S, _, _, n, _ => by simp [ndS, ndO] at n
  | some (.tp d) :: S, _, _, n, _ => by simp [ndS, ndO] at n
theorem TmL.monoP {G : Gx} {F F' : Fz} {H H' : Hp} {p : Addr} (dk : DkAt H p) (f : Same F.F F'.F) (k : KeepP p H H') : ∀ {os : List O} {vs : List V} {A : List Addr}, ndT os = true → TmL G F H os vs A → TmL G F' H' os vs []
  | [], _, _, _, ⟨e, _⟩ => ⟨e, rfl⟩
  | .im d :: S, _, _, n, ⟨v, τ, B, C, e, eA, ⟨_, h⟩, r⟩ => by
    have n' : d.nd = true ∧ ndT S = true := by simpa [ndT, ndO] using n
    exact ⟨v, τ, [], [], e, rfl, ⟨rfl, h.monoP dk f k _ _ n'.1⟩, r.monoP dk f k n'.2⟩
  | .bo d :: S, _, _, n, _ => by simp [ndT, ndO] at n
  | .ls d :: S, _, _, n, _ => by simp [ndT, ndO] at n
  | .tp d :: S, _, _, n, _ => by simp [ndT, ndO] at n
theorem ndT_isIm {os : List O} (h : ndT os = true) : os.all O.isIm = true := by
  unfold ndT at h
  rw [List.all_eq_true] at h ⊢
  intro o ho
  have := h o ho
  cases o with
  | im d => rfl
  | _ => simp [ndO] at this

/-- what such a def is about: its first arguments, by row and used when it may be called (m tells how deep), what it tells -/
structure Rec where
  ds : List D
  pre : Nat → Int → Int → Prop
  val : Int → D
  big : ∀ m r u, pre m r u → 0 ≤ u ∧ u < 128
  ndv : ∀ m r u, pre m r u → (val u).nd = true
  nds : D.ndL ds = true
  z : ∀ r u, ¬ pre 0 r u
/-- what was told so far is right -/
def KOK (R : Rec) (G : Gx) (F H : Hp) (kvs : List (Key × V)) : Prop := (kvs.map (·.1)).Nodup ∧ ∀ k v, (k, v) ∈ kvs → ∃ m r u, R.pre m r u ∧ k = .inl u ∧ Re G F H (R.val u) v
theorem KOK.mono {R : Rec} {G : Gx} {F F' H H' : Hp} {kvs : List (Key × V)} (f : Same F F') (k : Keep H H') (h : KOK R G F H kvs) : KOK R G F' H' kvs := ⟨h.1, fun k' v hm => by
  obtain ⟨m, r, u, a, b, c⟩ := h.2 k' v hm
  exact ⟨m, r, u, a, b, c.mono f k⟩⟩
theorem KOK.monoP {R : Rec} {G : Gx} {F F' H H' : Hp} {p : Addr} {kvs : List (Key × V)} (dk : DkAt H p) (f : Same F F') (k : KeepP p H H') (h : KOK R G F H kvs) : KOK R G F' H' kvs := ⟨h.1, fun k' v hm => by
  obtain ⟨m, r, u, a, b, c⟩ := h.2 k' v hm
  exact ⟨m, r, u, a, b, c.monoP dk f k _ _ (R.ndv _ _ _ a)⟩⟩
theorem nodup_len : ∀ (n : Nat) (l : List Int), l.Nodup → (∀ x ∈ l, 0 ≤ x ∧ x < n) → l.length ≤ n
  | 0, l, _, h => by
    cases l with
    | nil => exact Nat.le_refl _
    | cons x l => have := h x List.mem_cons_self; omega
  | n + 1, l, nd, h => by
    have h1 := nodup_len n (l.erase (n : Int)) (nd.erase _) fun x hx => by
      have h2 := h x (List.mem_of_mem_erase hx)
      have h3 : x ≠ (n : Int) := fun e => by subst e; exact nd.not_mem_erase hx
      omega
    rw [List.length_erase] at h1
    split at h1 <;> omega
theorem KOK.len {R : Rec} {G : Gx} {F H : Hp} {kvs : List (Key × V)} (h : KOK R G F H kvs) : kvs.length ≤ 128 := by
  have key : ∀ l : List Key, l.Nodup → (∀ k ∈ l, ∃ u : Int, k = .inl u ∧ 0 ≤ u ∧ u < 128) → l.length ≤ 128 := fun l nd hl => by
    have h1 : ∀ l : List Key, l.Nodup → (∀ k ∈ l, ∃ u : Int, k = .inl u ∧ 0 ≤ u ∧ u < 128) → ∃ is : List Int, l = is.map .inl ∧ is.Nodup ∧ ∀ x ∈ is, 0 ≤ x ∧ x < ((128 : Nat) : Int) := by
      intro l
      induction l with
      | nil => intro _ _; exact ⟨[], rfl, List.nodup_nil, fun x hx => by cases hx⟩
      | cons k l ih =>
        intro nd hl
        obtain ⟨u, e, a, b⟩ := hl k List.mem_cons_self
        obtain ⟨is, e2, nd2, h2⟩ := ih (List.nodup_cons.mp nd).2 fun k hk => hl k (List.mem_cons_of_mem _ hk)
        subst e e2
        refine ⟨u :: is, rfl, List.nodup_cons.mpr ⟨fun hm => (List.nodup_cons.mp nd).1 (List.mem_map.mpr ⟨u, hm, rfl⟩), nd2⟩, fun x hx => ?_⟩
        rcases List.mem_cons.mp hx with rfl | hx
        · exact ⟨a, b⟩
        · exact h2 x hx
    obtain ⟨is, e, nd2, h2⟩ := h1 l nd hl
    subst e
    rw [List.length_map]
    exact nodup_len 128 is nd2 h2
  have := key _ h.1 fun k hk => by
    obtain ⟨kv, h1, h2⟩ := List.mem_map.mp hk
    obtain ⟨m, r, u, a, b, _⟩ := h.2 kv.1 kv.2 h1
    exact ⟨u, h2 ▸ b, R.big _ _ _ a⟩
  rwa [List.length_map] at this
theorem KOK.get {R : Rec} {G : Gx} {F H : Hp} {kvs : List (Key × V)} (h : KOK R G F H kvs) {u : Int} {v : V} (e : valV kvs (.inl u) = some v) : Re G F H (R.val u) v := by
  unfold valV at e
  obtain ⟨kv, h1, h2⟩ := Option.map_eq_some_iff.mp e
  have h3 := List.mem_of_find?_eq_some h1
  have h4 := List.find?_some h1
  obtain ⟨m, r, u', _, b, c⟩ := h.2 kv.1 kv.2 h3
  have h5 : kv.1 = .inl u := by simpa using h4
  rw [b] at h5
  have : u' = u := by injection h5
  subst this
  rw [h2] at c
  exact c
theorem KOK.put {R : Rec} {G : Gx} {F H : Hp} {kvs : List (Key × V)} (h : KOK R G F H kvs) {m : Nat} {r u : Int} {v : V} (hp : R.pre m r u) (hv : Re G F H (R.val u) v) : KOK R G F H (putK kvs (.inl u) v) := by
  unfold putK
  split
  · refine ⟨?_, fun k w hm => ?_⟩
    · rw [List.map_map]
      have : ((fun x : Key × V => x.1) ∘ fun kv : Key × V => if kv.1 = Sum.inl u then (kv.1, v) else kv) = fun kv => kv.1 := by
        funext kv
        show (if kv.1 = Sum.inl u then (kv.1, v) else kv).1 = kv.1
        split <;> rfl
      rw [this]
      exact h.1
    · obtain ⟨kv, h1, h2⟩ := List.mem_map.mp hm
      split at h2
      · rename_i e
        cases h2
        exact ⟨m, r, u, hp, e, hv⟩
      · subst h2
        exact h.2 _ _ h1
  · rename_i hn
    refine ⟨?_, fun k w hm => ?_⟩
    · rw [List.map_append]
      refine List.nodup_append.mpr ⟨h.1, by simp, fun a ha b hb e => hn ?_⟩
      have hb' : b = Sum.inl u := by simpa using hb
      obtain ⟨kv, h1, h2⟩ := List.mem_map.mp ha
      rw [List.any_eq_true]
      exact ⟨kv, h1, by rw [decide_eq_true_eq, h2, e, hb']⟩
    · rcases List.mem_append.mp hm with h1 | h1
      · exact h.2 _ _ h1
      · have : k = Sum.inl u ∧ w = v := by simpa using h1
        obtain ⟨rfl, rfl⟩ := this
        exact ⟨m, r, u, hp, rfl, hv⟩
/-- the entry of such a def -/
structure Bx where
  G : Gx
  R : Rec
  p : Addr
  F0 : Hp
  He : Hp
structure CE (B : Bx) (c : Cc) : Prop where
  g : c.G = B.G
  he : ∀ a o, a ≠ B.p → B.He a = some o → c.H0 a = some o
  dk : ∃ kvs, c.H0 B.p = some (.dK kvs) ∧ KOK B.R B.G c.F0 c.H0 kvs
  fp : c.F0 B.p = none
  fe : Same B.F0 c.F0
  fd : ∀ a, B.He a ≠ none → c.F0 a = B.F0 a
section
variable {B : Bx} {c : Cc} {F : Fz} {H : Hp} {Ts : List O} {ts : List V} {S : List (Option O)} {σ : L2.St}
theorem CE.h0 (e : CE B c) {a : Addr} (h : B.He a ≠ none) : c.H0 a ≠ none := by
  by_cases q : a = B.p
  · subst q
    obtain ⟨kvs, e1, _⟩ := e.dk
    rw [e1]; simp
  · cases q2 : B.He a with
    | none => exact absurd q2 h
    | some o => rw [e.he a o q q2]; simp
theorem CE.now (e : CE B c) (s : Sv c F H Ts ts S σ) : ∃ kvs, H B.p = some (.dK kvs) ∧ KOK B.R B.G F.F H kvs := by
  obtain ⟨kvs, e1, k⟩ := e.dk
  exact ⟨kvs, s.old _ _ e1, k.mono s.ext (.of s.old)⟩
theorem CE.ff (e : CE B c) (s : Sv c F H Ts ts S σ) : F.F B.p = none := by
  obtain ⟨kvs, e1, k⟩ := e.dk
  rw [s.dom _ (by rw [e1]; simp)]
  exact e.fp
/-- the dict changes: the frame stands anew -/
theorem CE.rebase (e : CE B c) (s : Sv c F H Ts ts S σ) (nT : ndT Ts = true) (nS : ndS S = true) {F2 H2 : Hp} (f : Same F.F F2) (b : Same F2 H2) (k : ∀ a o, a ≠ B.p → H a = some o → H2 a = some o) {kvs : List (Key × V)} (hp : H2 B.p = some (.dK kvs)) (ok : KOK B.R B.G F2 H2 kvs)
    (d : ∀ a, H a ≠ none → F2 a = F.F a) : CE B ⟨B.G, F2, H2⟩ ∧ Sv ⟨B.G, F2, H2⟩ ⟨F2, F2⟩ H2 Ts ts S σ := by
  obtain ⟨kvs0, e1, k0⟩ := e.now s
  have dk : DkAt H B.p := ⟨kvs0, e1⟩
  have kp : KeepP B.p H H2 := fun b o n q _ => k b o n q
  have hh : ∀ a, c.H0 a ≠ none → H a ≠ none := fun a h => by
    cases q : c.H0 a with
    | none => exact absurd q h
    | some o => rw [s.old a o q]; simp
  refine ⟨⟨rfl, fun a o n q => k a o n (s.old a o (e.he a o n q)), ⟨kvs, hp, ok⟩, ?_, fun a o q => f a o (s.ext a o (e.fe a o q)), fun a h => ?_⟩, ?_⟩
  · show F2 B.p = none
    rw [d _ (by rw [e1]; simp)]
    exact e.ff s
  · show F2 a = B.F0 a
    rw [d a (hh a (e.h0 h)), s.dom a (e.h0 h), e.fd a h]
  · obtain ⟨A, C, hA, hC, _⟩ := s.own
    have eg := e.g
    refine ⟨Same.refl _, Same.refl _, b, Same.refl _, fun _ _ => rfl, [], [], ?_, ?_, List.nodup_nil, (fun a ha => by cases ha), (fun a ha => by cases ha), fun a ha => by cases ha⟩
    · rw [← eg]
      exact hA.monoP (F' := ⟨F2, F2⟩) dk f kp nT
    · rw [← eg]
      exact hC.monoP dk f kp nS
theorem CE.put (e : CE B c) (s : Sv c F H [] [] S σ) (nS : ndS S = true) {kvs : List (Key × V)} (hk : H B.p = some (.dK kvs)) {m : Nat} {r u : Int} {v : V} (hp : B.R.pre m r u) (hv : Re B.G F.F H (B.R.val u) v) :
    CE B ⟨B.G, F.F, upd H B.p (.dK (putK kvs (.inl u) v))⟩ ∧ Sv ⟨B.G, F.F, upd H B.p (.dK (putK kvs (.inl u) v))⟩ ⟨F.F, F.F⟩ (upd H B.p (.dK (putK kvs (.inl u) v))) [] [] S σ := by
  obtain ⟨kvs', e1, ok⟩ := e.now s
  rw [hk] at e1
  cases e1
  have kp : KeepP B.p H (upd H B.p (.dK (putK kvs (.inl u) v))) := fun b o n q _ => by rw [upd_ne n]; exact q
  refine e.rebase s rfl nS (Same.refl _) (fun a o q => ?_) (fun a o n q => by rw [upd_ne n]; exact q) upd_same ((ok.put hp hv).monoP ⟨_, hk⟩ (Same.refl _) kp) fun _ _ => rfl
  have : a ≠ B.p := fun z => by subst z; rw [e.ff s] at q; cases q
  rw [upd_ne this]
  exact s.sub a o q
end

/-! ### statements, with the dict -/
def endD (B : Bx) (D : Ends) : PEnds where
  nx := fun S => ∀ (c : Cc) (F : Fz) H σ, CE B c → Sv c F H [] [] S σ → D.nx σ H
  rt := fun o => ∀ (c : Cc) F H v S σ, CE B c → Sv c F H [o] [v] S σ → D.rt v H
  bk := fun S => ∀ (c : Cc) (F : Fz) H σ, CE B c → Sv c F H [] [] S σ → D.bk σ H
  ct := fun S => ∀ (c : Cc) (F : Fz) H σ, CE B c → Sv c F H [] [] S σ → D.ct σ H
  ex := fun _ _ => False
def liftD (B : Bx) (p : WS) : TS := fun D σ H => ∃ c F S, CE B c ∧ Sv c F H [] [] S σ ∧ p.run S (endD B D)
section
variable {X : Cx} {B : Bx} {W : WX} {e : Expr} {es : List Expr} {st : Stmt} {rest : List Stmt} {p q : WS} {pos : Pos} {w : W1 O}
theorem sd_of (h : ∀ c : Cc, c.G = B.G → SS X c W st p) : PS X st (liftD B p) := ⟨fun pins s σ H D I ⟨c, F, S, ce, sv, z⟩ =>
  (h c ce.g).run pins s σ H D I ⟨F, S, [], [], (fun o ho => by cases ho), sv, p.le z ⟨fun S' z F' H' σ' s' => z c F' H' σ' ce s', fun o z F' H' v S' σ' s' => z c F' H' v S' σ' ce s', fun S' z F' H' σ' s' => z c F' H' σ' ce s', fun S' z F' H' σ' s' => z c F' H' σ' ce s', fun S' e z => z.elim⟩⟩⟩
theorem sds_nil : PSs X [] (liftD B sNext) := PSs.imp pss_nil fun D σ H ⟨c, F, S, ce, s, h⟩ => h c F H σ ce s
theorem sds_cons (h1 : PS X st (liftD B p)) (h2 : PSs X rest (liftD B q)) : PSs X (st :: rest) (liftD B (sSeq p q)) :=
  PSs.imp (pss_cons h1 h2) fun D σ H ⟨c, F, S, ce, s, h⟩ => ⟨c, F, S, ce, s, p.le (show p.run S { endD B D with nx := fun S' => q.run S' (endD B D) } from h) ⟨fun S' z c' F' H' σ' ce' s' => ⟨c', F', S', ce', s', z⟩, fun _ z => z, fun _ z => z, fun _ z => z, fun _ _ z => z⟩⟩
theorem sds_one (h1 : PS X st (liftD B p)) : PSs X [st] (liftD B p) := pss_one h1
/-- for y in range(..) -/
theorem sd_for {body : List Stmt} {a : Expr} {y : Str} {j : Nat} {qa : W1 (List O)} {p1 p2 p3 : Pos} (hp : PassesOwn (model X.prog X.w) X.A X.env X.xe) (hc : X.calm = true) (hm : X.mg "range" = none) (hN : X.N.Nodup) (hj : X.N[j]? = some y) (hl : Loc X.env.scope y)
    (ha : ∀ c : Cc, c.G = B.G → SA X c W [a] qa) (hb : PSs X body (liftD B p)) (hg : Gl X "range" := by rfl) (hs2 : starEach [a] X.env = [(false, eval a X.env)] := by rfl) (hf : X.fn y = true ∨ X.env.scope.names.lookup y = some .local := by first | exact .inl rfl | exact .inr rfl | assumption)
    (hs : ∀ x, foldedSetIterable (.Call (.Name "range" p2) [a] [] p3) X.env x = pure x := by intro _; rfl) : PS X (.For (.Name y p1) (.Call (.Name "range" p2) [a] [] p3) body [] pos) (liftD B (sFor (wR1 qa) (gF j) p)) := by
  have ha' : PA X [a] (fun σ H Q => ∃ c, CE B c ∧ liftA c W qa σ H Q) := ⟨fun pc pins s σ H Q I ⟨c, ce, z⟩ => (ha c ce.g).run pc pins s σ H Q I z⟩
  refine PS.imp (ps_for hp hc (pi_range1 hg hm ha' hs2) (pg_name hN hj hl hf) hb hs) fun D σ H ⟨c, F, S, ce, s, h⟩ => ⟨c, ce, F, S, [], [], s, qa.mono (fun os ⟨n, eo, h1, h2, _, I, h0, hst, hd⟩ F1 H1 vs s1 el => ?_) (fun _ z => z.elim) h⟩
  subst eo
  obtain ⟨v, rfl⟩ := len1 el
  have s1 : Sv c F1 H1 [O.i n] [v] S σ := s1
  have e1 := s1.int
  subst e1
  have hd : ∀ S, I (intL 0 n.toNat).length S → (endD B D).nx S := hd
  have hst : ∀ i o S, (intL 0 n.toNat)[i]? = some o → I i S → (gF j).run o S (fun S' => p.run S' ⟨I (i + 1), (endD B D).rt, (endD B D).nx, I (i + 1), (endD B D).ex⟩) := hst
  rw [intL_len] at hd
  refine ⟨n, rfl, h1, Int.lt_of_le_of_lt h2 (by decide), fun i m σ H => m = n.toNat - i ∧ i ≤ n.toNat ∧ ∃ c F S, CE B c ∧ Sv c F H [] [] S σ ∧ I i S, ⟨_, rfl, Nat.zero_le _, c, F1, S, ce, s1.pop, h0⟩, ?_⟩
  rintro i m σ H ⟨rfl, hi, c, F, S, ce, s, hI⟩
  obtain ⟨_, wk⟩ := walk_range (c := c) (lo := 0) (n := n.toNat) (szl h2)
  obtain ⟨w1, w2⟩ := wk F H [] [] S σ s
  by_cases hlt : i < n.toNat
  · have hg : (intL 0 n.toNat)[i]? = some ((intL 0 n.toNat)[i]'(by rw [intL_len]; exact hlt)) := List.getElem?_eq_getElem _
    obtain ⟨go, yl⟩ := w2 i _ hg
    refine .inr ⟨go, fun σ' H' => ∃ c F S, CE B c ∧ Sv c F H' [] [] S σ' ∧ I (i + 1) S, fun σ' H' ⟨c, F, S, ce, s, h⟩ => ⟨n.toNat - (i + 1), by omega, rfl, hlt, c, F, S, ce, s, h⟩, fun x H' y => ?_⟩
    obtain ⟨F', s'⟩ := yl x H' y
    obtain ⟨nb, hjl, z⟩ := hst i _ S hg hI
    obtain ⟨F2, _, _, s2⟩ := Sv.freeze (Ts := []) (ts := []) s' nb
    obtain ⟨F3, _, _, s3⟩ := s2.put rfl hjl
    refine ⟨c, F3, _, ce, s3, p.le z ⟨fun S3 h3 c3 F3 H3 σ3 ce3 s3 => ⟨c3, F3, S3, ce3, s3, h3⟩, fun o h3 => h3, fun S3 h3 => h3, fun S3 h3 c3 F3 H3 σ3 ce3 s3 => ⟨c3, F3, S3, ce3, s3, h3⟩, fun S3 e h3 => h3⟩⟩
  · have ei : i = n.toNat := by omega
    subst ei
    exact .inl ⟨w1 _ (by rw [show (Wk.mk [] (intL 0 n.toNat)).items.length = n.toNat from intL_len _ _]; exact Nat.le_refl _), hd S hI c F H σ ce s⟩
/-- if used in known: return known[used] -/
def sGetRet (p : Addr) (val : Int → D) (iu ik : Nat) : WS := ⟨fun S D => ∃ u, S[iu]? = some (some (O.i u)) ∧ S[ik]? = some (some (.im (.obj (.ref p)))) ∧ D.rt (.im (val u)) ∧ D.nx S, fun l ⟨u, a, b, c, d⟩ => ⟨u, a, b, l.rt _ c, l.nx _ d⟩⟩
theorem sd_get {iu ik : Nat} {x y : Str} {p1 p2 p3 p4 p5 p6 p7 : Pos} (hu : X.A.units + 1 < cLine) (hN : X.N[iu]? = some x := by rfl) (hM : X.N[ik]? = some y := by rfl)
    (hv : Vis X.env.scope x := by first | exact Or.inl rfl | exact Or.inr (Or.inl rfl) | exact Or.inr (Or.inr rfl)) (hd : (x == ("__debug__" : Str)) = false := by decide) (hcd : (x == ("__classdict__" : Str)) = false := by decide)
    (hv2 : Vis X.env.scope y := by first | exact Or.inl rfl | exact Or.inr (Or.inl rfl) | exact Or.inr (Or.inr rfl)) (hd2 : (y == ("__debug__" : Str)) = false := by decide) (hcd2 : (y == ("__classdict__" : Str)) = false := by decide) (hs : NoSl (.Name x p5)) (hbm : behindInMarks .In (.Name y p2) = false := by rfl) :
    PS X (.If (.Compare (.Name x p1) [.In] [.Name y p2] p3) [.Return (some (.Subscript (.Name y p4) (.Name x p5) p6)) p7] [] pos) (liftD B (sGetRet B.p B.R.val iu ik)) := by
  refine PS.imp (ps_if (pt_cmp (pc_din hu (pe_var hN hv hd hcd) (pe_var hM hv2 hd2 hcd2)) hbm) (pss_one (ps_ret (pe_dget hu (pe_var hM hv2 hd2 hcd2) (pe_var hN hv hd hcd) hs))) pss_nil) fun D σ H ⟨c, F, S, ce, s, u, e1, e2, h1, h2⟩ => ?_
  obtain ⟨kvs, ek, ok⟩ := ce.now s
  obtain ⟨v1, q1, hv1⟩ := s.view e1
  obtain ⟨v2, q2, hv2⟩ := s.view e2
  have r1 : v1 = .int u := (show _ ∧ _ from hv1).2
  have r2 : v2 = .ref B.p := (show _ ∧ _ from hv2).2
  subst r1 r2
  refine ⟨_, q1, _, q2, B.p, valV kvs (.inl u), rfl, DGet.k (k := .inl u) ek, _, rfl, ?_⟩
  cases ev : valV kvs (.inl u) with
  | none => exact h2 c F H σ ce s
  | some v =>
    refine ⟨_, q2, _, q1, B.p, v, rfl, ?_, ?_⟩
    · rw [← ev]
      exact DGet.k (k := .inl u) ek
    · exact h1 c F H v S σ ce (s.pushIm (by rw [ce.g]; exact ok.get ev))
/-- known[used] = found -/
def sPutK (R : Rec) (p : Addr) (iu ik iv : Nat) : WS := ⟨fun S D => ∃ u m r, S[iu]? = some (some (O.i u)) ∧ S[ik]? = some (some (.im (.obj (.ref p)))) ∧ S[iv]? = some (some (.im (R.val u))) ∧ R.pre m r u ∧ ndS S = true ∧ D.nx S, fun l ⟨u, m, r, a, b, c, d, e, f⟩ => ⟨u, m, r, a, b, c, d, e, l.nx _ f⟩⟩
theorem sd_put {iu ik iv : Nat} {x y z : Str} {p1 p2 p3 p4 : Pos} (hu : X.A.units + 1 < cLine) (hN : X.N[iu]? = some x := by rfl) (hM : X.N[ik]? = some y := by rfl) (hK : X.N[iv]? = some z := by rfl)
    (hv : Vis X.env.scope x := by first | exact Or.inl rfl | exact Or.inr (Or.inl rfl) | exact Or.inr (Or.inr rfl)) (hd : (x == ("__debug__" : Str)) = false := by decide) (hcd : (x == ("__classdict__" : Str)) = false := by decide)
    (hv2 : Vis X.env.scope y := by first | exact Or.inl rfl | exact Or.inr (Or.inl rfl) | exact Or.inr (Or.inr rfl)) (hd2 : (y == ("__debug__" : Str)) = false := by decide) (hcd2 : (y == ("__classdict__" : Str)) = false := by decide)
    (hv3 : Vis X.env.scope z := by first | exact Or.inl rfl | exact Or.inr (Or.inl rfl) | exact Or.inr (Or.inr rfl)) (hd3 : (z == ("__debug__" : Str)) = false := by decide) (hcd3 : (z == ("__classdict__" : Str)) = false := by decide)
    (hs : swapsWith (.Name z p4) (some (.Subscript (.Name y p1) (.Name x p2) p3)) pos.line X.env = pure false := by rfl) :
    PS X (.Assign [.Subscript (.Name y p1) (.Name x p2) p3] (.Name z p4) pos) (liftD B (sPutK B.R B.p iu ik iv)) := by
  refine PS.imp (ps_dput hu (pe_var hM hv2 hd2 hcd2) (pe_var hN hv hd hcd) (pe_var hK hv3 hd3 hcd3) hs) fun D σ H ⟨c, F, S, ce, s, u, m, r, e1, e2, e3, hp, nS, h⟩ => ?_
  obtain ⟨kvs, ek, ok⟩ := ce.now s
  obtain ⟨v1, q1, hv1⟩ := s.view e1
  obtain ⟨v2, q2, hv2⟩ := s.view e2
  obtain ⟨v3, q3, hv3⟩ := s.view e3
  have r1 : v1 = .int u := (show _ ∧ _ from hv1).2
  have r2 : v2 = .ref B.p := (show _ ∧ _ from hv2).2
  have r3 : Re B.G F.F H (B.R.val u) v3 := by rw [← ce.g]; exact (show _ ∧ _ from hv3).2
  subst r1 r2
  obtain ⟨ce', s'⟩ := ce.put s nS ek hp r3
  have := ok.len
  exact ⟨_, q3, _, q2, _, q1, B.p, _, rfl, DPut.k (k := .inl u) ek (Nat.lt_of_le_of_lt this (by decide)), h _ _ _ σ ce' s'⟩

/-! ### expressions that change the dict -/
def liftE (B : Bx) (p : W1 O) : TE := fun σ H Q => ∃ c F S Ts ts, CE B c ∧ ndT Ts = true ∧ ndS S = true ∧ Sv c F H Ts ts S σ ∧ p.run S (fun o => ∀ c F' H' v, CE B c → Sv c F' H' (o :: Ts) (v :: ts) S σ → Q v H') (fun _ => False)
def liftAE (B : Bx) (p : W1 (List O)) : TA := fun σ H Q => ∃ c F S Ts ts, CE B c ∧ ndT Ts = true ∧ ndS S = true ∧ Sv c F H Ts ts S σ ∧ p.run S (fun os => ∀ c F' H' vs, CE B c → Sv c F' H' (os ++ Ts) (vs ++ ts) S σ → os.length = vs.length → Q vs H') (fun _ => False)
theorem ed_of (h : ∀ c : Cc, c.G = B.G → SE X c W e w) : PE X e (liftE B w) := ⟨fun pins s σ H Q I ⟨c, F, S, Ts, ts, ce, _, _, sv, z⟩ =>
  (h c ce.g).run pins s σ H Q I ⟨F, S, Ts, ts, sv, W1.le _ z (fun o z F' H' v s' => z c F' H' v ce s') (fun _ z => z.elim)⟩⟩
theorem ad_nil : PA X [] (liftAE B wNil) := PA.imp pa_nil fun σ H Q ⟨c, F, S, Ts, ts, ce, _, _, s, h⟩ => h c F H [] ce s rfl
def wConsD (p : W1 O) (q : W1 (List O)) : W1 (List O) := ⟨fun S Q E => p.run S (fun o => ndO o = true ∧ q.run S (fun os => Q (o :: os)) E) E, fun hq he h => p.mono (fun _ ⟨n, z⟩ => ⟨n, q.mono (fun _ => hq _) he z⟩) he h⟩
theorem ad_cons {q : W1 (List O)} (ha : PE X e (liftE B w)) (hr : PA X es (liftAE B q)) (hs : starEach (e :: es) X.env = (false, eval e X.env) :: starEach es X.env := by rfl) : PA X (e :: es) (liftAE B (wConsD w q)) :=
  PA.imp (pa_cons ha hr hs) fun σ H Q ⟨c, F, S, Ts, ts, ce, nT, nS, s, h⟩ => ⟨c, F, S, Ts, ts, ce, nT, nS, s, W1.le _ h (fun o ⟨no, ho⟩ c1 F1 H1 v ce1 s1 => ⟨c1, F1, S, _, _, ce1, by unfold ndT at nT ⊢; rw [List.all_cons, no, nT]; rfl, nS, s1, W1.le q ho (fun os hos c2 F2 H2 vs ce2 s2 e => by
    exact hos c2 F2 H2 (v :: vs) ce2 (s2.rot e) (by simp [e])) (fun _ z => z)⟩) (fun _ z => z)⟩
/-- the contract of such a def, m deep -/
def spBel (G : Gx) (C : Rec → Prop) (m : Nat) : Sp := fun vs H Q _ => ∃ (R : Rec), C R ∧ ∃ (F0 : Hp) (p : Addr) (kvs : List (Key × V)) (ws : List V) (r u : Int), vs = ws ++ [.int r, .int u, .ref p] ∧ Same F0 H ∧ F0 p = none ∧ H p = some (.dK kvs) ∧ ReL G F0 H R.ds ws ∧ R.pre m r u ∧ KOK R G F0 H kvs ∧
  ∀ (F H' : Hp) (v : V) (kvs' : List (Key × V)), Same F0 F → Same F H' → (∀ a o, a ≠ p → H a = some o → H' a = some o) → H' p = some (.dK kvs') → KOK R G F H' kvs' → (∀ a, H a ≠ none → F a = F0 a) → Re G F H' (R.val u) v → Q v H'
structure DBel (P : Program) (w : World) (K : PySem.W.Frag) (mg : Str → Option Value) (base : Heap) (x : Str) (k : Nat) (G : Gx) (C : Rec → Prop) (m : Nat) : Prop where
  ex : ∃ f fd ps, FnOk P w K mg base (L2.CX P w) k f fd ps (spBel G C m) ∧ mg x = some (.ref f) ∧ PySem.W.keepIn K (.ref f) = true ∧ Binds K fd ps []
def wBel (R : Rec) (p : Addr) (m : Nat) (q : W1 (List O)) : W1 O := ⟨fun S Q E => q.run S (fun os => ∃ r u, os = R.ds.map .im ++ [O.i r, O.i u, .im (.obj (.ref p))] ∧ R.pre m r u ∧ Q (.im (R.val u))) E, fun hq he h => q.mono (fun os ⟨r, u, a, b, c⟩ => ⟨r, u, a, b, hq _ c⟩) he h⟩
theorem ReL.split {G : Gx} {F H : Hp} : ∀ {ds es : List D} {vs : List V}, ReL G F H (ds ++ es) vs → ∃ us ws, vs = us ++ ws ∧ ReL G F H ds us ∧ ReL G F H es ws
  | [], es, vs, h => ⟨[], vs, rfl, rfl, h⟩
  | d :: ds, es, _, ⟨v, vr, e, h, r⟩ => by
    obtain ⟨us, ws, e2, a, b⟩ := ReL.split (ds := ds) r
    subst e e2
    exact ⟨v :: us, ws, rfl, ⟨v, us, rfl, h, a⟩, b⟩
theorem ndT_map {ds : List D} (h : D.ndL ds = true) : ndT (ds.map .im) = true := by
  induction ds with
  | nil => rfl
  | cons d ds ih =>
    have h' : d.nd = true ∧ D.ndL ds = true := by simpa [D.ndL] using h
    unfold ndT at ih ⊢
    rw [List.map_cons, List.all_cons, ih h'.2]
    show (d.nd && true) = true
    rw [h'.1]
    rfl
theorem ed_bel {C : Rec → Prop} {m kk k : Nat} {x : Str} {p0 : Pos} {q : W1 (List O)} (M : DBel X.prog X.w X.K X.mg X.base x k B.G C m) (hC : C B.R) (hr : Room kk X.A) (hk : k ≤ kk) (tk : Takes X W) (ha : ∀ c : Cc, c.G = B.G → SA X c W (e :: es) q) (hg : Gl X x := by rfl)
    (hdb : (x == ("__debug__" : Str)) = false := by decide) (he : starEach (e :: es) X.env = (false, eval e X.env) :: starEach es X.env := by rfl) (hpl : (backTo pos (starEach es X.env)).any (·.1) = false := by rfl) : PE X (.Call (.Name x p0) (e :: es) [] pos) (liftE B (wBel B.R B.p m q)) := by
  obtain ⟨f, fd, ps, FF, hm, hkp, hb⟩ := M.ex
  have ha' : PA X (e :: es) (fun σ H Q => ∃ c, CE B c ∧ liftA c W q σ H Q) := ⟨fun pc pins s σ H Q I ⟨c, ce, z⟩ => (ha c ce.g).run pc pins s σ H Q I z⟩
  refine PE.imp (pe_callS FF (hr.mono hk) hg hm hkp hb (fun σ => passAt tk σ) ha' hdb he hpl) fun σ H Q ⟨c, F, S, Ts, ts, ce, nT, nS, s, h⟩ => ⟨c, ce, F, S, Ts, ts, s, q.mono (fun os ⟨r, u, eo, hp, z⟩ F1 H1 vs s1 el => ?_) (fun _ z => z.elim) h⟩
  subst eo
  have im : ndT (B.R.ds.map .im ++ [O.i r, O.i u, .im (.obj (.ref B.p))]) = true := by
    have := ndT_map B.R.nds
    unfold ndT at this ⊢
    rw [List.all_append, this]
    rfl
  have rl : ReL c.G F1.F H1 (O.erL (B.R.ds.map .im ++ [O.i r, O.i u, .im (.obj (.ref B.p))])) vs := by
    obtain ⟨A, C', hA, _⟩ := s1.own
    obtain ⟨A1, A2, _, h1, h2⟩ := hA.split el
    exact h1.im (ndT_isIm im)
  rw [erL_append, erL_im] at rl
  obtain ⟨us, ws, ev, h1, h2⟩ := rl.split
  obtain ⟨v1, vr, e1, g1, v2, vr2, e2, g2, v3, vr3, e3, g3, e4⟩ := h2
  have g1 : v1 = .int r := g1
  have g2 : v2 = .int u := g2
  have g3 : v3 = .ref B.p := g3
  have e4 : vr3 = [] := e4
  subst g1 g2 g3 e4 e3 e2 e1 ev
  have s2 := s1.popN el
  obtain ⟨kvs, ek, ok⟩ := ce.now s2
  refine ⟨B.R, hC, F1.F, B.p, kvs, us, r, u, rfl, s2.sub, ce.ff s2, ek, by rw [← ce.g]; exact h1, hp, ok, fun F2 H2 v kvs' a1 a2 a3 a4 a5 a6 a7 => ?_⟩
  obtain ⟨ce3, s3⟩ := ce.rebase s2 nT nS a1 a2 a3 a4 a5 a6
  exact z _ _ H2 v ce3 (s3.pushIm a7)
/-- a method of a kind, an argument of which changes the dict -/
theorem ed_meth {o : Expr} {po : W1 O} {q : W1 (List O)} {R : Ctr} {k : Nat} {m : Str} {apos : Pos} {b : Bool} {pl : Sem Bool} (M : MOk X.prog X.w X.K X.mg X.base k m B.G b R []) (hr : Room k X.A) (tk : Takes X W) (ho : ∀ c : Cc, c.G = B.G → SE X c W o po) (ha : PA X (e :: es) (liftAE B q))
    (hst : starEach (e :: es) X.env = (false, eval e X.env) :: starEach es X.env := by rfl) (hpl : (backTo pos (starEach es X.env)).any (·.1) = false := by rfl)
    (ht : eval (.Call (.Attribute o m apos) (e :: es) [] pos) X.env = (do
      let ov ← eval o X.env
      standAt apos.atName
      let (g, first) ← holding [ov] (getMethod ov m pl)
      callWith pos g first (backTo pos (starEach (e :: es) X.env)) (backToKw pos (keywordEach [] X.env))) := by rfl) :
    PE X (.Call (.Attribute o m apos) (e :: es) [] pos) (liftE B (wMeth b po q R [])) := by
  refine ⟨fun pins s σ H Q I ⟨c, F, S, Ts, ts, ce, nT, nS, sv, h⟩ => ?_⟩
  refine PySem.W.methodCall_KW (pl := pl) (thn ((ed_of ho).run pins s σ H (fun v H1 => ∃ c1 F1 kd, CE B c1 ∧ Sv c1 F1 H1 (.im (.kd kd) :: Ts) (v :: ts) S σ ∧ (kd.isPo = true → b = true) ∧ q.run S (fun os => R.run (.kd kd :: O.erL os ++ []) (fun u => (os.all O.nb = true ∨ u.tidy = true) ∧ ∀ c F' H' v, CE B c → Sv c F' H' (u :: Ts) (v :: ts) S σ → Q v H') (fun _ => False)) (fun _ => False)) I
    ⟨c, F, S, Ts, ts, ce, nT, nS, sv, W1.le _ h (fun o' ⟨kd, eo, hb, z⟩ c1 F1 H1 v ce1 s1 => ⟨c1, F1, kd, ce1, eo ▸ s1, hb, z⟩) (fun _ z => z)⟩) fun u s1 ⟨v, H1, I1, rv, c1, F1, kd, ce1, sv1, hb, z⟩ => ?_) ht
  obtain ⟨a, C, dx, fs, t, ev, hH, hl, ⟨cl, g, fd, ps, ds, hm, hF, hB, hV⟩, hk⟩ := kind_at M (show KindAt B.G H1 kd v from by rw [← ce1.g]; exact sv1.topIm) hb
  subst ev
  obtain rfl : u = Value.ref a := rv
  refine getmeth_ok I1 hH cl hm hl ?_
  refine PySem.W.callWith_K (first := [.ref a]) (h₀ := X.base) I.ok.mod.kin hm.kp (thn (ha.run pos pins s1 σ H1 (fun vs H2 => spOf B.G (R.on t) (.ref a :: vs ++ []) H2 Q (WE W σ)) I1 ?_) fun us s2 ⟨vs, H2, I2, r, q2⟩ => ⟨I2.kIn, ?_⟩) hst hpl
  · refine ⟨c1, F1, S, _, _, ce1, by unfold ndT at nT ⊢; rw [List.all_cons, nT]; rfl, nS, sv1, W1.le _ z (fun os zz c2 F2 H2 vs ce2 s2 el => ?_) (fun _ z => z)⟩
    have s3 := s2.rot el
    have := call_core (c := c2) (W := W) (R := R.on t) (Q := Q) (os := .im (.kd kd) :: os) (vs := .ref a :: vs) s3 (by simp [el]) (dds := []) (dvs := []) (fun _ _ _ => rfl) ⟨⟨kd, _, rfl, hk⟩, R.mono (fun u ⟨t, z⟩ => ⟨t.imp (fun h => by simp only [List.all_cons, h]; rfl) id, fun F' H' v s' => z c2 F' H' v ce2 s'⟩) (fun _ z => z.elim) zz⟩
    rw [ce2.g] at this
    exact this
  · exact run_fnSD (dvs := []) (us := .ref a :: us) (vs := .ref a :: vs) (E := WE W) hF hr hB hV (passAt tk σ) I2 (.cons rfl r) q2
/-- name = e, where e changes the dict -/
def sAsgD (p : W1 O) (g : WG) : WS := ⟨fun S D => ndS S = true ∧ p.run S (fun o => g.run o S D.nx) (fun _ => False), fun l ⟨n, h⟩ => ⟨n, p.mono (fun o z => g.mono l.nx z) (fun e z => z) h⟩⟩
theorem sd_set {i : Nat} {x : Str} {pos' : Pos} (hN : X.N.Nodup) (hi : X.N[i]? = some x) (hx : Loc X.env.scope x) (he : PE X e (liftE B w)) (hs : swapsWith e (some (.Name x pos')) pos.line X.env = pure false := by rfl)
    (hf : X.fn x = true ∨ X.env.scope.names.lookup x = some .local := by first | exact .inl rfl | exact .inr rfl | assumption) : PS X (.Assign [.Name x pos'] e pos) (liftD B (sAsgD w (gF i))) :=
  PS.imp (ps_set hN hi hx he hs hf) fun D σ H ⟨c, F, S, ce, s, nS, h⟩ => ⟨c, F, S, [], [], ce, rfl, nS, s, W1.le _ h (fun o z c' F' H' v ce' s' => by
    obtain ⟨n1, n2, z⟩ := z
    obtain ⟨F2, _, _, s2⟩ := s'.freeze n1
    obtain ⟨F3, _, _, s3⟩ := s2.put rfl n2
    exact z c' F3 H' _ ce' s3) (fun e z => z)⟩
end
section
variable {P : Program} {w : World} {K : PySem.W.Frag} {mg : Str → Option Value} {base : Heap} {G : Gx}
theorem ok_bel {x qual : Str} {st : Stmt} {f : Addr} {fd : FuncData} {N ps : List Str} {k m : Nat} {C : Rec → Prop} {p : Rec → Addr → WS} (F : Fun K x qual st f fd) (S : FnScope N ps (defScope st)) (len : ∀ R, C R → R.ds.length + 3 = ps.length)
    (hbody : m ≠ 0 → ∀ (B : Bx) (cdv : Value) (A : Around) (outer : List Env) (s : Shared) (H : Hp) (E : XK), B.G = G → C B.R → Room k (A.deeper (PyProof.Rows.envOfC qual (defScope st) s.heap.objs.size f cdv)) →
      PSs (cxOf (L2.CX P w) P w K mg base N qual (defScope st) f cdv A outer s H E) (defBody st) (liftD B (p B.R B.p)))
    (pure : ∀ (R : Rec) (a : Addr) (r u : Int), C R → R.pre m r u → (p R a).run (startS N (R.ds ++ [.int r, .int u, .obj (.ref a)])) { nx := fun _ => False, rt := fun o => o.nb = true ∧ o.er = R.val u, ex := fun _ _ => False }) : FnOk P w K mg base (L2.CX P w) (k + 1) f fd ps (spBel G C m) := by
  refine F.okX S (fun vs H Q E ⟨R, hC, F0, a, kvs, ws, r, u, e, _, _, _, rl, _⟩ => by subst e; rw [List.length_append, ← rl.length]; exact len R hC) (fun cdv Ar outer s H vs Q E hr ⟨R, hC, F0, a, kvs, ws, r, u, e, sm, fa, ha, rl, hp, ok, h⟩ => ?_)
  subst e
  have n0 : m ≠ 0 := fun e => by subst e; exact R.z r u hp
  let B : Bx := ⟨G, R, a, F0, H⟩
  refine ⟨_, hbody n0 B cdv Ar outer s H E rfl hC hr, ⟨G, F0, H⟩, ⟨F0, F0⟩, startS N (R.ds ++ [.int r, .int u, .obj (.ref a)]), ?_, ⟨Same.refl _, Same.refl _, sm, Same.refl _, fun _ _ => rfl, [], [], ⟨rfl, rfl⟩, ?_, List.nodup_nil, (fun a ha => by cases ha), (fun a ha => by cases ha), (fun a ha => by cases ha)⟩, WS.le (p R a) (D := ({ nx := fun _ => False, rt := fun o => o.nb = true ∧ o.er = R.val u, ex := fun _ _ => False } : PEnds)) (pure R a r u hC hp) ⟨fun _ z => z.elim, fun o ⟨nb, eo⟩ c F' H' v S' σ' ce s' => ?_, fun _ z => z.elim, fun _ z => z.elim, fun _ _ z => z⟩⟩
  · exact ⟨rfl, fun _ _ _ q => q, ⟨kvs, ha, ok⟩, fa, Same.refl _, fun _ _ => rfl⟩
  · have r2 : ReL G F0 H (R.ds ++ [.int r, .int u, .obj (.ref a)]) (ws ++ [.int r, .int u, .ref a]) := rl.append ⟨_, _, rfl, rfl, _, _, rfl, rfl, _, _, rfl, rfl, rfl⟩
    unfold startS L2.start
    rw [r2.length]
    exact SlL.start r2
  · obtain ⟨F2, _, _, s2⟩ := s'.freeze nb
    rw [eo] at s2
    obtain ⟨kvs', ek, ok'⟩ := ce.now s2
    have := s2.topIm
    rw [ce.g] at this
    refine h F2.F H' v kvs' (fun b o q => s2.ext b o (ce.fe b o q)) s2.sub (fun b o n q => s2.old b o (ce.he b o n q)) ek ok' (fun b q => ?_) this
    rw [s2.dom b (ce.h0 q), ce.fd b q]
theorem bel_of {x qual : Str} {st : Stmt} {N ps : List Str} {lv : Nat} {C : Rec → Prop} {p : Nat → Rec → Addr → WS} (T : AtD K mg x qual st) (S : FnScope N ps (defScope st)) (len : ∀ R, C R → R.ds.length + 3 = ps.length) (bd : ∀ f fd, Fun K x qual st f fd → Binds K fd ps [])
    (hbody : ∀ (m : Nat) (M : DBel P w K mg base x (lv + m + 1) G C m) (B : Bx) (f : Addr) (cdv : Value) (A : Around) (outer : List Env) (s : Shared) (H : Hp) (E : XK), B.G = G → C B.R → Room (lv + m + 1) (A.deeper (PyProof.Rows.envOfC qual (defScope st) s.heap.objs.size f cdv)) →
      PSs (cxOf (L2.CX P w) P w K mg base N qual (defScope st) f cdv A outer s H E) (defBody st) (liftD B (p m B.R B.p)))
    (pure : ∀ (m : Nat) (R : Rec) (a : Addr) (r u : Int), C R → R.pre (m + 1) r u → (p m R a).run (startS N (R.ds ++ [.int r, .int u, .obj (.ref a)])) { nx := fun _ => False, rt := fun o => o.nb = true ∧ o.er = R.val u, ex := fun _ _ => False }) : ∀ m, DBel P w K mg base x (lv + m + 1) G C m
  | 0 => by
    obtain ⟨f, fd, F, hm⟩ := T.ex
    exact ⟨f, fd, ps, ok_bel (p := fun _ _ => sNever) F S len (fun h => absurd rfl h) (fun R a r u _ h => (R.z r u h).elim), hm, F.kp, bd f fd F⟩
  | m + 1 => by
    obtain ⟨f, fd, F, hm⟩ := T.ex
    exact ⟨f, fd, ps, ok_bel F S len (fun _ B => hbody m (bel_of T S len bd hbody pure m) B f) (pure m), hm, F.kp, bd f fd F⟩
end
/-- below(kind, table, 0, 0, {}) -/
def wBel0 (C : Rec → Prop) (m : Nat) : W1 O := ⟨fun S Q _ => ∃ R d0 d1, C R ∧ R.ds = [d0, d1] ∧ S[0]? = some (some (.im d0)) ∧ S[1]? = some (some (.im d1)) ∧ R.pre m 0 0 ∧ Q (.im (R.val 0)), fun hq _ ⟨R, d0, d1, a, b, c, d, e, f⟩ => ⟨R, d0, d1, a, b, c, d, e, hq _ f⟩⟩
section
variable {X : Cx} {c : Cc} {W : WX} {pos : Pos}
theorem se_bel0 {C : Rec → Prop} {m kk k : Nat} {x y0 y1 : Str} {p0 p1 p2 p3 p4 p5 : Pos} {j1 j2} (M : DBel X.prog X.w X.K X.mg X.base x k c.G C m) (hr : Room kk X.A) (hk : k ≤ kk) (tk : Takes X W)
    (hN : X.N[0]? = some y0 := by rfl) (hM : X.N[1]? = some y1 := by rfl)
    (hv : Vis X.env.scope y0 := by first | exact Or.inl rfl | exact Or.inr (Or.inl rfl) | exact Or.inr (Or.inr rfl)) (hd : (y0 == ("__debug__" : Str)) = false := by decide) (hcd : (y0 == ("__classdict__" : Str)) = false := by decide)
    (hv2 : Vis X.env.scope y1 := by first | exact Or.inl rfl | exact Or.inr (Or.inl rfl) | exact Or.inr (Or.inr rfl)) (hd2 : (y1 == ("__debug__" : Str)) = false := by decide) (hcd2 : (y1 == ("__classdict__" : Str)) = false := by decide) (hg : Gl X x := by rfl)
    (hdb : (x == ("__debug__" : Str)) = false := by decide)
    (h1 : starEach [.Name y0 p1, .Name y1 p2, .Constant (.int 0) j1 p3, .Constant (.int 0) j2 p4, .Dict [] [] p5] X.env = (false, eval (.Name y0 p1) X.env) :: starEach [.Name y1 p2, .Constant (.int 0) j1 p3, .Constant (.int 0) j2 p4, .Dict [] [] p5] X.env := by rfl)
    (h2 : starEach [.Name y1 p2, .Constant (.int 0) j1 p3, .Constant (.int 0) j2 p4, .Dict [] [] p5] X.env = (false, eval (.Name y1 p2) X.env) :: starEach [.Constant (.int 0) j1 p3, .Constant (.int 0) j2 p4, .Dict [] [] p5] X.env := by rfl)
    (h3 : starEach [.Constant (.int 0) j1 p3, .Constant (.int 0) j2 p4, .Dict [] [] p5] X.env = (false, eval (.Constant (.int 0) j1 p3) X.env) :: starEach [.Constant (.int 0) j2 p4, .Dict [] [] p5] X.env := by rfl)
    (h4 : starEach [.Constant (.int 0) j2 p4, .Dict [] [] p5] X.env = (false, eval (.Constant (.int 0) j2 p4) X.env) :: starEach [.Dict [] [] p5] X.env := by rfl)
    (h5 : starEach [.Dict [] [] p5] X.env = (false, eval (.Dict [] [] p5) X.env) :: starEach [] X.env := by rfl)
    (hpl : (backTo pos (starEach [.Name y1 p2, .Constant (.int 0) j1 p3, .Constant (.int 0) j2 p4, .Dict [] [] p5] X.env)).any (·.1) = false := by rfl) :
    SE X c W (.Call (.Name x p0) [.Name y0 p1, .Name y1 p2, .Constant (.int 0) j1 p3, .Constant (.int 0) j2 p4, .Dict [] [] p5] [] pos) (wBel0 C m) := by
  obtain ⟨f, fd, ps, FF, hm, hkp, hb⟩ := M.ex
  refine PE.imp (pe_callS FF (hr.mono hk) hg hm hkp hb (fun σ => passAt tk σ) (pa_cons (pe_var hN hv hd hcd) (pa_cons (pe_var hM hv2 hd2 hcd2) (pa_cons pe_int (pa_cons pe_int (pa_cons pe_dnewK pa_nil h5) h4) h3) h2) h1) hdb h1 hpl) fun σ H Q ⟨F, S, Ts, ts, s, R, d0, d1, hC, ed, e0, e1, hp, q⟩ => ?_
  obtain ⟨v0, q0, g0⟩ := s.view e0
  obtain ⟨v1, q1, g1⟩ := s.view e1
  refine ⟨_, q0, _, q1, fun p hn => ?_⟩
  obtain ⟨nF, nB, n0⟩ := s.free hn
  have s1 := s.alloc (o := .dK []) hn
  have g0' : Re c.G F.F H d0 v0 := (show _ ∧ _ from g0).2
  have g1' : Re c.G F.F H d1 v1 := (show _ ∧ _ from g1).2
  have kp : Keep H (upd H p (.dK [])) := .of (upd_same_of hn)
  refine ⟨R, hC, F.F, p, [], [v0, v1], 0, 0, rfl, s1.sub, nF, upd_same, by rw [ed]; exact ⟨_, _, rfl, g0'.mono (Same.refl _) kp, _, _, rfl, g1'.mono (Same.refl _) kp, rfl⟩, hp, ⟨List.nodup_nil, fun k v h => by cases h⟩, fun F2 H2 v kvs' a1 a2 a3 a4 a5 a6 a7 => ?_⟩
  have k2 : Same H H2 := fun a o e => a3 a o (ne_of_none e hn) (upd_same_of hn a o e)
  obtain ⟨F', s'⟩ := s.back (o := .im (R.val 0)) a1 k2 a2 (fun a ha => a6 a (by
    have : a ≠ p := fun z => by subst z; exact ha hn
    rw [upd_ne this]; exact ha)) ⟨rfl, a7⟩ List.nodup_nil (fun a ha => by cases ha)
  exact q F' H2 v s'
end
end PL

/-! P40 -/
set_option Elab.async false
set_option linter.all false
set_option maxRecDepth 100000
set_option maxHeartbeats 4000000
/-! P40: & and | of whole numbers from 0 on, >> likewise, min of three, x.pop(k). -/
namespace PL
open PySem PySem.Spec L2 PyProof.Rows
theorem units1 {k : Nat} {A : Around} (r : Room k A) : A.units + 1 < cLine := by have := r.un; omega
theorem bitOr_pp {x y : Int} (hx : 0 ≤ x) (hy : 0 ≤ y) : Builtin.bitOr x y = ((x.toNat ||| y.toNat : Nat) : Int) := by
  rw [bitOr_and, bitAnd_pp hx hy]
  have := nat_or_add_and x.toNat y.toNat
  omega
section
variable {X : Cx} {c : Cc} {W : WX} {a b d e : Expr} {pa pb pe : W1 O} {es : List Expr} {q : W1 (List O)} {pos : Pos}
abbrev uBand : U2 := uI (fun i j => 0 ≤ i ∧ 0 ≤ j) fun i j => ((i.toNat &&& j.toNat : Nat) : Int)
abbrev uBor : U2 := uI (fun i j => 0 ≤ i ∧ 0 ≤ j) fun i j => ((i.toNat ||| j.toNat : Nat) : Int)
theorem op_andP : OpR X (binaryOp .BitAnd) (rI (fun i j => 0 ≤ i ∧ 0 ≤ j) fun i j => .int ((i.toNat &&& j.toNat : Nat) : Int)) := by
  intro pins s σ H x y v u Q I rx ry ⟨i, j, e1, e2, hc, q⟩
  subst e1 e2
  have q : Q (.int ((i.toNat &&& j.toNat : Nat) : Int)) H := q
  rw [← bitAnd_pp hc.1 hc.2] at q
  exact op_and pins s σ H _ _ v u Q I rx ry ⟨_, _, rfl, rfl, q⟩
theorem op_orP : OpR X (binaryOp .BitOr) (rI (fun i j => 0 ≤ i ∧ 0 ≤ j) fun i j => .int ((i.toNat ||| j.toNat : Nat) : Int)) := by
  intro pins s σ H x y v u Q I rx ry ⟨i, j, e1, e2, hc, q⟩
  subst e1 e2
  have q : Q (.int ((i.toNat ||| j.toNat : Nat) : Int)) H := q
  rw [← bitOr_pp hc.1 hc.2] at q
  exact op_or pins s σ H _ _ v u Q I rx ry ⟨_, _, rfl, rfl, q⟩
theorem se_band (ha : SE X c W a pa) (hb : SE X c W b pb) : SE X c W (.BinOp a .BitAnd b pos) (w2 pa pb uBand) := se_op op_andP fit_I ha hb
theorem se_bor (ha : SE X c W a pa) (hb : SE X c W b pb) : SE X c W (.BinOp a .BitOr b pos) (w2 pa pb uBor) := se_op op_orP fit_I ha hb
theorem len3' {α : Type} {vs : List α} (h : 3 = vs.length) : ∃ u v w, vs = [u, v, w] := len3 h
def uA3 (f : Int → Int → Int → Int) : UA := ⟨fun os Q => ∃ i j k, os = [O.i i, O.i j, O.i k] ∧ Q (O.i (f i j k)), fun hq ⟨i, j, k, e, h⟩ => ⟨i, j, k, e, hq _ h⟩⟩
abbrev min3 : Int → Int → Int → Int := fun i j k => if k < (if j < i then j else i) then k else (if j < i then j else i)
theorem se_min3 {p : Pos} (hc : X.calm = true) (hm : X.mg "min" = none) (ha : SA X c W [a, b, d] q) (hg : Gl X "min" := by rfl) (he : starEach [a, b, d] X.env = (false, eval a X.env) :: starEach [b, d] X.env := by rfl) (hpl : (backTo pos (starEach [b, d] X.env)).any (·.1) = false := by rfl) :
    SE X c W (.Call (.Name "min" p) [a, b, d] [] pos) (wA q (uA3 min3)) :=
  se_cB (x := "min") (call_min3Nu hc) (fun F H Ts ts S σ os vs Q s e ⟨i, j, k, ea, z⟩ => by
    subst ea
    obtain ⟨u, v, w, rfl⟩ := len3 e
    have s0 : Sv c F H (O.i i :: O.i j :: O.i k :: Ts) (u :: v :: w :: ts) S σ := s
    have e1 := s0.int
    have e2 := s0.pop.int
    have e3 := s0.pop.pop.int
    subst e1 e2 e3
    refine ⟨.int i, .int j, .int k, .int (min3 i j k), rfl, ?_, z F H _ (s0.pop.pop.pop.pushIm rfl)⟩
    have m2 : ∀ x y : Int, nuMin2 (.int x) (.int y) = some (.int (if y < x then y else x)) := fun x y => by
      show (some (decide (y < x))).map _ = _
      rw [Option.map_some]
      congr 1
      by_cases h : y < x
      · rw [decide_eq_true h, if_pos rfl, if_pos h]
      · rw [decide_eq_false h, if_neg (by decide), if_neg h]
    unfold nuMin3
    rw [m2]
    exact m2 _ _) hg hm (by decide +kernel) ha (he := he) (hpl := hpl)
theorem OwL.eraseAt {G : Gx} {F H : Hp} : ∀ {acc : List O} {xs : List V} {B : List Addr} {j : Nat}, OwL G F H acc xs B → ∃ B', OwL G F H (acc.eraseIdx j) (xs.eraseIdx j) B' ∧ B'.Sublist B
  | [], xs, B, j, h => by
    obtain ⟨e, eB⟩ := h
    subst e eB
    exact ⟨[], ⟨rfl, rfl⟩, List.Sublist.refl _⟩
  | a :: acc, _, _, 0, ⟨v, vr, B1, B2, e, eB, h, r⟩ => by
    subst e eB
    exact ⟨B2, r, List.sublist_append_right _ _⟩
  | a :: acc, _, _, j + 1, ⟨v, vr, B1, B2, e, eB, h, r⟩ => by
    subst e eB
    obtain ⟨B', h1, h2⟩ := OwL.eraseAt (j := j) r
    exact ⟨B1 ++ B', ⟨v, _, B1, B', rfl, rfl, h, h1⟩, h2.append_left _⟩
theorem UpOk.erase {G : Gx} {F H0 : Hp} {acc : List O} {xs : List V} {o : O} {y : V} {j : Nat} : UpOk G F H0 acc (acc.eraseIdx j) xs (xs.eraseIdx j) o y := fun H B A0 _ h ho nd => by
  obtain ⟨B', h1, h2⟩ := OwL.eraseAt (j := j) h
  exact ⟨B', h1, (List.nodup_append.mp nd).2.1.sublist h2, fun a ha => List.mem_append_right _ (h2.subset ha)⟩
/-- x.pop(k), its answer dropped -/
def sPopAt (i : Nat) (p : W1 O) : WS := ⟨fun S D => ∃ acc, S[i]? = some (some (.ls acc)) ∧ p.run S (fun o => ∃ k : Nat, o = O.i (k : Int) ∧ k < acc.length ∧ D.nx (S.set i (some (.ls (acc.eraseIdx k))))) (D.ex S),
  fun l ⟨a, e, h⟩ => ⟨a, e, p.mono (fun o ⟨k, z1, z2, z⟩ => ⟨k, z1, z2, l.nx _ z⟩) (fun e z => l.ex _ e z) h⟩⟩
theorem ss_popAt (i : Nat) {x : Str} {p2 apos cpos : Pos} (he : SE X c W e pe) (hN : X.N[i]? = some x := by rfl) (hv : Vis X.env.scope x := by first | exact Or.inl rfl | exact Or.inr (Or.inl rfl) | exact Or.inr (Or.inr rfl))
    (hd : (x == ("__debug__" : Str)) = false := by decide) (hcd : (x == ("__classdict__" : Str)) = false := by decide)
    (hbase : attributeBase (.Name x p2) "pop" X.env (eval (.Name x p2) X.env) = eval (.Name x p2) X.env := by rfl)
    (hfew : ((backTo cpos (starEach [e] X.env)).all (fun x => !x.1) && (backToKw cpos (keywordEach [] X.env)).all (fun x => x.1.isSome)
      && decide (([e] : List Expr).length + ([] : List Keyword).length + (if ([] : List Keyword).isEmpty then 0 else 1) < 30)) = true := by rfl)
    (hline : (apos.endLine == cpos.line) = true := by rfl) (hs : starEach [e] X.env = (false, eval e X.env) :: starEach [] X.env := by rfl) (hplain : (backTo cpos (starEach ([] : List Expr) X.env)).any (·.1) = false := by rfl)
    (hsw : swapsWith (.Call (.Attribute (.Name x p2) "pop" apos) [e] [] cpos) none pos.line X.env = pure false := by rfl) :
    SS X c W (.Expr (.Call (.Attribute (.Name x p2) "pop" apos) [e] [] cpos) pos) (sPopAt i pe) :=
  PS.imp (ps_expr (pe_bm PySem.F.plainAttrs_list PySem.F.slot_list_pop PySem.F.type_list_pop mt_popAt (pe_var hN hv hd hcd) (pa_cons he pa_nil hs) hbase hfew hline hs hplain) hsw) fun D σ H ⟨F, S, Ts, ts, nb, s, acc, ea, h⟩ => by
    obtain ⟨p, xs, e1, e2, _⟩ := s.look nb ea
    refine ⟨_, e1, .inl ⟨rfl, _, SqL.of e2⟩, ?_⟩
    refine ⟨F, S, Ts, ts, s, pe.mono (fun o ⟨k, eo, hk, q⟩ F1 H1 v s1 => ?_) (fun e z => exK.st z) h⟩
    subst eo
    have ev := s1.int
    subst ev
    obtain ⟨D', xs', e3, e4, e5, up⟩ := s1.upSlot (nb_cons rfl nb) ea
    rw [e1] at e3
    cases e3
    have hz : acc.length ≤ sizeLine := by
      obtain ⟨v0, F9, _, e0, _, s9⟩ := s.move nb ea
      rw [e1] at e0
      cases e0
      obtain ⟨A, ho⟩ := s9.top
      obtain ⟨_, _, _, _, _, _, _, z, _⟩ := (show Ow c.G F9.F H (.ls acc) (.ref p) A from ho.ow rfl)
      exact z
    have hz2 : sizeLine = 16777216 := sizeLine_eq
    obtain ⟨F', s2⟩ := up (acc.eraseIdx k) (xs'.eraseIdx k) (by rw [List.length_eraseIdx]; split <;> omega) UpOk.erase
    refine ⟨p, xs', (k : Int), k, xs'[k]'(by omega), rfl, rfl, e4, by omega, by omega, ?_, List.getElem?_eq_getElem (by omega), q F' _ σ s2⟩
    unfold seqIndex?
    have n0 : ¬ ((k : Int) < 0) := by omega
    simp only [n0, if_false]
    have h1 : decide (0 ≤ (k : Int)) = true := decide_eq_true (by omega)
    have h2 : decide ((k : Int) < (xs'.length : Int)) = true := decide_eq_true (by omega)
    rw [h1, h2]
    simp
end
end PL

/-! P41 -/
set_option Elab.async false
set_option linter.all false
set_option maxRecDepth 100000
set_option maxHeartbeats 4000000
/-! P41: the parts of an own list are frozen; a frozen part of an own list is read. -/
namespace PL
open PySem PySem.Spec L2
theorem ReL.owL {G : Gx} {F H : Hp} : ∀ {ds : List D} {vs : List V}, ReL G F H ds vs → OwL G F H (ds.map .im) vs []
  | [], _, h => ⟨h, rfl⟩
  | d :: ds, _, ⟨v, vr, e, h, r⟩ => ⟨v, vr, [], [], e, rfl, ⟨rfl, h⟩, r.owL⟩
theorem OwL.getIm {G : Gx} {F H : Hp} : ∀ {acc : List O} {xs : List V} {B : List Addr} {j : Nat} {d : D}, OwL G F H acc xs B → acc[j]? = some (.im d) → ∃ v, xs[j]? = some v ∧ Re G F H d v
  | [], _, _, j, d, _, e => by simp at e
  | o :: acc, _, _, 0, d, ⟨v, vr, B1, B2, e, eB, h, r⟩, e2 => by
    simp at e2
    subst e e2
    exact ⟨v, rfl, h.2⟩
  | o :: acc, _, _, j + 1, d, ⟨v, vr, B1, B2, e, eB, h, r⟩, e2 => by
    subst e
    obtain ⟨w, h1, h2⟩ := OwL.getIm (j := j) (d := d) r (by simpa using e2)
    exact ⟨w, by simpa using h1, h2⟩
section
variable {c : Cc} {F : Fz} {H : Hp} {Ts : List O} {ts : List V} {S : List (Option O)} {σ : L2.St}
theorem Sv.freezeIn {acc : List O} {v : V} (s : Sv c F H (.ls acc :: Ts) (v :: ts) S σ) : ∃ F' : Fz, Sv c F' H (.ls ((O.erL acc).map .im) :: Ts) (v :: ts) S σ := by
  obtain ⟨A, C, ⟨v', vr, A1, A2, e, eA, h, r⟩, hC, nd, no, nA, nC⟩ := s.own
  cases e
  obtain ⟨p, xs, B, ev, eB, nF, hp, z, ol⟩ := (show Ow c.G F.F H (.ls acc) v A1 from h)
  subst eB ev eA
  have own1 := OwL.own ol
  have nd' : (p :: (B ++ (A2 ++ C))).Nodup := by simpa using nd
  have pB : p ∉ B := fun hm => (List.nodup_cons.mp nd').1 (List.mem_append_left _ hm)
  have f := frz_same (F := F.F) (H := H) (A := B) fun a ha => (own1 a ha).1
  have g := frz_same (F := F.B) (H := H) (A := B) fun a ha => nA a (by simp [ha])
  have ndB := (List.nodup_cons.mp nd').2
  have out : ∀ a ∈ A2 ++ C, a ∉ B := fun a ha h1 => (List.nodup_append.mp ndB).2.2 a h1 a ha rfl
  have rel := OwL.frz f acc xs B (fun a ha => frz_in ha) ol
  refine ⟨⟨PL.frz F.F H B, PL.frz F.B H B⟩, fun a o e => f a o (s.ext a o e), frz_mono s.fb, frz_sub s.bh, s.old, fun a ha => ?_, p :: A2, C, ⟨.ref p, ts, [p], A2, rfl, rfl, ⟨p, xs, [], rfl, rfl, (frz_out pB).trans nF, hp, by rw [List.length_map, O.erL_length]; exact z, rel.owL⟩, ?_⟩, ?_, ?_, fun a ha => ?_, fun a ha => ?_, fun a ha => ?_⟩
  · refine (frz_out fun h1 => ?_).trans (s.dom a ha)
    exact ha (no a (by simp [h1]))
  · refine r.monoK f g (.refl _) fun a ha => ⟨?_, rfl⟩
    exact (frz_out (out a (List.mem_append_left _ ha))).trans (r.own a ha).1
  · refine hC.mono f (.refl _) fun a ha => ⟨?_, rfl⟩
    exact (frz_out (out a (List.mem_append_right _ ha))).trans (hC.own a ha).1
  · have hs : (p :: (A2 ++ C)).Sublist (p :: (B ++ (A2 ++ C))) := (List.sublist_append_right B (A2 ++ C)).cons_cons p
    exact nd'.sublist hs
  · have ha : a ∈ p :: (A2 ++ C) := ha
    refine no a ?_
    rcases List.mem_cons.mp ha with h | h
    · simp [h]
    · rcases List.mem_append.mp h with h | h <;> simp [h]
  · rcases List.mem_cons.mp ha with h | h
    · subst h
      exact (frz_out pB).trans (nA a (by simp))
    · exact (frz_out (out a (List.mem_append_left _ h))).trans (nA a (by simp [h]))
  · exact (frz_out (out a (List.mem_append_right _ ha))).trans (nC a ha)
end
section
variable {X : Cx} {c : Cc} {W : WX} {st : Stmt} {p : WS} {b : Expr} {pb : W1 O} {pos : Pos}
/-- the parts of an own list are frozen (ahead of a statement; no row of the text) -/
def sFzE (i : Nat) (p : WS) : WS := ⟨fun S D => ∃ acc, S[i]? = some (some (.ls acc)) ∧ p.run (S.set i (some (.ls ((O.erL acc).map .im)))) D, fun l ⟨o, e, h⟩ => ⟨o, e, p.mono l h⟩⟩
theorem ss_fzE (i : Nat) (h : SS X c W st p) : SS X c W st (sFzE i p) :=
  PS.imp h fun D σ H ⟨F, S, Ts, ts, nb, s, acc, e, q⟩ => by
    obtain ⟨v, F1, _, ev, _, s1⟩ := s.move nb e
    obtain ⟨F2, s2⟩ := s1.freezeIn
    have hi : i < (S.set i none).length := by
      rw [List.length_set]
      exact (List.getElem?_eq_some_iff.mp e).1
    obtain ⟨F3, _, _, s3⟩ := s2.put rfl hi
    rw [set_same ev, List.set_set] at s3
    exact ⟨F3, _, Ts, ts, nb, s3, q⟩
/-- x[e]: a frozen part of the slot's own list -/
def wIxV (i : Nat) (pb : W1 O) : W1 O := ⟨fun S Q E => ∃ acc, S[i]? = some (some (.ls acc)) ∧ pb.run S (fun k => ∃ n d, k = O.i n ∧ atI acc n = some (.im d) ∧ Q (.im d)) E, fun hq he ⟨a, e, h⟩ => ⟨a, e, pb.mono (fun k ⟨n, d, e1, e2, q⟩ => ⟨n, d, e1, e2, hq _ q⟩) he h⟩⟩
theorem se_ixV (i : Nat) {x : Str} {p1 : Pos} (hK : X.K = c.G.K) (hb : SE X c W b pb) (hN : X.N[i]? = some x := by rfl) (hv : Vis X.env.scope x := by first | exact Or.inl rfl | exact Or.inr (Or.inl rfl) | exact Or.inr (Or.inr rfl))
    (hd : (x == ("__debug__" : Str)) = false := by decide) (hcd : (x == ("__classdict__" : Str)) = false := by decide) (hs : PlainIx b := by exact fun _ _ => rfl) : SE X c W (.Subscript (.Name x p1) b pos) (wIxV i pb) := by
  refine PE.imp (pe_ix (r := rIx X.K) ix_seq (pe_var hN hv hd hcd) hb hs) fun σ H Q ⟨F, S, Ts, ts, s, acc, e, h⟩ => ?_
  obtain ⟨_, _, _, hC0, _⟩ := s.own
  obtain ⟨v, _, ev, _, _⟩ := hC0.get e
  refine ⟨v, ev, F, S, Ts, ts, s, pb.mono (fun k ⟨n, d, ek, ea, q⟩ F1 H1 y s1 => ?_) (fun _ z => z) h⟩
  subst ek
  have hy := s1.int
  subst hy
  obtain ⟨A, C, hA, hC, _⟩ := s1.own
  obtain ⟨v1, B, ev1, ho, _⟩ := hC.get e
  rw [ev] at ev1
  cases ev1
  obtain ⟨p, xs, B', ep, _, nF, hp, z, ol⟩ := (show Ow c.G F1.F H1 (.ls acc) v B from ho)
  subst ep
  obtain ⟨j, h1, h2⟩ := atI_get2 ol.len ea
  obtain ⟨w, hw, hr⟩ := ol.getIm h1
  exact .inl ⟨p, xs, n, w, rfl, rfl, SqL.of hp, h2 w hw, q F1 H1 w (s1.pop.pushIm hr)⟩
end
end PL

/-! P42 -/
set_option Elab.async false
set_option linter.all false
set_option maxRecDepth 100000
set_option maxHeartbeats 4000000
/-! P42: a comprehension over an own list whose parts are frozen. -/
namespace PL
open PySem PySem.Spec L2
def wLCV (i0 : Nat) (g : WG) (t : W1 Bool) (e : W1 O) (vs : List Nat) : W1 O := ⟨fun S Q _ => ∃ ds : List D, S[i0]? = some (some (.ls (ds.map .im))) ∧ wipeS S vs = S ∧ lcI (ds.map .im) g t e S Q,
  fun hq _ ⟨ds, eS, hw, I, h0, hs, hd⟩ => ⟨ds, eS, hw, I, h0, hs, fun acc hi => hq _ (hd acc hi)⟩⟩
theorem lift_lcV {c : Cc} {W : WX} {K : PySem.W.Frag} {i0 : Nat} {g : TG} {gp : WG} {t : W1 Bool} {e : W1 O} {vs : List Nat} (hg : GOk c g gp vs) (σ : L2.St) (H : Hp) (Q : VK) (h : lift c W (wLCV i0 gp t e vs) σ H Q) :
    tLc (iAny K (tVar i0)) g (liftT c W0 t) (lift c W0 e) vs σ H Q := by
  obtain ⟨F, S, Ts, ts, s, ds, eS, hw, I, h0, hs, hd⟩ := h
  have at_ : ∀ {F : Fz} {H : Hp} {Ts : List O} {ts : List V} {σ : L2.St}, Sv c F H Ts ts S σ → ∃ p xs, σ[i0]? = some (some (.ref p)) ∧ H p = some (.lst xs) ∧ xs.length = ds.length ∧ ds.length ≤ sizeLine ∧ ∀ (j : Nat) d, ds[j]? = some d → ∃ x, xs[j]? = some x ∧ Re c.G F.F H d x := fun s => by
    obtain ⟨A, C, hA, hC, _⟩ := s.own
    obtain ⟨v, B, ev, ho, _⟩ := hC.get eS
    obtain ⟨p, xs, B', ep, _, nF, hp, z, ol⟩ := (show Ow c.G _ _ (.ls (ds.map .im)) v B from ho)
    subst ep
    refine ⟨p, xs, ev, hp, by rw [← ol.len, List.length_map], by rwa [List.length_map] at z, fun j d hj => ?_⟩
    exact ol.getIm (j := j) (d := d) (by rw [List.getElem?_map, hj]; rfl)
  obtain ⟨p, xs, ev, hp, el, zl, _⟩ := at_ s
  refine ⟨.ref p, ev, p, rfl, .inl ⟨⟨xs, SqL.of hp⟩, fun D nD => ?_⟩⟩
  obtain ⟨F2, _, s2⟩ := Sv.mkL (os := []) (vs := []) s rfl (Nat.zero_le _) nD
  have s2 : Sv c F2 (upd H D (.lst [])) (.ls [] :: Ts) (.ref D :: ts) S σ := s2
  refine ⟨fun i m H => m = ds.length - i ∧ i ≤ ds.length ∧ ∃ (F : Fz) (acc : List O), Sv c F H (.ls acc :: Ts) (.ref D :: ts) S (L2.wipe σ vs) ∧ acc.length ≤ i ∧ I i acc,
    ⟨ds.length, by simp, Nat.zero_le _, F2, [], by rw [← hw]; exact s2.wipe vs, Nat.le_refl _, h0⟩, ?_⟩
  rintro i m H ⟨rfl, hi, F, acc, s, la, hI⟩
  obtain ⟨p', xs', ev', hp', el', _, hx⟩ := at_ s
  have ep : p' = p := by
    have := (wipe_some ev').1
    rw [ev] at this
    cases this
    rfl
  subst ep
  by_cases hlt : i < ds.length
  · obtain ⟨x0, hx0, hre⟩ := hx i _ (List.getElem?_eq_getElem hlt)
    refine .inr ⟨⟨xs', x0, SqL.of hp', hx0⟩, fun H' => ∃ (F : Fz) (acc : List O), Sv c F H' (.ls acc :: Ts) (.ref D :: ts) S (L2.wipe σ vs) ∧ acc.length ≤ i + 1 ∧ I (i + 1) acc, fun H' ⟨F, acc, s, la, hI⟩ => ⟨ds.length - (i + 1), by omega, rfl, hlt, F, acc, s, la, hI⟩, fun x H' ⟨eH, y⟩ => ?_⟩
    subst eH
    have := y xs' (SqL.of hp')
    rw [hx0] at this
    cases this
    have s3 := s.pushIm hre
    refine hg F H' _ _ S _ _ x0 _ s3 (gp.mono (fun S2 z F4 σ4 s4 hw0 hw2 => ⟨hw0.trans (wipe_idem _ _), ?_⟩) (hs i _ acc (by rw [List.getElem?_map, List.getElem?_eq_getElem hlt]; rfl) hI))
    have back : ∀ {F5 : Fz} {H5 : Hp} {acc' : List O}, Sv c F5 H5 (.ls acc' :: Ts) (.ref D :: ts) S2 σ4 → Sv c F5 H5 (.ls acc' :: Ts) (.ref D :: ts) S (L2.wipe σ vs) := fun {F5 H5 acc'} s5 => by
      have s6 := s5.wipe vs
      rw [hw0, hw2, hw] at s6
      rw [wipe_idem] at s6
      exact s6
    refine ⟨F4, S2, _, _, s4, t.mono (fun b hb F5 H5 s5 => ?_) (fun _ z => z.elim) z⟩
    cases b
    · rw [if_neg Bool.false_ne_true] at hb ⊢
      exact ⟨F5, acc, back s5, by omega, hb⟩
    · rw [if_pos rfl] at hb ⊢
      refine ⟨F5, S2, _, _, s5, e.mono (fun u ⟨nb, hu⟩ F6 H6 yv s6 => ?_) (fun _ z => z.elim) hb⟩
      obtain ⟨xs, hx, lx, s7⟩ := Sv.app (os := []) (vs := []) s6 rfl nb (by omega)
      exact ⟨xs, hx, by omega, F6, acc ++ [u], back s7, by rw [List.length_append]; exact Nat.succ_le_succ la, hu⟩
  · have ei : i = ds.length := by omega
    subst ei
    refine .inl ⟨⟨xs', SqL.of hp', by omega⟩, hd acc (by rw [List.length_map]; exact hI) F H _ ?_⟩
    exact s.weak (L2.wipe_length _ _) fun j v q => (wipe_some q).1
section
variable {X : Cx} {c : Cc} {W : WX} {elt tg : Expr} {ifs : List Expr} {scope : Scope} {own : List (Str × Nat)} {pos spos p2 : Pos} {i0 : Nat} {x : Str} {g : TG} {gp : WG} {t : W1 Bool} {e : W1 O}
theorem se_lcV (i0 : Nat) (hc : X.calm = true) (hN : X.N.Nodup) (hgo : GOk c g gp (own.map (·.2))) (ok : BlkOk X.N X.env.scope scope own)
    (hg : ∀ (s : Shared) (H : Hp) (C : Addr) (cl : List (Str × Addr)) (fp : List Addr), PG (X.blk s H scope (compEnvC scope cl C X.env) fp) tg g)
    (ht : ∀ (s : Shared) (H : Hp) (C : Addr) (cl : List (Str × Addr)) (fp : List Addr), PTs (X.blk s H scope (compEnvC scope cl C X.env) fp) ifs (liftT c W0 t))
    (he : ∀ (s : Shared) (H : Hp) (C : Addr) (cl : List (Str × Addr)) (fp : List Addr), SE (X.blk s H scope (compEnvC scope cl C X.env) fp) c W0 elt e)
    (hx : X.N[i0]? = some x := by rfl) (hv : Vis X.env.scope x := by first | exact Or.inl rfl | exact Or.inr (Or.inl rfl) | exact Or.inr (Or.inr rfl))
    (hd : (x == ("__debug__" : Str)) = false := by decide) (hcd : (x == ("__classdict__" : Str)) = false := by decide) (hs : ∀ v, foldedSetIterable (.Name x p2) X.env v = pure v := by intro _; rfl) :
    SE X c W (.ListComp elt [⟨tg, .Name x p2, ifs, 0⟩] scope pos) (wLCV i0 gp t e (own.map (·.2))) := PE.imp (pe_lc hc hN (pi_any (pe_var hx hv hd hcd)) ok hg ht he hs) (lift_lcV hgo)
theorem ss_setLcV (i0 : Nat) {i : Nat} {y : Str} {py : Pos} {gg : WG} (hgg : gg = gN i ∨ gg = gF i) (hc : X.calm = true) (hN : X.N.Nodup) (hy : X.N[i]? = some y) (hyl : X.env.scope.names.lookup y = some .local)
    (hsw : swapsWith (.ListComp elt [⟨tg, .Name x p2, ifs, 0⟩] scope pos) (some (.Name y py)) spos.line X.env = pure true) (hgo : GOk c g gp (own.map (·.2))) (ok : BlkOk X.N X.env.scope scope own)
    (hg : ∀ (s : Shared) (H : Hp) (C : Addr) (cl : List (Str × Addr)) (fp : List Addr), PG (X.blk s H scope (compEnvC scope cl C X.env) fp) tg g)
    (ht : ∀ (s : Shared) (H : Hp) (C : Addr) (cl : List (Str × Addr)) (fp : List Addr), PTs (X.blk s H scope (compEnvC scope cl C X.env) fp) ifs (liftT c W0 t))
    (he : ∀ (s : Shared) (H : Hp) (C : Addr) (cl : List (Str × Addr)) (fp : List Addr), SE (X.blk s H scope (compEnvC scope cl C X.env) fp) c W0 elt e)
    (hx : X.N[i0]? = some x := by rfl) (hv : Vis X.env.scope x := by first | exact Or.inl rfl | exact Or.inr (Or.inl rfl) | exact Or.inr (Or.inr rfl))
    (hd : (x == ("__debug__" : Str)) = false := by decide) (hcd : (x == ("__classdict__" : Str)) = false := by decide) (hs : ∀ v, foldedSetIterable (.Name x p2) X.env v = pure v := by intro _; rfl) :
    SS X c W (.Assign [.Name y py] (.ListComp elt [⟨tg, .Name x p2, ifs, 0⟩] scope pos) spos) (sAsg (wLCV i0 gp t e (own.map (·.2))) gg) :=
  PS.imp (ps_setLc hc hN hy hyl hsw (pi_any (pe_var hx hv hd hcd)) ok hg ht he hs) fun D σ H ⟨F, S, Ts, ts, nb, s, h⟩ => lift_lcV (W := W) hgo σ H _ ⟨F, S, Ts, ts, s, W1.le _ (show (wLCV i0 gp t e (own.map (·.2))).run S (fun o => gg.run o S (endK c W Ts ts D).nx) ((endK c W Ts ts D).ex S) from h) (fun o z F' H' v s' => by
    rcases hgg with rfl | rfl
    · obtain ⟨n1, n2, z⟩ := z
      obtain ⟨F3, _, _, s3⟩ := s'.put n1 n2
      exact z F3 H' _ s3
    · obtain ⟨n1, n2, z⟩ := z
      obtain ⟨F2, _, _, s2⟩ := s'.freeze n1
      obtain ⟨F3, _, _, s3⟩ := s2.put rfl n2
      exact z F3 H' _ s3) (fun e z => exK.st z)⟩
end
end PL

/-! P43 -/
set_option Elab.async false
set_option linter.all false
set_option maxRecDepth 100000
set_option maxHeartbeats 4000000
/-! P43: a tuple of the frame's own, walked: its parts are read one by one; to each part (a list) something is appended. -/
namespace PL
open PySem PySem.Spec L2 PyProof.Rows
theorem OwL.fillObj {G : Gx} {F H : Hp} {o : O} {v : V} : ∀ {os : List O} {vs : List V} {A C : List Addr} {k : Nat}, os[k]? = some o → Ow G F H o v A → vs[k]? = some v → OwL G F H (os.set k (.im (.obj v))) vs C → ∃ B, OwL G F H os vs B ∧ B.Perm (A ++ C)
  | [], _, _, _, k, h, _, _, _ => by simp at h
  | a :: os, _, A, _, 0, h, ho, hv, ⟨w, vr, B1, B2, e, eB, h1, t⟩ => by
    simp at h
    subst h e eB
    simp at hv
    subst hv
    obtain ⟨e1, _⟩ := (show _ ∧ _ from h1)
    subst e1
    exact ⟨A ++ B2, ⟨w, vr, A, B2, rfl, rfl, ho, t⟩, List.Perm.refl _⟩
  | a :: os, _, A, _, k + 1, h, ho, hv, ⟨w, vr, B1, B2, e, eB, h1, t⟩ => by
    subst e eB
    obtain ⟨B, g1, g2⟩ := OwL.fillObj (k := k) (os := os) (by simpa using h) ho (by simpa using hv) t
    exact ⟨B1 ++ B, ⟨w, vr, B1, B, rfl, rfl, h1, g1⟩, (List.Perm.append_left B1 g2).trans (List.perm_append_comm_assoc B1 A B2)⟩
section
variable {c : Cc} {F : Fz} {H : Hp} {Ts : List O} {ts : List V} {S : List (Option O)} {σ : L2.St}
theorem Sv.takeTpA {os : List O} {k : Nat} {o : O} {a : V} (s : Sv c F H (.tp os :: Ts) (a :: ts) S σ) (h : os[k]? = some o) :
    ∃ v, (∃ p vs, a = .ref p ∧ H p = some (.tup vs) ∧ vs[k]? = some v) ∧ Sv c F H (o :: .tp (os.set k (.im (.obj v))) :: Ts) (v :: a :: ts) S σ := by
  obtain ⟨A, C, ⟨v', vr, A1, A2, e, eA, ho, r⟩, hC, nd, no, nA, nC⟩ := s.own
  cases e
  subst eA
  obtain ⟨p, vs, ep, e2, z, ol⟩ := (show Ow c.G F.F H (.tp os) a A1 from ho.ow rfl)
  obtain ⟨v, B, D, g1, g2, g3, g4⟩ := ol.takeObj h
  have pm : (B ++ (D ++ A2)).Perm (A1 ++ A2) := by
    rw [← List.append_assoc]
    exact List.Perm.append_right A2 g4
  have pm2 : (B ++ (D ++ A2) ++ C).Perm (A1 ++ A2 ++ C) := List.Perm.append_right C pm
  refine ⟨v, ⟨p, vs, ep, e2, g1⟩, s.ext, s.fb, s.bh, s.old, s.dom, B ++ (D ++ A2), C, ⟨v, a :: ts, B, D ++ A2, rfl, rfl, Ow.vw g2, ⟨a, ts, D, A2, rfl, rfl, ?_, r⟩⟩, hC, (pm2.nodup_iff).mpr nd, fun x hx => no x (pm2.mem_iff.mp hx), fun x hx => nA x (pm.mem_iff.mp hx), nC⟩
  exact Ow.vw (show Ow c.G F.F H (.tp (os.set k (.im (.obj v)))) a D from ⟨p, vs, ep, e2, by rw [List.length_set]; exact z, g3⟩)
theorem Sv.fillTpA {os : List O} {k : Nat} {o : O} {v : V} {p : Addr} {vs : List V} (s : Sv c F H (o :: .tp (os.set k (.im (.obj v))) :: Ts) (v :: .ref p :: ts) S σ) (nb : o.nb = true) (h : os[k]? = some o) (hp : H p = some (.tup vs)) (hv : vs[k]? = some v) :
    Sv c F H (.tp os :: Ts) (.ref p :: ts) S σ := by
  obtain ⟨A, C, ⟨v', vr, A1, A2, e, eA, ho, w, wr, A3, A4, e2, eA2, hh, r⟩, hC, nd, no, nA, nC⟩ := s.own
  cases e
  cases e2
  subst eA eA2
  obtain ⟨p', vs', ep, e2, z, ol⟩ := (show Ow c.G F.F H (.tp (os.set k (.im (.obj v)))) (.ref p) A3 from hh.ow rfl)
  cases ep
  rw [hp] at e2
  cases e2
  obtain ⟨B, g1, g2⟩ := OwL.fillObj h (ho.ow nb) hv ol
  have pm : (B ++ A4).Perm (A1 ++ (A3 ++ A4)) := by
    rw [← List.append_assoc]
    exact List.Perm.append_right A4 g2
  have pm2 : (B ++ A4 ++ C).Perm (A1 ++ (A3 ++ A4) ++ C) := List.Perm.append_right C pm
  rw [List.length_set] at z
  exact ⟨s.ext, s.fb, s.bh, s.old, s.dom, B ++ A4, C, ⟨.ref p, ts, B, A4, rfl, rfl, Ow.vw (show Ow c.G F.F H (.tp os) (.ref p) B from ⟨p, vs, rfl, hp, z, g1⟩), r⟩, hC, (pm2.nodup_iff).mpr nd, fun x hx => no x (pm2.mem_iff.mp hx), fun x hx => nA x (pm.mem_iff.mp hx), nC⟩
theorem ReL.objs {G : Gx} {F H : Hp} : ∀ {xs vs : List V}, ReL G F H (xs.map .obj) vs ↔ vs = xs
  | [], vs => Iff.rfl
  | x :: xs, vs => ⟨fun ⟨v, vr, e, h, r⟩ => by
      subst e
      rw [ReL.objs.mp r, show v = x from h], fun e => ⟨x, xs, e, rfl, ReL.objs.mpr rfl⟩⟩
/-- a tuple's values, told apart -/
theorem Sv.pin {o a : O} {v w : V} {p : Addr} {xs : List V} (s : Sv c F H (o :: a :: Ts) (v :: w :: ts) S σ) (z : xs.length ≤ sizeLine) (hp : H p = some (.tup xs)) : Sv c F H (o :: a :: .im (.tup (xs.map .obj)) :: Ts) (v :: w :: .ref p :: ts) S σ :=
  Sv.unrot (os := [o, a]) (vs := [v, w]) (s.pushIm (d := .tup (xs.map .obj)) (v := .ref p) ⟨p, xs, rfl, hp, by rw [List.length_map]; exact z, ReL.objs.mpr rfl⟩) rfl
theorem Sv.pinned {p : Addr} {xs : List V} (s : Sv c F H (.im (.tup (xs.map .obj)) :: Ts) (.ref p :: ts) S σ) : H p = some (.tup xs) := by
  obtain ⟨p', vs, ep, hp, _, r⟩ := s.topIm
  cases ep
  rw [hp, ReL.objs.mp r]
/-- the third one away -/
theorem Sv.out3 {a b d : O} {x y z : V} (s : Sv c F H (a :: b :: d :: Ts) (x :: y :: z :: ts) S σ) : Sv c F H (a :: b :: Ts) (x :: y :: ts) S σ :=
  (s.rot (os := [a, b]) (vs := [x, y]) rfl).pop
theorem Sv.lookT {i : Nat} {os : List O} (s : Sv c F H Ts ts S σ) (nb : ∀ o ∈ Ts, o.nb = true) (e : S[i]? = some (some (.tp os))) : ∃ p xs, σ[i]? = some (some (.ref p)) ∧ H p = some (.tup xs) ∧ xs.length = os.length ∧ os.length ≤ sizeLine := by
  obtain ⟨v, F1, _, ev, _, s1⟩ := s.move nb e
  obtain ⟨A, h⟩ := s1.top
  obtain ⟨p, vs, ep, hp, z, ol⟩ := (show Ow c.G F1.F H (.tp os) v A from h)
  subst ep
  exact ⟨p, vs, ev, hp, ol.len.symm, z⟩
end
theorem set_get {α : Type} {σ : List (Option α)} {i : Nat} {v : Option α} (h : σ[i]? = some v) : σ.set i v = σ := by
  refine List.ext_getElem? fun j => ?_
  rw [List.getElem?_set]
  split
  · rename_i e
    subst e
    split
    · exact h.symm
    · rename_i z
      have := (List.getElem?_eq_some_iff.mp h).1
      omega
  · rfl
section
variable {X : Cx} {c : Cc} {W : WX} {x y : Str}
/-- for y in x: if t: return b -/
def sForTst (i j : Nat) (t : W1 Bool) (b : Bool) : WS := ⟨fun S D => ∃ os : List O, i ≠ j ∧ j < S.length ∧ ((S[i]? = some (some (.tp os)) ∧ ∀ o ∈ os, o.nb = true) ∨ ∃ ds : List PL.D, os = ds.map O.im ∧ S[i]? = some (some (O.im (.tup ds)))) ∧
    (∀ (k : Nat) o (w : V), os[k]? = some o → t.run ((S.set i (some (.im (.obj w)))).set j (some o)) (fun r => r = true → D.rt (O.t b)) (fun _ => False)) ∧ D.nx (S.set j none),
  fun l ⟨os, h1, h2, h3, h4, h5⟩ => ⟨os, h1, h2, h3, fun k o w h => t.mono (fun r z e => l.rt _ (z e)) (fun _ z => z) (h4 k o w h), l.nx _ h5⟩⟩
theorem ss_forTst {t : Expr} {pt : W1 Bool} (i j : Nat) {b : Bool} {k1 : Nat} {p1 p2 p3 p4 p5 pos : Pos} (hp : PassesOwn (model X.prog X.w) X.A X.env X.xe) (hc : X.calm = true) (nd : X.N.Nodup) (ht : ST X c W t pt) (hN : X.N[i]? = some x := by rfl) (hNj : X.N[j]? = some y := by rfl) (hv : Vis X.env.scope x := by first | exact Or.inl rfl | exact Or.inr (Or.inl rfl) | exact Or.inr (Or.inr rfl))
    (hly : X.env.scope.names.lookup y = some .local := by rfl)
    (hd : (x == ("__debug__" : Str)) = false := by decide) (hcd : (x == ("__classdict__" : Str)) = false := by decide)
    (hfs : ∀ v, foldedSetIterable (.Name x p2) X.env v = pure v := by intro _; rfl) :
    SS X c W (.For (.Name y p1) (.Name x p2) [.If t [.Return (some (.Constant (.bool b) k1 p3)) p4] [] p5] [] pos) (sForTst i j pt b) :=
  PS.imp (ps_for hp hc (pi_tup (pe_var hN hv hd hcd)) (pg_name (i := j) nd hNj (.inl hly) (.inr hly)) (pss_one (ps_if ht (pss_one (ps_ret pe_bl)) pss_nil)) hfs) fun D σ H ⟨F, S, Ts, ts, nb, s, os, nij, hj, hh, ht, h⟩ => by
    rcases hh with ⟨eS, hn⟩ | ⟨ds, eo, eS⟩
    rotate_left
    · have hi : i < S.length := (List.getElem?_eq_some_iff.mp eS).1
      obtain ⟨v0, ev0, p, xs, ep, e2, zz, rl⟩ : ∃ v, σ[i]? = some (some v) ∧ Re c.G F.F H (.tup ds) v := by
        obtain ⟨v, ev, hw⟩ := s.view eS
        exact ⟨v, ev, (show _ ∧ _ from hw).2⟩
      subst ep eo
      have e1 := ev0
      have e3 := rl.length
      rw [e3] at zz
      refine ⟨.ref p, e1, p, rfl, ⟨_, SqT.of e2⟩, ?_⟩
      have eS2 : (S.set j none)[i]? = some (some (.im (.tup ds))) := by rw [List.getElem?_set_ne (Ne.symm nij)]; exact eS
      refine for_tup (xs := xs) (fun k σ' H' => ∃ F', Sv c F' H' Ts ts (S.set j none) σ' ∧ σ'[i]? = some (some (.ref p)) ∧ H' p = some (.tup xs)) ⟨F, s.drop j, e1, e2⟩ (fun k σ' H' _ ⟨_, _, _, q⟩ => SqT.of q) ?_ ?_
      · rintro k u σ' H' hk ⟨F', s', e1', e2'⟩
        have hk' : k < ds.length := by rw [e3]; exact (List.getElem?_eq_some_iff.mp hk).1
        have sl := s'.len
        rw [List.length_set] at sl
        have s2 := s'.any_at (some u)
        have ei2 : (σ'.set j (some u))[i]? = some (some (.ref p)) := by rw [List.getElem?_set_ne (Ne.symm nij)]; exact e1'
        have ej2 : (σ'.set j (some u))[j]? = some (some u) := List.getElem?_set_self (by omega)
        have hre : Re c.G F'.F H' (.tup ds) (.ref p) := by
          obtain ⟨v, ev, hw⟩ := s2.view eS2
          rw [ei2] at ev
          cases ev
          exact (show _ ∧ _ from hw).2
        have hre1 := hre
        obtain ⟨p', vs, ep, hp, _, rl'⟩ := hre1
        cases ep
        rw [e2'] at hp
        cases hp
        obtain ⟨u', hu, hru⟩ := rl'.get' (List.getElem?_eq_getElem hk')
        rw [hk] at hu
        cases hu
        have s4 := (s2.pushIm hre).pushIm (d := .tup (xs.map .obj)) (v := .ref p) ⟨p, xs, rfl, e2', by rw [List.length_map]; exact zz, ReL.objs.mpr rfl⟩
        obtain ⟨F5, e5, _, s5⟩ := (s4.pushIm hru).put (i := j) rfl (by rw [List.length_set]; exact hj)
        rw [set_get ej2] at s5
        obtain ⟨F6, _, _, s6⟩ := (s5.pushIm (d := .obj (.ref p)) (v := .ref p) rfl).put (i := i) rfl (by rw [List.length_set, List.length_set]; exact hi)
        rw [set_get ei2] at s6
        have eS3 : (((S.set j none).set j (some (O.im ds[k]))).set i (some (.im (.obj (.ref p))))) = (S.set i (some (.im (.obj (.ref p))))).set j (some (.im ds[k])) := by
          refine List.ext_getElem? fun n => ?_
          simp only [List.getElem?_set, List.length_set]
          by_cases h1 : i = n <;> by_cases h2 : j = n <;> simp_all
        rw [eS3] at s6
        refine ⟨F6, _, _, _, s6, pt.mono (fun r z F7 H7 s7 => ?_) (fun e z => z.elim) (ht k _ (.ref p) (by rw [List.getElem?_map, List.getElem?_eq_getElem hk']; rfl))⟩
        cases r with
        | true => exact z rfl F7 H7 _ _ _ (s7.pop.pop.pushIm (d := .bl b) (v := .bl b) rfl)
        | false =>
          have hp8 : H7 p = some (.tup xs) := s7.pinned
          obtain ⟨F10, _, _, s10⟩ := (s7.pop.drop j).put (i := i) rfl (by rw [List.length_set, List.length_set, List.length_set]; exact hi)
          rw [set_get ei2] at s10
          refine ⟨F10, ?_, ei2, hp8⟩
          have eS4 : ((((S.set i (some (.im (.obj (.ref p))))).set j (some (.im ds[k]))).set j none).set i (some (.im (.tup ds)))) = S.set j none := by
            refine List.ext_getElem? fun n => ?_
            simp only [List.getElem?_set, List.length_set]
            by_cases h1 : i = n <;> by_cases h2 : j = n <;> simp_all
          rw [eS4] at s10
          exact s10
      · rintro σ' H' ⟨F', s', _, _⟩
        exact h F' H' σ' s'
    have hi : i < S.length := (List.getElem?_eq_some_iff.mp eS).1
    obtain ⟨p, xs, e1, e2, e3, zz⟩ := s.lookT nb eS
    refine ⟨.ref p, e1, p, rfl, ⟨_, SqT.of e2⟩, ?_⟩
    have eS2 : (S.set j none)[i]? = some (some (.tp os)) := by rw [List.getElem?_set_ne (Ne.symm nij)]; exact eS
    refine for_tup (xs := xs) (fun k σ' H' => ∃ F', Sv c F' H' Ts ts (S.set j none) σ' ∧ σ'[i]? = some (some (.ref p)) ∧ H' p = some (.tup xs)) ⟨F, s.drop j, e1, e2⟩ (fun k σ' H' _ ⟨_, _, _, q⟩ => SqT.of q) ?_ ?_
    · rintro k u σ' H' hk ⟨F', s', e1', e2'⟩
      have hk' : k < os.length := by rw [← e3]; exact (List.getElem?_eq_some_iff.mp hk).1
      have sl := s'.len
      rw [List.length_set] at sl
      have s2 := s'.any_at (some u)
      have ei2 : (σ'.set j (some u))[i]? = some (some (.ref p)) := by rw [List.getElem?_set_ne (Ne.symm nij)]; exact e1'
      have ej2 : (σ'.set j (some u))[j]? = some (some u) := List.getElem?_set_self (by omega)
      obtain ⟨v, F3, _, ev, _, s3⟩ := s2.move nb eS2
      rw [ei2] at ev
      cases ev
      have hok := List.getElem?_eq_getElem hk'
      obtain ⟨w, ⟨p', vs, ep, hp, hw⟩, s4⟩ := s3.takeTpA hok
      cases ep
      rw [e2'] at hp
      cases hp
      rw [hk] at hw
      cases hw
      have nbo : os[k].nb = true := hn _ (List.getElem_mem hk')
      have s4 := (s4.pin (p := p) (xs := xs) (by rw [e3]; exact zz) e2')
      obtain ⟨F5, _, _, s5⟩ := s4.put (i := j) nbo (by rw [List.length_set, List.length_set]; exact hj)
      rw [set_get ej2] at s5
      obtain ⟨F6, _, _, s6⟩ := (s5.pushIm (d := .obj (.ref p)) (v := .ref p) rfl).put (i := i) rfl (by rw [List.length_set, List.length_set, List.length_set]; exact hi)
      rw [set_get ei2] at s6
      have eS3 : ((((S.set j none).set i none).set j (some os[k])).set i (some (.im (.obj (.ref p))))) = (S.set i (some (.im (.obj (.ref p))))).set j (some os[k]) := by
        refine List.ext_getElem? fun n => ?_
        simp only [List.getElem?_set, List.length_set]
        by_cases h1 : i = n <;> by_cases h2 : j = n <;> simp_all
      rw [eS3] at s6
      refine ⟨F6, _, _, _, s6, pt.mono (fun r z F7 H7 s7 => ?_) (fun e z => z.elim) (ht k _ (.ref p) hok)⟩
      cases r with
      | true => exact z rfl F7 H7 _ _ _ (s7.pop.pop.pushIm (d := .bl b) (v := .bl b) rfl)
      | false =>
        have nbT : ∀ o ∈ (O.tp (os.set k (.im (.obj u))) :: O.im (.tup (xs.map .obj)) :: Ts), o.nb = true := nb_cons rfl (nb_cons rfl nb)
        have ej7 : ((S.set i (some (.im (.obj (.ref p))))).set j (some os[k]))[j]? = some (some os[k]) := List.getElem?_set_self (by rw [List.length_set]; exact hj)
        obtain ⟨v8, F8, _, ev8, _, s8⟩ := s7.move nbT ej7
        rw [ej2] at ev8
        cases ev8
        have hp8 : H7 p = some (.tup xs) := s7.pop.pinned
        have s9 := s8.out3.fillTpA nbo hok hp8 hk
        obtain ⟨F10, _, _, s10⟩ := s9.put (i := i) rfl (by rw [List.length_set, List.length_set, List.length_set]; exact hi)
        rw [set_get ei2] at s10
        refine ⟨F10, ?_, ei2, hp8⟩
        have eS4 : ((((S.set i (some (.im (.obj (.ref p))))).set j (some os[k])).set j none).set i (some (.tp os))) = S.set j none := by
          refine List.ext_getElem? fun n => ?_
          simp only [List.getElem?_set, List.length_set]
          by_cases h1 : i = n <;> by_cases h2 : j = n <;> simp_all
        rw [eS4] at s10
        exact s10
    · rintro σ' H' ⟨F', s', _, _⟩
      exact h F' H' σ' s'
/-- for y in x: y.append(None), x a tuple; x is dropped -/
def sForAppT (i j : Nat) : WS := ⟨fun S D => ∃ rows : List (List O), i ≠ j ∧ j < S.length ∧ S[i]? = some (some (.tp (rows.map .ls))) ∧ (∀ r ∈ rows, r.length < sizeLine) ∧ D.nx ((S.set i none).set j none),
  fun l ⟨r, h1, h2, h3, h4, h5⟩ => ⟨r, h1, h2, h3, h4, l.nx _ h5⟩⟩
theorem ss_forAppT (i j : Nat) {p1 p2 p3 p4 apos cpos pos5 pos : Pos} {k4 : Nat} (hp : PassesOwn (model X.prog X.w) X.A X.env X.xe) (hc : X.calm = true) (nd : X.N.Nodup) (hN : X.N[i]? = some x := by rfl) (hNj : X.N[j]? = some y := by rfl) (hv : Vis X.env.scope x := by first | exact Or.inl rfl | exact Or.inr (Or.inl rfl) | exact Or.inr (Or.inr rfl))
    (hvy : Vis X.env.scope y := by first | exact Or.inl rfl | exact Or.inr (Or.inl rfl) | exact Or.inr (Or.inr rfl)) (hly : X.env.scope.names.lookup y = some .local := by rfl)
    (hd : (x == ("__debug__" : Str)) = false := by decide) (hcd : (x == ("__classdict__" : Str)) = false := by decide) (hd2 : (y == ("__debug__" : Str)) = false := by decide) (hcd2 : (y == ("__classdict__" : Str)) = false := by decide)
    (hbase : attributeBase (.Name y p3) "append" X.env (eval (.Name y p3) X.env) = eval (.Name y p3) X.env := by rfl)
    (hfew : ((backTo cpos (starEach [.Constant .none k4 p4] X.env)).all (fun x => !x.1) && (backToKw cpos (keywordEach [] X.env)).all (fun x => x.1.isSome)
      && decide (([.Constant .none k4 p4] : List Expr).length + ([] : List Keyword).length + (if ([] : List Keyword).isEmpty then 0 else 1) < 30)) = true := by rfl)
    (hline : (apos.endLine == cpos.line) = true := by rfl) (hs : starEach [.Constant .none k4 p4] X.env = (false, eval (.Constant .none k4 p4) X.env) :: starEach [] X.env := by rfl) (hplain : (backTo cpos (starEach ([] : List Expr) X.env)).any (·.1) = false := by rfl)
    (hsw : swapsWith (.Call (.Attribute (.Name y p3) "append" apos) [.Constant .none k4 p4] [] cpos) none pos5.line X.env = pure false := by rfl) (hfs : ∀ v, foldedSetIterable (.Name x p2) X.env v = pure v := by intro _; rfl) :
    SS X c W (.For (.Name y p1) (.Name x p2) [.Expr (.Call (.Attribute (.Name y p3) "append" apos) [.Constant .none k4 p4] [] cpos) pos5] [] pos) (sForAppT i j) :=
  PS.imp (ps_for hp hc (pi_tup (pe_var hN hv hd hcd)) (pg_name (i := j) nd hNj (.inl hly) (.inr hly)) (pss_one (ps_expr (pe_bm PySem.F.plainAttrs_list PySem.F.slot_list_append PySem.F.type_list_append mt_append (pe_var hNj hvy hd2 hcd2) (pa_cons pe_non pa_nil hs) hbase hfew hline hs hplain) hsw)) hfs) fun D σ H ⟨F, S, Ts, ts, nb, s, rows, nij, hj, eS, hl, h⟩ => by
    obtain ⟨v, F1, _, ev, _, s1⟩ := s.move nb eS
    obtain ⟨p, xs, ep, hp, hlen, s2⟩ := s1.parts (os := rows.map .ls) rfl
    subst ep
    refine ⟨.ref p, ev, p, rfl, ⟨_, SqT.of hp⟩, ?_⟩
    refine for_tup (xs := xs) (fun k σ' H' => ∃ F', Sv c F' H' ((rows.map .ls).drop k ++ Ts) (xs.drop k ++ ts) ((S.set i none).set j none) σ' ∧ σ'[i]? = some (some (.ref p)) ∧ H' p = some (.tup xs)) ⟨F1, s2.drop j, ev, hp⟩ (fun k σ' H' _ ⟨_, _, _, q⟩ => SqT.of q) ?_ ?_
    · rintro k u σ' H' hk ⟨F', s', e1', e2'⟩
      have hkx : k < xs.length := (List.getElem?_eq_some_iff.mp hk).1
      have hkr : k < (rows.map O.ls).length := by omega
      have hk' : k < rows.length := by rwa [List.length_map] at hkr
      have sl := s'.len
      rw [List.length_set, List.length_set] at sl
      have s2 := s'.any_at (some u)
      have ej2 : (σ'.set j (some u))[j]? = some (some u) := List.getElem?_set_self (by omega)
      have ei2 : (σ'.set j (some u))[i]? = some (some (.ref p)) := by rw [List.getElem?_set_ne (Ne.symm nij)]; exact e1'
      rw [List.drop_eq_getElem_cons hkr, List.drop_eq_getElem_cons hkx, List.getElem_map] at s2
      have eu : xs[k] = u := by
        have := List.getElem?_eq_getElem hkx
        rw [hk] at this
        exact (Option.some.inj this).symm
      rw [eu] at s2
      obtain ⟨A, ho⟩ := s2.top
      obtain ⟨Dk, ys, B, eD, _, _, hD, z, ol⟩ := (show Ow c.G F'.F H' (.ls rows[k]) u A from ho)
      subst eD
      have neD : p ≠ Dk := fun e => by rw [e, hD] at e2'; cases e2'
      refine ⟨.ref Dk, ej2, .inl ⟨rfl, _, SqL.of hD⟩, Dk, ys, .non, rfl, rfl, hD, by rw [← ol.len]; exact hl _ (List.getElem_mem hk'), F', ?_, ei2, by rw [upd_ne neD]; exact e2'⟩
      exact s2.popUpd rfl (fun A0 h => by
        obtain ⟨D', ys', B', e, eA, _, hD', _, ol'⟩ := (show Ow c.G F'.F H' (.ls rows[k]) (.ref Dk) A0 from h)
        cases e
        subst eA
        simp) hD
    · rintro σ' H' ⟨F', s', _, _⟩
      rw [← hlen, List.drop_length, hlen, List.drop_length] at s'
      exact h F' H' σ' s'
end
end PL

/-! P44 -/
set_option Elab.async false
set_option linter.all false
set_option maxRecDepth 100000
set_option maxHeartbeats 4000000
/-! P44: tuple(x); x is True; for row in [..]: row.append(None). -/
namespace PL
open PySem PySem.Spec L2 PyProof.Rows
section
variable {X : Cx} {c : Cc} {W : WX} {a b : Expr} {pa pb : W1 O} {pos : Pos}
/-- tuple(x), x a list -/
def uTupL : U1 := ⟨fun a Q => ∃ os, a.its = some os ∧ a.isL = true ∧ a.isTrk = true ∧ os.length ≤ sizeLine ∧ Q (mkT os), fun hq ⟨os, e, h1, h2, z, q⟩ => ⟨os, e, h1, h2, z, hq _ q⟩⟩
theorem fit_tupL : FitA c (fun xs H Q => ∃ p ys, xs = [V.ref p] ∧ ((SqL c.G.K H p ys ∧ ∀ l, H l = none → Q (.ref l) (upd H l (.tup ys))) ∨ (SqT c.G.K H p ys ∧ Q (.ref p) H))) (uA1 uTupL) := fun F H Ts ts S σ os vs Q s e ⟨a, ea, us, e1, hl, ht, z, q⟩ => by
  subst ea
  obtain ⟨v, rfl⟩ := len1 e
  obtain ⟨F', p, vs, h⟩ := Sv.items (o := a) (Ts := Ts) (ts := ts) s e1
  rcases h with ⟨_, _, s', ev, hs, _, hi, _⟩ | ⟨h1, h2, _⟩
  · subst ev
    rw [if_pos hl] at hs
    exact ⟨p, vs, rfl, .inl ⟨hs, fun r n => let ⟨F4, _, s4⟩ := (s'.pop.pushN hi).mkT hi.1 z n; q F4 _ _ s4⟩⟩
  · rw [ht] at h2; cases h2
theorem se_tuple {p : Pos} {q : W1 (List O)} (hK : X.K = c.G.K) (hm : X.mg "tuple" = none) (ha : SA X c W [a] q) (hg : Gl X "tuple" := by rfl) (he : starEach [a] X.env = (false, eval a X.env) :: starEach [] X.env := by rfl) :
    SE X c W (.Call (.Name "tuple" p) [a] [] pos) (wA q (uA1 uTupL)) := se_cT (x := "tuple") call_tuple_of (by rw [hK]; exact fit_tupL) hg hm (by decide +kernel) ha (he := he)
/-- x is True -/
def rIsB (neg : Bool) : R2 := fun x y H Q => ∃ b d, x = V.bl b ∧ y = V.bl d ∧ Q (.bl (neg ^^ decide (b = d))) H
theorem op_isB : OpR X (compareOp .Is) (rIsB false) := by
  intro pins s σ H x y v u Q I rx ry h
  obtain ⟨b, d, rfl, rfl, q⟩ := h
  cases rx
  cases ry
  show wpAny _ _ ((isSame _ _) >>= fun z => pure (Value.bool z)) _ _ s
  refine wpAny_bind (wpAny_isSame_plain rfl (wpAny_pure (fin_bl I q ?_)))
  cases b <;> cases d <;> rfl
theorem op_isnotB : OpR X (compareOp .IsNot) (rIsB true) := by
  intro pins s σ H x y v u Q I rx ry h
  obtain ⟨b, d, rfl, rfl, q⟩ := h
  cases rx
  cases ry
  show wpAny _ _ ((isSame _ _) >>= fun z => pure (Value.bool (!z))) _ _ s
  refine wpAny_bind (wpAny_isSame_plain rfl (wpAny_pure (fin_bl I q ?_)))
  cases b <;> cases d <;> rfl
def uIsB (neg : Bool) : U2 := ⟨fun a b Q => ∃ x y, a = O.t x ∧ b = O.t y ∧ Q (O.t (neg ^^ decide (x = y))), fun hq ⟨x, y, e1, e2, q⟩ => ⟨x, y, e1, e2, hq _ q⟩⟩
theorem fit_isB {neg : Bool} : Fit2 c (rIsB neg) (uIsB neg) := fun F H Ts ts S σ a b x y Q s ⟨i, j, ea, eb, q⟩ => by
  subst ea eb
  exact ⟨i, j, s.pop.bl, s.bl, q F H _ (s.pop.pop.pushIm rfl)⟩
theorem se_isB (ha : SE X c W a pa) (hb : SE X c W b pb) : SE X c W (.Compare a [.Is] [b] pos) (w2 pa pb (uIsB false)) := se_cmp op_isB fit_isB ha hb (nomark _)
theorem se_notB (ha : SE X c W a pa) (hb : SE X c W b pb) : SE X c W (.Compare a [.IsNot] [b] pos) (w2 pa pb (uIsB true)) := se_cmp op_isnotB fit_isB ha hb (nomark _)
theorem st_isB (ha : SE X c W a pa) (hb : SE X c W b pb) : ST X c W (.Compare a [.Is] [b] pos) (wT (w2 pa pb (uIsB false))) := st_cmp op_isB fit_isB ha hb (nomark _)
theorem st_notB (ha : SE X c W a pa) (hb : SE X c W b pb) : ST X c W (.Compare a [.IsNot] [b] pos) (wT (w2 pa pb (uIsB true))) := st_cmp op_isnotB fit_isB ha hb (nomark _)
end
/-! ### for row in [..]: row.append(None) -/
theorem OwL.objs {G : Gx} {F H : Hp} : ∀ {xs vs : List V} {B : List Addr}, OwL G F H (xs.map fun v => .im (.obj v)) vs B ↔ vs = xs ∧ B = []
  | [], vs, B => Iff.rfl
  | x :: xs, vs, B => ⟨fun ⟨v, vr, B1, B2, e, eB, h, r⟩ => by
      obtain ⟨r1, r2⟩ := OwL.objs.mp r
      obtain ⟨h1, h2⟩ := (show _ ∧ _ from h)
      subst e eB
      rw [r1, r2, h1, show v = x from h2]
      exact ⟨rfl, rfl⟩, fun ⟨e, eB⟩ => ⟨x, xs, [], [], e, eB, ⟨rfl, rfl⟩, OwL.objs.mpr ⟨rfl, rfl⟩⟩⟩
section
variable {c : Cc} {F : Fz} {H : Hp} {Ts : List O} {ts : List V} {S : List (Option O)} {σ : L2.St}
theorem Sv.spill {os : List O} {v : V} (s : Sv c F H (.ls os :: Ts) (v :: ts) S σ) : ∃ p xs, v = .ref p ∧ H p = some (.lst xs) ∧ xs.length = os.length ∧ Sv c F H (os ++ .ls (xs.map fun v => .im (.obj v)) :: Ts) (xs ++ .ref p :: ts) S σ := by
  obtain ⟨A, C, ⟨v', vr, A1, A2, e, eA, h, r⟩, hC, nd, no, nA, nC⟩ := s.own
  cases e
  subst eA
  obtain ⟨p, xs, B, ev, eB, nF, hp, z, ol⟩ := (show Ow c.G F.F H (.ls os) v A1 from h)
  subst ev eB
  have pm : (B ++ (p :: A2)).Perm (p :: B ++ A2) := List.perm_middle
  have pm2 : (B ++ (p :: A2) ++ C).Perm (p :: B ++ A2 ++ C) := List.Perm.append_right C pm
  refine ⟨p, xs, rfl, hp, ol.len.symm, s.ext, s.fb, s.bh, s.old, s.dom, B ++ (p :: A2), C, (OwL.tm (F := F) ol).join ⟨.ref p, ts, [p], A2, rfl, rfl, ?_, r⟩, hC, (pm2.nodup_iff).mpr nd, fun x hx => no x (pm2.mem_iff.mp hx), fun x hx => nA x (pm.mem_iff.mp hx), nC⟩
  exact (show Ow c.G F.F H (.ls (xs.map fun v => .im (.obj v))) (.ref p) [p] from ⟨p, xs, [], rfl, rfl, nF, hp, by rw [List.length_map, ← ol.len]; exact z, OwL.objs.mpr ⟨rfl, rfl⟩⟩)
theorem Sv.objsAt {xs : List V} {p : Addr} (s : Sv c F H (.ls (xs.map fun v => .im (.obj v)) :: Ts) (.ref p :: ts) S σ) : H p = some (.lst xs) := by
  obtain ⟨A, h⟩ := s.top
  obtain ⟨p', vs, B, ev, eB, nF, hp, z, ol⟩ := (show Ow c.G F.F H (.ls (xs.map fun v => .im (.obj v))) (.ref p) A from h)
  cases ev
  rw [hp, (OwL.objs.mp ol).1]
end
section
variable {X : Cx} {c : Cc} {W : WX} {e : Expr} {pe : W1 O} {y : Str}
def sForAppL (pe : W1 O) (j : Nat) : WS := ⟨fun S D => j < S.length ∧ pe.run S (fun o => ∃ rows : List (List O), o = .ls (rows.map O.ls) ∧ (∀ r ∈ rows, r.length < sizeLine) ∧ D.nx (S.set j none)) (D.ex S),
  fun l ⟨h1, h2⟩ => ⟨h1, pe.mono (fun o ⟨r, e, h, z⟩ => ⟨r, e, h, l.nx _ z⟩) (fun e z => l.ex _ e z) h2⟩⟩
theorem ss_forAppL (j : Nat) {p1 p3 p4 apos cpos pos5 pos : Pos} {k4 : Nat} (hK : X.K = c.G.K) (hp : PassesOwn (model X.prog X.w) X.A X.env X.xe) (hc : X.calm = true) (nd : X.N.Nodup) (he : SE X c W e pe) (hNj : X.N[j]? = some y := by rfl)
    (hvy : Vis X.env.scope y := by first | exact Or.inl rfl | exact Or.inr (Or.inl rfl) | exact Or.inr (Or.inr rfl)) (hly : X.env.scope.names.lookup y = some .local := by rfl)
    (hd2 : (y == ("__debug__" : Str)) = false := by decide) (hcd2 : (y == ("__classdict__" : Str)) = false := by decide)
    (hbase : attributeBase (.Name y p3) "append" X.env (eval (.Name y p3) X.env) = eval (.Name y p3) X.env := by rfl)
    (hfew : ((backTo cpos (starEach [.Constant .none k4 p4] X.env)).all (fun x => !x.1) && (backToKw cpos (keywordEach [] X.env)).all (fun x => x.1.isSome)
      && decide (([.Constant .none k4 p4] : List Expr).length + ([] : List Keyword).length + (if ([] : List Keyword).isEmpty then 0 else 1) < 30)) = true := by rfl)
    (hline : (apos.endLine == cpos.line) = true := by rfl) (hs : starEach [.Constant .none k4 p4] X.env = (false, eval (.Constant .none k4 p4) X.env) :: starEach [] X.env := by rfl) (hplain : (backTo cpos (starEach ([] : List Expr) X.env)).any (·.1) = false := by rfl)
    (hsw : swapsWith (.Call (.Attribute (.Name y p3) "append" apos) [.Constant .none k4 p4] [] cpos) none pos5.line X.env = pure false := by rfl) (hfs : ∀ v, foldedSetIterable e X.env v = pure v := by intro _; rfl) :
    SS X c W (.For (.Name y p1) e [.Expr (.Call (.Attribute (.Name y p3) "append" apos) [.Constant .none k4 p4] [] cpos) pos5] [] pos) (sForAppL pe j) :=
  PS.imp (ps_for hp hc (pi_list he) (pg_name (i := j) nd hNj (.inl hly) (.inr hly)) (pss_one (ps_expr (pe_bm PySem.F.plainAttrs_list PySem.F.slot_list_append PySem.F.type_list_append mt_append (pe_var hNj hvy hd2 hcd2) (pa_cons pe_non pa_nil hs) hbase hfew hline hs hplain) hsw)) hfs) fun D σ H ⟨F, S, Ts, ts, nb, s, hj, h⟩ => by
    refine ⟨F, S, Ts, ts, s, pe.mono (fun o ⟨rows, eo, hl, hn⟩ F1 H1 v s1 => ?_) (fun e z => exK.st z) h⟩
    subst eo
    obtain ⟨p, xs, ep, hp, hlen, s2⟩ := s1.spill
    subst ep
    refine ⟨p, rfl, ⟨_, SqL.of hp⟩, ?_⟩
    refine for_list (xs := xs) (fun k σ' H' => ∃ F', Sv c F' H' ((rows.map O.ls).drop k ++ .ls (xs.map fun v => .im (.obj v)) :: Ts) (xs.drop k ++ .ref p :: ts) (S.set j none) σ') ⟨F1, s2.drop j⟩ (fun k σ' H' _ ⟨F', s'⟩ => SqL.of (s'.popN (by rw [List.length_drop, List.length_drop, hlen])).objsAt) ?_ ?_
    · rintro k u σ' H' hk ⟨F', s'⟩
      have hkx : k < xs.length := (List.getElem?_eq_some_iff.mp hk).1
      have hkr : k < (rows.map O.ls).length := by omega
      have hk' : k < rows.length := by rwa [List.length_map] at hkr
      have sl := s'.len
      rw [List.length_set] at sl
      have s2 := s'.any_at (some u)
      have ej2 : (σ'.set j (some u))[j]? = some (some u) := List.getElem?_set_self (by omega)
      rw [List.drop_eq_getElem_cons hkr, List.drop_eq_getElem_cons hkx, List.getElem_map] at s2
      have eu : xs[k] = u := by
        have := List.getElem?_eq_getElem hkx
        rw [hk] at this
        exact (Option.some.inj this).symm
      rw [eu] at s2
      obtain ⟨A, ho⟩ := s2.top
      obtain ⟨Dk, ys, B, eD, _, _, hD, z, ol⟩ := (show Ow c.G F'.F H' (.ls rows[k]) u A from ho)
      subst eD
      refine ⟨.ref Dk, ej2, .inl ⟨rfl, _, SqL.of hD⟩, Dk, ys, .non, rfl, rfl, hD, by rw [← ol.len]; exact hl _ (List.getElem_mem hk'), F', ?_⟩
      exact s2.popUpd rfl (fun A0 h => by
        obtain ⟨D', ys', B', e, eA, _, hD', _, ol'⟩ := (show Ow c.G F'.F H' (.ls rows[k]) (.ref Dk) A0 from h)
        cases e
        subst eA
        simp) hD
    · rintro σ' H' ⟨F', s'⟩
      rw [List.drop_eq_nil_of_le (show (rows.map O.ls).length ≤ xs.length by omega), List.drop_length] at s'
      exact hn F' H' σ' s'.pop
end
end PL

/-! P45 -/
set_option Elab.async false
set_option linter.all false
set_option maxRecDepth 100000
set_option maxHeartbeats 4000000
/-! P45: x = e; if a != x: return b, where e may be borrowed and x is read nowhere else. -/
namespace PL
open PySem PySem.Spec L2 PyProof.Rows
section
variable {X : Cx} {c : Cc} {W : WX} {a e : Expr} {pa pe : W1 O} {x : Str} {rest : List Stmt} {q : WS}
def sCmpBo (i : Nat) (pe pa : W1 O) (b : Bool) (q : WS) : WS := ⟨fun S D => i < S.length ∧ pe.run S (fun o => pa.run (S.set i none) (fun a => (uEq true).run a o (fun r => ∃ z, r = O.t z ∧ if z = true then D.rt (O.t b) else q.run (S.set i none) D)) (fun _ => False)) (D.ex S),
  fun l ⟨h1, h2⟩ => ⟨h1, pe.mono (fun o h => pa.mono (fun a h => (uEq true).mono (fun r ⟨z, e, h⟩ => ⟨z, e, by
    split
    · rename_i hz; rw [if_pos hz] at h; exact l.rt _ h
    · rename_i hz; rw [if_neg hz] at h; exact q.mono l h⟩) h) (fun _ z => z) h) (fun e z => l.ex _ e z) h2⟩⟩
theorem sss_cmpBo (i : Nat) {b : Bool} {k5 : Nat} {p1 p2 p3 p4 p5 p6 p7 : Pos} (hu : X.A.units + 64 < cLine) (nd : X.N.Nodup) (he : SE X c W e pe) (ha : SE X c W a pa) (hr : SSs X c W rest q) (hN : X.N[i]? = some x := by rfl) (hl : X.env.scope.names.lookup x = some .local := by rfl)
    (hv : Vis X.env.scope x := by first | exact Or.inl rfl | exact Or.inr (Or.inl rfl) | exact Or.inr (Or.inr rfl))
    (hd : (x == ("__debug__" : Str)) = false := by decide) (hcd : (x == ("__classdict__" : Str)) = false := by decide)
    (hs : swapsWithSole [.Name x p1] e p2.line X.env = pure false := by rfl) (hw : swappedStores [.Name x p1] e X.env = pure none := by rfl)
    (h1 : (assignEach [.Name x p1] X.env).map (·.2) = [assign (.Name x p1) X.env] := by rfl) :
    SSs X c W (.Assign [.Name x p1] e p2 :: .If (.Compare a [.NotEq] [.Name x p3] p4) [.Return (some (.Constant (.bool b) k5 p5)) p6] [] p7 :: rest) (sCmpBo i pe pa b q) :=
  PSs.imp (pss_cons (ps_asg he (pg_name (i := i) nd hN (.inl hl) (.inr hl)) hs hw h1) (pss_cons (ps_if (pt_cmpR (op_neA hu) ha (pe_var hN hv hd hcd) (nomark _)) (pss_one (ps_ret pe_bl)) pss_nil) hr)) fun D σ H ⟨F, S, Ts, ts, nb, s, hi, h⟩ => by
    refine ⟨F, S, Ts, ts, s, pe.mono (fun o z F1 H1 v s1 => ?_) (fun e z => exK.st z) h⟩
    have sl := s1.len
    have s2 := (s1.drop i).any_at (some v)
    have ev : (σ.set i (some v))[i]? = some (some v) := List.getElem?_set_self (by omega)
    refine ⟨F1, S.set i none, o :: Ts, v :: ts, s2, pa.mono (fun a z F2 H2 va s3 => ?_) (fun e z => z.elim) z⟩
    refine ⟨v, ev, ?_⟩
    refine fit_ne F2 H2 Ts ts _ _ a o va v _ s3.swap ((uEq true).mono (fun r ⟨z, er, hz⟩ F' H' w s4 => ?_) z)
    subst er
    refine ⟨z, s4.bl, ?_⟩
    have s5 := s4.pop
    cases z with
    | true => exact (show (endK c W Ts ts D).rt (O.t b) from by simpa using hz) F' H' _ _ _ (s5.pushIm (d := .bl b) (v := .bl b) rfl)
    | false => exact ⟨F', _, Ts, ts, nb, s5, by simpa using hz⟩
end
theorem kf_012 {K : PySem.W.Frag} {G : Gx} {t : Tc} (h0 : KitK K G.CF (t.u G) (Kd.isT (.b .fr) t)) (h1 : KitK K G.CR (t.u G) (Kd.isT (.b (.rs 0)) t)) (h2 : KitK K G.CP (t.u G) (Kd.isT (.po .fr) t)) : ∀ i ∈ ([0, 1, 2] : List Nat), ∀ kd : Kd, (match kd with | .b .fr => 0 | .b (.rs _) => 1 | .po _ => 2) = i → ∃ C, (match kd with | .b .fr => G.CF | .b (.rs _) => G.CR | .po _ => G.CP) = C ∧ PySem.W.kitOne K (.ref C) (t.u G) = some (kd.isT t) ∧
    Cls K C ∧ PySem.W.findIn K (.ref C) "__class__" = some (some (.builtin "object.__class__")) ∧ PySem.W.specialIn K (.builtin "object.__class__") "__get__" = some (some (.builtin "getset_descriptor.__get__")) ∧ PySem.W.takesIn K (.builtin "object.__class__") = some true ∧ PySem.W.mroIn K C (.type "object") = some true := fun i hi kd e => by
  match kd, e with
  | .b .fr, _ => exact ⟨_, rfl, h0⟩
  | .b (.rs p), _ =>
    refine ⟨_, rfl, ?_⟩
    have : Kd.isT (.b (.rs p)) t = Kd.isT (.b (.rs 0)) t := by cases t <;> rfl
    rw [this]
    exact h1
  | .po k, _ =>
    refine ⟨_, rfl, ?_⟩
    have : Kd.isT (.po k) t = Kd.isT (.po .fr) t := by cases t <;> rfl
    rw [this]
    exact h2
end PL

/-! P46 -/
set_option Elab.async false
set_option linter.all false
set_option maxRecDepth 100000
set_option maxHeartbeats 4000000
/-! P46: x >>= 1. -/
namespace PL
open PySem PySem.Spec L2 PyProof.Rows
def sShr1 (i : Nat) : WS := ⟨fun S D => ∃ n, S[i]? = some (some (O.i n)) ∧ D.nx (S.set i (some (O.i (n / 2)))), fun l ⟨n, e, h⟩ => ⟨n, e, l.nx _ h⟩⟩
section
variable {X : Cx} {c : Cc} {W : WX} {pos : Pos}
theorem ss_shr1 {i k : Nat} {x : Str} {pos' p1 : Pos} (hN : X.N.Nodup) (hi : X.N[i]? = some x) (hx : Loc X.env.scope x)
    (hf : X.fn x = true ∨ X.env.scope.names.lookup x = some .local := by first | exact .inl rfl | exact .inr rfl | assumption) : SS X c W (.AugAssign (.Name x pos') .RShift (.Constant (.int 1) k p1) pos) (sShr1 i) :=
  PS.imp (ps_aug hN hi hx pe_int iop_halfI hf) fun D σ H ⟨F, S, Ts, ts, nb, s, n, en, h⟩ => by
    obtain ⟨v, _, _, ev, _, s0⟩ := s.move nb en
    have e0 : v = .int n := s0.int
    subst e0
    have l : i < S.length := (List.getElem?_eq_some_iff.mp en).1
    obtain ⟨F2, _, _, s2⟩ := (s.pushIm (d := .int (n / 2)) (v := .int (n / 2)) rfl).put rfl l
    exact ⟨_, ev, n, rfl, rfl, h F2 H _ s2⟩
end
end PL

/-! P47 -/
set_option Elab.async false
set_option linter.all false
set_option maxRecDepth 100000
set_option maxHeartbeats 4000000
/-! P47: a == b of data within which empty dicts may lie. -/
namespace PL
open PySem PySem.Spec L2 PyProof.Rows PyProof
mutual
inductive Dx (K : PySem.W.Frag) (H : Hp) : V → PyData → Prop
  | non : Dx K H .non .none
  | bl (b : Bool) : Dx K H (.bl b) (.bool b)
  | int (i : Int) : Dx K H (.int i) (.int i)
  | str (x : Str) : Dx K H (.str x) (.str x)
  | lst {a : Addr} {xs : List V} {ds : List PyData} : SqL K H a xs → DxAll K H xs ds → Dx K H (.ref a) (.list ds)
  | tup {a : Addr} {xs : List V} {ds : List PyData} : SqT K H a xs → DxAll K H xs ds → Dx K H (.ref a) (.tuple ds)
  | dic {a : Addr} : H a = some (.dK []) → Dx K H (.ref a) (.dict [])
inductive DxAll (K : PySem.W.Frag) (H : Hp) : List V → List PyData → Prop
  | nil : DxAll K H [] []
  | cons {v : V} {vs : List V} {d : PyData} {ds : List PyData} : Dx K H v d → DxAll K H vs ds → DxAll K H (v :: vs) (d :: ds)
end
/-- an empty dict, for any program -/
theorem dk_any {prog : Program} {w : World} {prog' : Program} {w' : World} {h : Heap} {a : Addr} (d : h.DictOf (mixKind prog w) a []) : h.DictOf (mixKind prog' w') a [] := by
  obtain ⟨o, es, ep, ho, ex, hd, _, pr, nd⟩ := d
  have el : es = #[] := by
    have : es.toList = [] := by
      generalize es.toList = l at pr
      cases pr
      rfl
    exact Array.toList_eq_nil_iff.mp this
  subst el
  exact ⟨o, _, ep, ho, ex, hd, fun e he => absurd he (by simp), .nil, List.nodup_nil⟩
theorem all_true (n : Nat) : (List.range n).all (fun _ => true) = true := by simp
section
variable {X : Cx} {pins : List (Addr × Obj)} {σ : L2.St} {H : Hp} {s : Shared}
open PySem.SeqAt
theorem dic_rc (I : Inv X pins σ H s) {a b : Addr} (ha : H a = some (.dK [])) (hb : H b = some (.dK [])) {A : Around} (hu : A.units < cLine) : RcAt A s (.ref a) (.ref b) true := by
  intro prog w E Q hq
  obtain ⟨_, ya, va, ka, da⟩ := dk_of I.hok ha
  obtain ⟨_, yb, vb, kb, db⟩ := dk_of I.hok hb
  cases ka
  cases kb
  exact PySem.W.keq_eq (knd := mixKind prog w) (r := true) ya yb (dk_any da) (dk_any db) hu (fun _ => .nil) hq
theorem dic_ne (I : Inv X pins σ H s) {a b : Addr} (ha : H a = some (.dK [])) (hb : H b = some (.dK [])) {A : Around} (hu : A.units < cLine) : RcNeAt A s (.ref a) (.ref b) false := by
  intro prog w E Q hq
  obtain ⟨_, ya, va, ka, da⟩ := dk_of I.hok ha
  obtain ⟨_, yb, vb, kb, db⟩ := dk_of I.hok hb
  cases ka
  cases kb
  exact PySem.W.keq_ne (knd := mixKind prog w) (r := true) ya yb (dk_any da) (dk_any db) hu (fun _ => .nil) hq
theorem eq_refs {A : Around} {a b : Addr} (h : RcAt A s (.ref a) (.ref b) true) : EqAt A s (.ref a) (.ref b) true := by
  by_cases e : a = b
  · subst e; exact EqAt.same _
  · exact EqAt.of_refs e h
mutual
theorem Dx.eq (I : Inv X pins σ H s) : ∀ (d : PyData) (v v' : V) (u u' : Value), Dx X.K H v d → Dx X.K H v' d → RelV v u → RelV v' u' → ∀ A : Around, A.units + d.depth < cLine → EqAt A s u u' true
  | .none, _, _, _, _, h, h', r, r', A, hu => by
    cases h; cases h'; cases r; cases r'
    exact EqAt.same _
  | .bool b, _, _, _, _, h, h', r, r', A, hu => by
    cases h; cases h'; cases r; cases r'
    exact EqAt.same _
  | .int i, _, _, _, _, h, h', r, r', A, hu => by
    cases h; cases h'
    obtain ⟨t, rfl⟩ := r
    obtain ⟨t', rfl⟩ := r'
    have e := EqAt.int_int (A := A) (s := s) i t i t'
    rw [beq_self_eq_true] at e
    exact e
  | .str x, _, _, _, _, h, h', r, r', A, hu => by
    cases h; cases h'
    obtain ⟨t, rfl⟩ := r
    obtain ⟨t', rfl⟩ := r'
    have e := EqAt.str_str (A := A) (s := s) x t x t'
    rw [beq_self_eq_true] at e
    exact e
  | .list ds, _, _, _, _, h, h', r, r', A, hu => by
    cases h with
    | lst hs ha =>
      cases h' with
      | lst hs' ha' =>
        cases r; cases r'
        obtain ⟨its, rv, ⟨_, _, p1, p2, _, p3⟩, _⟩ := I.list hs
        obtain ⟨its', rv', ⟨_, _, p1', p2', _, p3'⟩, _⟩ := I.list hs'
        have hl : s.heap.IsList _ its.toArray := ⟨_, p1, p2, _, p3⟩
        have hl' : s.heap.IsList _ its'.toArray := ⟨_, p1', p2', _, p3'⟩
        have h0 : A.units < cLine := by omega
        have hu' : A.in1.units + PyData.depthAll ds < cLine := by
          have e : PyData.depth (.list ds) = PyData.depthAll ds + 1 := by simp only [PyData.depth]
          rw [e] at hu
          show A.units + 1 + _ < _
          omega
        obtain ⟨sz, al⟩ := Dx.eqAll I ds _ _ _ _ ha ha' rv rv' A.in1 hu'
        have q := RcAt.lists (A := A) (e := fun _ => true) hl hl' (by simpa using sz) h0 (fun j j1 j2 => by simpa using al j (by simpa using j1) (by simpa using j2))
        rw [all_true] at q
        exact eq_refs q
  | .tuple ds, _, _, _, _, h, h', r, r', A, hu => by
    cases h with
    | tup hs ha =>
      cases h' with
      | tup hs' ha' =>
        cases r; cases r'
        obtain ⟨its, rv, hl, _⟩ := I.tuple hs
        obtain ⟨its', rv', hl', _⟩ := I.tuple hs'
        have h0 : A.units < cLine := by omega
        have hu' : A.in1.units + PyData.depthAll ds < cLine := by
          have e : PyData.depth (.tuple ds) = PyData.depthAll ds + 1 := by simp only [PyData.depth]
          rw [e] at hu
          show A.units + 1 + _ < _
          omega
        obtain ⟨sz, al⟩ := Dx.eqAll I ds _ _ _ _ ha ha' rv rv' A.in1 hu'
        have q := RcAt.tuples (A := A) (e := fun _ => true) hl hl' h0 (fun j j1 j2 => by simpa using al j (by simpa using j1) (by simpa using j2))
        rw [all_true] at q
        exact eq_refs (by simpa [sz] using q)
  | .dict ks, _, _, _, _, h, h', r, r', A, hu => by
    cases h with
    | dic hs =>
      cases h' with
      | dic hs' =>
        cases r; cases r'
        exact eq_refs (dic_rc I hs hs' (by omega))
theorem Dx.eqAll (I : Inv X pins σ H s) : ∀ (ds : List PyData) (vs vs' : List V) (us us' : List Value), DxAll X.K H vs ds → DxAll X.K H vs' ds → Vals vs us → Vals vs' us' → ∀ A : Around, A.units + PyData.depthAll ds < cLine → us.length = us'.length ∧ ∀ j (h1 : j < us.length) (h2 : j < us'.length), EqAt A s us[j] us'[j] true
  | [], _, _, _, _, h, h', r, r', A, hu => by
    cases h; cases h'; cases r; cases r'
    exact ⟨rfl, fun j h => absurd h (Nat.not_lt_zero _)⟩
  | d :: ds, _, _, _, _, h, h', r, r', A, hu => by
    cases h with
    | cons h1 h2 =>
      cases h' with
      | cons h1' h2' =>
        cases r with
        | cons r1 r2 =>
          cases r' with
          | cons r1' r2' =>
            have e : PyData.depthAll (d :: ds) = max d.depth (PyData.depthAll ds) := by simp only [PyData.depthAll]
            rw [e] at hu
            have q := Dx.eq I d _ _ _ _ h1 h1' r1 r1' A (by omega)
            obtain ⟨sz, al⟩ := Dx.eqAll I ds _ _ _ _ h2 h2' r2 r2' A (by omega)
            refine ⟨by simp [sz], fun j j1 j2 => ?_⟩
            cases j with
            | zero => exact q
            | succ j => exact al j (Nat.lt_of_succ_lt_succ j1) (Nat.lt_of_succ_lt_succ j2)
end
theorem Dx.ne (I : Inv X pins σ H s) : ∀ (d : PyData) (v v' : V) (u u' : Value), Dx X.K H v d → Dx X.K H v' d → RelV v u → RelV v' u' → ∀ A : Around, A.units + d.depth < cLine → RcNeAt A s u u' false
  | .none, _, _, _, _, h, h', r, r', A, hu => by
    cases h; cases h'; cases r; cases r'
    exact RcNeAt.none_none
  | .bool b, _, _, _, _, h, h', r, r', A, hu => by
    cases h; cases h'; cases r; cases r'
    have e := RcNeAt.bool_bool (A := A) (s := s) b b
    rw [beq_self_eq_true] at e
    exact e
  | .int i, _, _, _, _, h, h', r, r', A, hu => by
    cases h; cases h'
    obtain ⟨t, rfl⟩ := r
    obtain ⟨t', rfl⟩ := r'
    have e := RcNeAt.int_int (A := A) (s := s) i t i t'
    rw [beq_self_eq_true] at e
    exact e
  | .str x, _, _, _, _, h, h', r, r', A, hu => by
    cases h; cases h'
    obtain ⟨t, rfl⟩ := r
    obtain ⟨t', rfl⟩ := r'
    have e := RcNeAt.str_str (A := A) (s := s) x t x t'
    rw [beq_self_eq_true] at e
    exact e
  | .list ds, _, _, _, _, h, h', r, r', A, hu => by
    cases h with
    | lst hs ha =>
      cases h' with
      | lst hs' ha' =>
        cases r; cases r'
        obtain ⟨its, rv, ⟨_, _, p1, p2, _, p3⟩, _⟩ := I.list hs
        obtain ⟨its', rv', ⟨_, _, p1', p2', _, p3'⟩, _⟩ := I.list hs'
        have hl : s.heap.IsList _ its.toArray := ⟨_, p1, p2, _, p3⟩
        have hl' : s.heap.IsList _ its'.toArray := ⟨_, p1', p2', _, p3'⟩
        have h0 : A.units < cLine := by omega
        have hu' : A.in1.units + PyData.depthAll ds < cLine := by
          have e : PyData.depth (.list ds) = PyData.depthAll ds + 1 := by simp only [PyData.depth]
          rw [e] at hu
          show A.units + 1 + _ < _
          omega
        obtain ⟨sz, al⟩ := Dx.eqAll I ds _ _ _ _ ha ha' rv rv' A.in1 hu'
        have q := RcNeAt.lists (A := A) (e := fun _ => true) hl hl' (by simpa using sz) h0 (fun j j1 j2 => by simpa using al j (by simpa using j1) (by simpa using j2))
        rw [all_true] at q
        exact q
  | .tuple ds, _, _, _, _, h, h', r, r', A, hu => by
    cases h with
    | tup hs ha =>
      cases h' with
      | tup hs' ha' =>
        cases r; cases r'
        obtain ⟨its, rv, hl, _⟩ := I.tuple hs
        obtain ⟨its', rv', hl', _⟩ := I.tuple hs'
        have h0 : A.units < cLine := by omega
        have hu' : A.in1.units + PyData.depthAll ds < cLine := by
          have e : PyData.depth (.tuple ds) = PyData.depthAll ds + 1 := by simp only [PyData.depth]
          rw [e] at hu
          show A.units + 1 + _ < _
          omega
        obtain ⟨sz, al⟩ := Dx.eqAll I ds _ _ _ _ ha ha' rv rv' A.in1 hu'
        have q := RcNeAt.tuples (A := A) (e := fun _ => true) hl hl' h0 (fun j j1 j2 => by simpa using al j (by simpa using j1) (by simpa using j2))
        rw [all_true] at q
        simpa [sz] using q
  | .dict ks, _, _, _, _, h, h', r, r', A, hu => by
    cases h with
    | dic hs =>
      cases h' with
      | dic hs' =>
        cases r; cases r'
        exact dic_ne I hs hs' (by omega)
end
mutual
def D.pyx : D → Option PyData
  | .non => some .none
  | .bl b => some (.bool b)
  | .int i => some (.int i)
  | .str s => some (.str s)
  | .tup ds => (D.pyxL ds).map .tuple
  | .lst ds => (D.pyxL ds).map .list
  | .dic => some (.dict [])
  | _ => none
def D.pyxL : List D → Option (List PyData)
  | [] => some []
  | d :: ds => match D.pyx d, D.pyxL ds with
    | some x, some xs => some (x :: xs)
    | _, _ => none
end
mutual
theorem D.dx {K : PySem.W.Frag} {G : Gx} {F H : Hp} (b : Same F H) : ∀ (d : D) (v : V) (p : PyData), Re G F H d v → d.pyx = some p → Dx K H v p
  | .non, _, _, h, e => by cases e; cases h; exact .non
  | .bl b, _, _, h, e => by cases e; cases h; exact .bl b
  | .int b, _, _, h, e => by cases e; cases h; exact .int b
  | .str b, _, _, h, e => by cases e; cases h; exact .str b
  | .tup ds, _, _, ⟨a, vs, ev, q, z, r⟩, e => by
    obtain ⟨ps, e1, e2⟩ := Option.map_eq_some_iff.mp (show (D.pyxL ds).map PyData.tuple = _ from e)
    subst e2 ev
    exact .tup (SqT.of q) (D.dxL b ds vs ps r e1)
  | .lst ds, _, _, ⟨a, vs, ev, q, z, r⟩, e => by
    obtain ⟨ps, e1, e2⟩ := Option.map_eq_some_iff.mp (show (D.pyxL ds).map PyData.list = _ from e)
    subst e2 ev
    exact .lst (SqL.of (b _ _ q)) (D.dxL b ds vs ps r e1)
  | .kd _, _, _, _, e => by cases e
  | .scr _, _, _, _, e => by cases e
  | .obj _, _, _, _, e => by cases e
  | .exn _, _, _, _, e => by cases e
  | .dic, _, _, ⟨a, ev, q⟩, e => by cases e; subst ev; exact .dic q
  | .lsa _ _, _, _, _, e => by cases e
theorem D.dxL {K : PySem.W.Frag} {G : Gx} {F H : Hp} (b : Same F H) : ∀ (ds : List D) (vs : List V) (ps : List PyData), ReL G F H ds vs → D.pyxL ds = some ps → DxAll K H vs ps
  | [], _, _, h, e => by cases e; cases h; exact .nil
  | d :: ds, _, _, ⟨v, vr, ev, h, r⟩, e => by
    subst ev
    unfold D.pyxL at e
    split at e
    · rename_i x xs e1 e2
      cases e
      exact .cons (D.dx b d v x h e1) (D.dxL b ds vr xs r e2)
    · cases e
end
def rNeX (K : PySem.W.Frag) : R2 := fun x y H Q => ∃ d, Dx K H x d ∧ Dx K H y d ∧ d.depth ≤ 64 ∧ Q (.bl false) H
section
variable {X : Cx} {c : Cc} {W : WX} {a b : Expr} {pa pb : W1 O} {pos : Pos}
theorem op_neX (hu : X.A.units + 64 < cLine) : OpR X (compareOp .NotEq) (rNeX X.K) := by
  intro pins s σ H x y v u Q I rx ry h
  obtain ⟨d, hd, he, sd, q⟩ := h
  exact Dx.ne I d x y v u hd he rx ry X.A (by omega) X.prog X.w _ _ ⟨.bl _, H, I, rfl, q⟩
/-- a != b, where both are alike -/
def uNeX : U2 := ⟨fun a b Q => ∃ d p, a.er = d ∧ b.er = d ∧ d.pyx = some p ∧ p.depth ≤ 64 ∧ Q (O.t false), fun hq ⟨d, p, e1, e2, e3, e4, q⟩ => ⟨d, p, e1, e2, e3, e4, hq _ q⟩⟩
theorem fit_neX {K : PySem.W.Frag} : Fit2 c (rNeX K) uNeX := fun F H Ts ts S σ a b x y Q s ⟨d, p, e1, e2, e3, e4, q⟩ =>
  ⟨p, D.dx (Same.refl _) _ _ _ s.pop.topEr (by rw [e1]; exact e3), D.dx (Same.refl _) _ _ _ s.topEr (by rw [e2]; exact e3), e4, q F H _ (s.pop.pop.pushIm rfl)⟩
theorem st_neX (hu : X.A.units + 64 < cLine) (ha : SE X c W a pa) (hb : SE X c W b pb) : ST X c W (.Compare a [.NotEq] [b] pos) (wT (w2 pa pb uNeX)) := st_cmp (op_neX hu) fit_neX ha hb (nomark _)
end
end PL

/-! P48 -/
set_option Elab.async false
set_option linter.all false
set_option maxRecDepth 100000
set_option maxHeartbeats 4000000
/-! P48: a def whose last argument is given away; what comes back may lean on lists that it froze. -/
namespace PL
open PySem PySem.Spec L2 PyProof.Rows
def spMf (G : Gx) (R : CtL) : Sp := fun vs H Q _ => ∃ (F0 : Hp) (v0 : V) (vs' : List V) (o : O) (A : List Addr) (ds : List D), vs = vs' ++ [v0] ∧ o.nb = true ∧ Same F0 H ∧ Ow G F0 H o v0 A ∧ A.Nodup ∧ ReL G F0 H ds vs' ∧
  R.run ds o (fun r => ∀ (H' F2 : Hp) (v : V) (B : List Addr), Same F0 F2 → Same F2 H' → (∀ a, H a ≠ none → a ∉ A → F2 a = F0 a) → (∀ a x, H a = some x → a ∉ A → H' a = some x) → Ow G F2 H' r v B → B.Nodup → (∀ a ∈ B, H a = none ∨ a ∈ A) → Q v H')
section
variable {P : Program} {w : World} {K : PySem.W.Frag} {mg : Str → Option Value} {base : Heap} {G : Gx}
theorem ok_mf {x qual : Str} {st : Stmt} {f : Addr} {fd : FuncData} {N ps : List Str} {k : Nat} {R : CtL} {p : WS} (F : Fun K x qual st f fd) (S : FnScope N ps (defScope st)) (len : ∀ ds o Q, R.run ds o Q → ds.length + 1 = ps.length)
    (hbody : ∀ (c : Cc) (cdv : Value) (A : Around) (outer : List Env) (s : Shared) (H : Hp) (E : XK), c.G = G → Room k (A.deeper (PyProof.Rows.envOfC qual (defScope st) s.heap.objs.size f cdv)) →
      SSs (cxOf (L2.CX P w) P w K mg base N qual (defScope st) f cdv A outer s H E) c (fun cls d _ H => E cls d H) (defBody st) p)
    (pure : ∀ ds o Q, R.run ds o Q → p.run (startL N ds o) { nx := fun _ => False, rt := fun r => r.nb = true ∧ Q r, ex := fun _ _ => False }) : FnOk P w K mg base (L2.CX P w) (k + 1) f fd ps (spMf G R) := by
  refine F.okX S (fun vs H Q E ⟨F0, v0, vs', o, A, ds, e, _, _, _, _, r, h⟩ => by subst e; rw [List.length_append, ← r.length]; exact len _ _ _ h) (fun cdv Ar outer s H vs Q E hr ⟨F0, v0, vs', o, A, ds, e, nb, sm, ho, nd, r, h⟩ => ?_)
  subst e
  have off : ∀ a, a ∈ A → offH H A a = none := fun a h => by unfold offH; rw [if_pos h]
  have on : ∀ a, a ∉ A → offH H A a = H a := fun a h => by unfold offH; rw [if_neg h]
  have own := Ow.own ho
  refine ⟨_, hbody ⟨G, F0, offH H A⟩ cdv Ar outer s H E rfl hr, ?_⟩
  refine ⟨⟨F0, PL.frz F0 H A⟩, PL.startL N ds o, [], [], (fun o ho => by cases ho), ⟨Same.refl _, frz_same fun a ha => (own a ha).1, frz_sub sm, fun a u q => ?_, fun _ _ => rfl, [], A, ⟨rfl, rfl⟩, ?_, nd, fun a ha => off a ha, (fun a ha => by cases ha), fun a ha => frz_in ha⟩,
    p.le (pure ds o _ h) ⟨fun S' z => z.elim, fun r ⟨nbr, z⟩ F' H' v S' σ' s' => ?_, fun _ z => z.elim, fun _ z => z.elim, fun S' e z => z.elim⟩⟩
  · have q' : offH H A a = some u := q
    by_cases hm : a ∈ A
    · rw [off a hm] at q'; cases q'
    · rw [on a hm] at q'; exact q'
  · unfold PL.startL L2.start
    have := SlL.startL (m := N.length - (ds.length + 1)) ho r
    rw [List.map_append, List.length_append, ← r.length, List.append_assoc]
    exact this
  · obtain ⟨A', C, ⟨v', vr, A1, A2, e, eA, hw, r2⟩, hC, nd', no, nA, nC⟩ := s'.own
    cases e
    have e2 : A2 = [] := r2.2
    subst e2 eA
    rw [List.append_nil] at nd' no
    refine z H' F'.F v A1 s'.ext s'.sub (fun a ha hm => s'.dom a ?_) (fun a x q n => s'.old a x ?_) (hw.ow nbr) (List.nodup_append.mp nd').1 fun a ha => ?_
    · show offH H A a ≠ none
      rw [on a hm]; exact ha
    · show offH H A a = some x
      rw [on a n]; exact q
    · have q : offH H A a = none := no a (List.mem_append_left _ ha)
      by_cases hm : a ∈ A
      · exact .inr hm
      · rw [on a hm] at q; exact .inl q
end
section
variable {c : Cc} {F : Fz} {H : Hp} {Ts : List O} {ts : List V} {S : List (Option O)} {σ : L2.St}
theorem Sv.swapOwnF {w : O} {v : V} (s : Sv c F H (w :: Ts) (v :: ts) S σ) : ∃ A, Vw c.G F H w v A ∧ A.Nodup ∧ (∀ a ∈ A, F.B a = none) ∧ ∀ (H' F2 : Hp) (r : O) (u : V) (B : List Addr), Same F.F F2 → Same F2 H' → (∀ a, H a ≠ none → a ∉ A → F2 a = F.F a) → (∀ a x, H a = some x → a ∉ A → H' a = some x) → Ow c.G F2 H' r u B → B.Nodup → (∀ a ∈ B, H a = none ∨ a ∈ A) →
    ∃ F' : Fz, Sv c F' H' (r :: Ts) (u :: ts) S σ := by
  obtain ⟨A, C, ⟨v', vr, A1, A2, e, eA, h, r⟩, hC, nd, no, nA, nC⟩ := s.own
  cases e
  subst eA
  rw [List.append_assoc] at nd no
  have nd1 := (List.nodup_append.mp nd).1
  have nd2 := (List.nodup_append.mp nd).2.1
  have out : ∀ a ∈ A2 ++ C, a ∉ A1 := fun a ha h1 => (List.nodup_append.mp nd).2.2 a h1 a ha rfl
  refine ⟨A1, h, nd1, fun a ha => nA a (List.mem_append_left _ ha), fun H' F2 r0 u B sF sH dm st hB ndB hm => ?_⟩
  have kp : Keep H H' := fun b u q nl => st b u q fun hb => by
    obtain ⟨_, vs, e⟩ := h.own b hb
    rw [e] at q; cases q
    exact nl _ rfl
  have lst : ∀ a ∈ A2 ++ C, F.F a = none ∧ ∃ vs, H a = some (.lst vs) := fun a ha => by
    rcases List.mem_append.mp ha with h | h
    · exact r.own a h
    · exact hC.own a h
  have same : ∀ a ∈ A2 ++ C, F2 a = none ∧ H' a = H a := fun a ha => by
    obtain ⟨h1, vs, e⟩ := lst a ha
    refine ⟨(dm a (by rw [e]; simp) (out a ha)).trans h1, ?_⟩
    rw [e]
    exact st a _ e (out a ha)
  have inH : ∀ a ∈ A2 ++ C, H a ≠ none := fun a ha => by
    obtain ⟨_, vs, e⟩ := lst a ha
    rw [e]; simp
  have offA : ∀ a o, F.B a = some o → a ∉ A1 := fun a o q hm => by rw [nA a (List.mem_append_left _ hm)] at q; cases q
  have g : Same F.B (joinB F2 F.B) := fun a o e => by
    unfold joinB
    have hH := s.bh a o e
    rw [dm a (by rw [hH]; simp) (offA a o e)]
    cases q : F.F a with
    | none => exact e
    | some o' => have := s.fb a o' q; rw [e] at this; exact this.symm
  have ownB := Ow.own hB
  refine ⟨⟨F2, joinB F2 F.B⟩, fun a o e => sF a o (s.ext a o e), fun a o e => ?_, fun a o e => ?_, fun a u q => ?_, fun a ha => ?_, B ++ A2, C, ⟨u, ts, B, A2, rfl, rfl, (Ow.vw (F := ⟨F2, joinB F2 F.B⟩) hB), r.monoK sF g kp (fun a ha => same a (List.mem_append_left _ ha))⟩, hC.mono sF kp (fun a ha => same a (List.mem_append_right _ ha)), ?_, fun a ha => ?_, fun a ha => ?_, fun a ha => ?_⟩
  · show joinB F2 F.B a = some o
    unfold joinB; rw [show F2 a = some o from e]
  · have e' : joinB F2 F.B a = some o := e
    unfold joinB at e'
    split at e'
    · rename_i o' q; cases e'; exact sH a _ q
    · exact st a o (s.bh a o e') (offA a o e')
  · exact st a u (s.old a u q) fun hm => by rw [no a (List.mem_append_left _ hm)] at q; cases q
  · refine (dm a ?_ fun hm => ha (no a (List.mem_append_left _ hm))).trans (s.dom a ha)
    cases q : c.H0 a with
    | none => exact absurd q ha
    | some o => rw [s.old a o q]; simp
  · rw [List.append_assoc]
    refine List.nodup_append.mpr ⟨ndB, nd2, fun x hx y hy e => ?_⟩
    subst e
    rcases hm x hx with h1 | h1
    · exact inH x hy h1
    · exact out x hy h1
  · rw [List.append_assoc] at ha
    rcases List.mem_append.mp ha with ha | ha
    · rcases hm a ha with h1 | h1
      · exact s.old.free h1
      · exact no a (List.mem_append_left _ h1)
    · exact no a (List.mem_append_right _ ha)
  · show joinB F2 F.B a = none
    unfold joinB
    rcases List.mem_append.mp ha with ha | ha
    · rw [(ownB a ha).1]
      rcases hm a ha with h1 | h1
      · exact s.bh.free h1
      · exact nA a (List.mem_append_left _ h1)
    · rw [(same a (List.mem_append_left _ ha)).1]
      exact nA a (List.mem_append_right _ ha)
  · show joinB F2 F.B a = H' a
    unfold joinB
    rw [(same a (List.mem_append_right _ ha)).1, (same a (List.mem_append_right _ ha)).2]
    exact nC a ha
end
structure DMf (P : Program) (w : World) (K : PySem.W.Frag) (mg : Str → Option Value) (base : Heap) (x : Str) (k : Nat) (G : Gx) (R : CtL) : Prop where
  ex : ∃ f fd ps, FnOk P w K mg base (L2.CX P w) k f fd ps (spMf G R) ∧ mg x = some (.ref f) ∧ PySem.W.keepIn K (.ref f) = true ∧ Binds K fd ps []
/-- a def whose last argument is given away keeps its contract -/
def KeepsF (N : List Str) (w : WS) (R : CtL) : Prop := ∀ ds o Q, R.run ds o Q → w.run (startL N ds o) { nx := fun _ => False, rt := fun r => r.nb = true ∧ Q r, ex := fun _ _ => False }
section
variable {P : Program} {w : World} {K : PySem.W.Frag} {mg : Str → Option Value} {base : Heap} {G : Gx}
theorem dmf_of {x qual : Str} {st : Stmt} {N ps : List Str} {k : Nat} {R : CtL} {p : WS} (T : AtD K mg x qual st) (S : FnScope N ps (defScope st)) (bd : ∀ f fd, Fun K x qual st f fd → Binds K fd ps []) (len : ∀ ds o Q, R.run ds o Q → ds.length + 1 = ps.length)
    (hbody : ∀ (f : Addr) (c : Cc) (cdv : Value) (A : Around) (outer : List Env) (s : Shared) (H : Hp) (E : XK), c.G = G → Room k (A.deeper (PyProof.Rows.envOfC qual (defScope st) s.heap.objs.size f cdv)) →
      SSs (cxOf (L2.CX P w) P w K mg base N qual (defScope st) f cdv A outer s H E) c (fun cls d _ H => E cls d H) (defBody st) p)
    (pure : KeepsF N p R) : DMf P w K mg base x (k + 1) G R := by
  obtain ⟨f, fd, F, hm⟩ := T.ex
  exact ⟨f, fd, ps, ok_mf F S len (hbody f) pure, hm, F.kp, bd f fd F⟩
end
/-- return f(a, b, x), x given away; a, b are frozen -/
def sRetMf (i : Nat) (pa pb : W1 O) (R : CtL) : WS := ⟨fun S D => ∃ w, S[i]? = some (some w) ∧ pa.run (S.set i none) (fun o1 => o1.nb = true ∧ pb.run (S.set i none) (fun o2 => o2.nb = true ∧ R.run [o1.er, o2.er] w D.rt) (fun _ => False)) (fun _ => False), by
  rintro S D D' l ⟨w, e, h⟩
  exact ⟨w, e, pa.mono (fun o1 ⟨n1, z⟩ => ⟨n1, pb.mono (fun o2 ⟨n2, y⟩ => ⟨n2, R.mono (fun r => l.rt _) y⟩) (fun _ z => z) z⟩) (fun _ z => z) h⟩⟩
section
variable {X : Cx} {c : Cc} {W : WX} {a b : Expr} {pa pb : W1 O} {pos : Pos}
theorem ss_retMf {k j i : Nat} {R : CtL} {f x : Str} {p p2 pos2 pos3 : Pos} (M : DMf X.prog X.w X.K X.mg X.base f k c.G R) (hr : Room j X.A) (hk : k ≤ j) (tk : Takes X W) (hi : X.N[i]? = some x) (ha : SE X c W a pa) (hb : SE X c W b pb)
    (hv : Vis X.env.scope x := by first | exact Or.inl rfl | exact Or.inr (Or.inl rfl) | exact Or.inr (Or.inr rfl)) (hd : (x == ("__debug__" : Str)) = false := by decide) (hcd : (x == ("__classdict__" : Str)) = false := by decide) (hg : Gl X f := by rfl) (hdb : (f == ("__debug__" : Str)) = false := by decide)
    (hs1 : starEach [a, b, .Name x p2] X.env = (false, eval a X.env) :: starEach [b, .Name x p2] X.env := by rfl) (hs2 : starEach [b, .Name x p2] X.env = (false, eval b X.env) :: starEach [.Name x p2] X.env := by rfl) (hs3 : starEach [.Name x p2] X.env = (false, eval (.Name x p2) X.env) :: starEach [] X.env := by rfl)
    (hpl : (backTo pos2 (starEach [b, .Name x p2] X.env)).any (·.1) = false := by rfl) :
    SS X c W (.Return (some (.Call (.Name f p) [a, b, .Name x p2] [] pos2)) pos3) (sRetMf i pa pb R) := by
  obtain ⟨ff, fd, ps, F, hm, hkp, hbi⟩ := M.ex
  refine PS.imp (ps_ret (pe_callSD (dvs := []) F (hr.mono hk) hg hm hkp hbi .nil (fun σ => passAt tk σ) (pa_cons ha (pa_cons hb (pa_cons (pe_var hi hv hd hcd) pa_nil hs3) hs2) hs1) hdb hs1 hpl)) fun D σ H ⟨F, S, Ts, ts, nb, s, w, eS, h⟩ => ?_
  obtain ⟨v0, F1, _, e0, nbw, s1⟩ := s.move nb eS
  refine ⟨F1, S.set i none, _, _, s1, pa.mono (fun o1 ⟨n1, z⟩ F2 H2 v1 s2 => ?_) (fun e z => z.elim) h⟩
  refine ⟨F2, S.set i none, _, _, s2, pb.mono (fun o2 ⟨n2, y⟩ F3 H3 v2 s3 => ?_) (fun e z => z.elim) z⟩
  refine ⟨v0, e0, ?_⟩
  have s3' : Sv c F3 H3 ([o2, o1] ++ (w :: Ts)) ([v2, v1] ++ (v0 :: ts)) (S.set i none) σ := s3
  obtain ⟨F4, f4, s4, rel⟩ := s3'.freezeN rfl (by simp [n1, n2])
  obtain ⟨w2, wr2, ew2, r2, w1, wr1, ew1, r1, en⟩ := rel
  cases ew2
  cases ew1
  obtain ⟨A, hA, ndA, nB, back⟩ := s4.swapOwnF
  refine ⟨F4.F, v0, [v1, v2], w, A, [o1.er, o2.er], rfl, nbw, s4.sub, hA.ow nbw, ndA, ⟨v1, _, rfl, r1, v2, [], rfl, r2, rfl⟩, R.mono (fun r hr H' F5 v B2 g1 g2 g3 st hB ndB hm => ?_) y⟩
  obtain ⟨F6, s6⟩ := back H' F5 r v B2 g1 g2 g3 st hB ndB hm
  exact hr F6 H' v _ _ s6
end
end PL

/-! P49 -/
set_option Elab.async false
set_option linter.all false
set_option maxRecDepth 100000
set_option maxHeartbeats 4000000
/-! P49: texts: a sign of one, slices, sums, walked, signs within, str(), int(), partition, split, join, f-strings. -/
namespace PL
open PySem PySem.Spec L2 PyProof.Rows
abbrev sg (c : Nat) : Str := ⟨#[c]⟩
section
variable {X : Cx} {c : Cc} {W : WX} {tg a b e : Expr} {pa pb : W1 O} {q : W1 (List O)} {pos : Pos}
/-- x[i] -/
def uIxS : U2 := ⟨fun a b Q => ∃ z k d, a = O.s z ∧ b = O.i k ∧ z.length ≤ sizeLine ∧ atI z.cps.toList k = some d ∧ Q (O.s (sg d)), fun hq ⟨z, k, d, e1, e2, e3, e4, q⟩ => ⟨z, k, d, e1, e2, e3, e4, hq _ q⟩⟩
theorem fit_ixS : Fit2 c rIxS uIxS := fun F H Ts ts S σ a b x y Q s ⟨z, k, d, ea, eb, h1, h2, q⟩ => by
  subst ea eb
  exact ⟨z, k, d, s.pop.str, s.int, h1, h2, q F H _ (s.pop.pop.pushIm rfl)⟩
theorem se_ixS (ha : SE X c W a pa) (hb : SE X c W b pb) (hs : PlainIx b := by exact fun _ _ => rfl) : SE X c W (.Subscript a b pos) (w2 pa pb uIxS) := se_ix ix_str fit_ixS ha hb hs
/-- x[i:j] -/
def wSlS (p : W1 O) (l u : W1 (Option Int)) : W1 O := ⟨fun S Q E => p.run S (fun o => l.run S (fun lo => u.run S (fun hi => ∃ z, o = O.s z ∧ z.length ≤ sizeLine ∧ Q (O.s (cutS z lo hi))) E) E) E,
  fun hq he h => p.mono (fun o h => l.mono (fun lo h => u.mono (fun hi ⟨z, e, e2, q⟩ => ⟨z, e, e2, hq _ q⟩) he h) he h) he h⟩
theorem se_slS {lo hi : Option Expr} {p2 : Pos} {l u : W1 (Option Int)} (ha : SE X c W a pa) (hl : SO X c W lo l) (hu : SO X c W hi u) : SE X c W (.Subscript a (.Slice lo hi none p2) pos) (wSlS pa l u) := by
  refine PE.imp (pe_slice (r := rSlS) sl_str ha hl hu) fun σ H Q ⟨F, S, Ts, ts, s, h⟩ => ⟨F, S, Ts, ts, s, pa.mono (fun o ho F1 H1 x s1 => ?_) (fun _ z => z) h⟩
  refine ⟨F1, S, _, _, s1, l.mono (fun lo' hlo F2 H2 s2 => ?_) (fun e z => exK.pop e z) ho⟩
  refine ⟨F2, S, _, _, s2, u.mono (fun hi' hhi F3 H3 s3 => ?_) (fun e z => exK.pop e z) hlo⟩
  obtain ⟨z, e1, hz, q⟩ := hhi
  subst e1
  exact ⟨z, s3.str, hz, q F3 H3 _ (s3.pop.pushIm rfl)⟩
/-- walked -/
def wItS (p : W1 O) : W1 Wk := ⟨fun S Q E => p.run S (fun o => ∃ z, o = O.s z ∧ z.length ≤ sizeLine ∧ Q ⟨[O.s z], z.cps.toList.map fun d => O.s (sg d)⟩) E, fun hq he h => p.mono (fun o ⟨z, e, t, q⟩ => ⟨z, e, t, hq _ q⟩) he h⟩
theorem walk_str {z : Str} (hz : z.length ≤ sizeLine) : WalkOk c (Its z) ⟨[O.s z], z.cps.toList.map fun d => O.s (sg d)⟩ [.str z] := by
  have el : z.cps.toList.length = z.cps.size := by simp
  refine ⟨by rw [List.length_map, el]; exact hz, fun F H Ts ts S σ s => ⟨fun i hi => ?_, fun i u hu => ?_⟩⟩
  · show z.cps.size ≤ i
    rw [List.length_map, el] at hi
    exact hi
  · have hi := ixs hu
    rw [List.length_map, el] at hi
    refine ⟨hi, fun x H' ⟨eH, d, hd, ex⟩ => ?_⟩
    subst eH ex
    rw [List.getElem?_map] at hu
    have e2 : z.cps.toList[i]? = some d := by rw [Array.getElem?_toList]; exact hd
    rw [e2] at hu
    cases hu
    exact ⟨F, s.pushIm rfl⟩
theorem si_str (ha : SE X c W a pa) : SI X c W tg a (wItS pa) :=
  PI.imp (pi_str ha) fun σ H R ⟨F, S, Ts, ts, s, h⟩ => ⟨F, S, Ts, ts, s, pa.mono (fun o ⟨z, e, t, q⟩ F1 H1 v s1 => by
    subst e
    obtain rfl := s1.str
    exact ⟨z, rfl, q F1 H1 _ [.str z] s1 rfl (walk_str t)⟩) (fun _ z => z) h⟩
/-- a sign within -/
def rInSg (neg : Bool) : R2 := fun x y H Q => ∃ (d : Nat) (z : Str), x = .str ⟨#[d]⟩ ∧ y = .str z ∧ Q (.bl (neg ^^ decide (d ∈ z.cps.toList))) H
theorem op_inSg : OpR X (compareOp .In) (rInSg false) := fun pins s σ H x y v u Q I rx ry ⟨d, z, e1, e2, q⟩ => op_in_sign pins s σ H x y v u Q I rx ry ⟨d, z, e1, e2, by simpa using q⟩
theorem op_notInSg : OpR X (compareOp .NotIn) (rInSg true) := fun pins s σ H x y v u Q I rx ry ⟨d, z, e1, e2, q⟩ => op_notIn_sign pins s σ H x y v u Q I rx ry ⟨d, z, e1, e2, by simpa using q⟩
def uInSg (neg : Bool) : U2 := ⟨fun a b Q => ∃ d z, a = O.s (sg d) ∧ b = O.s z ∧ Q (O.t (neg ^^ decide (d ∈ z.cps.toList))), fun hq ⟨d, z, e1, e2, q⟩ => ⟨d, z, e1, e2, hq _ q⟩⟩
theorem fit_inSg {neg : Bool} : Fit2 c (rInSg neg) (uInSg neg) := fun F H Ts ts S σ a b x y Q s ⟨d, z, ea, eb, q⟩ => by
  subst ea eb
  exact ⟨d, z, s.pop.str, s.str, q F H _ (s.pop.pop.pushIm rfl)⟩
theorem st_inSg (ha : SE X c W a pa) (hb : SE X c W b pb) (hm : behindInMarks .In b = false := by rfl) : ST X c W (.Compare a [.In] [b] pos) (wT (w2 pa pb (uInSg false))) := st_cmp op_inSg fit_inSg ha hb hm
theorem st_notInSg (ha : SE X c W a pa) (hb : SE X c W b pb) (hm : behindInMarks .NotIn b = false := by rfl) : ST X c W (.Compare a [.NotIn] [b] pos) (wT (w2 pa pb (uInSg true))) := st_cmp op_notInSg fit_inSg ha hb hm
/-- x + y -/
def uAddS : U2 := ⟨fun a b Q => ∃ x y, a = O.s x ∧ b = O.s y ∧ x.length + y.length ≤ sizeLine ∧ Q (O.s (x ++ y)), fun hq ⟨d, z, e1, e2, z2, q⟩ => ⟨d, z, e1, e2, z2, hq _ q⟩⟩
theorem fit_addS : Fit2 c (fun x y H Q => ∃ i j, x = .str i ∧ y = .str j ∧ i.length + j.length ≤ sizeLine ∧ Q (.str (i ++ j)) H) uAddS := fun F H Ts ts S σ a b x y Q s ⟨d, z, ea, eb, hz, q⟩ => by
  subst ea eb
  exact ⟨d, z, s.pop.str, s.str, hz, q F H _ (s.pop.pop.pushIm rfl)⟩
theorem se_addS (ha : SE X c W a pa) (hb : SE X c W b pb) : SE X c W (.BinOp a .Add b pos) (w2 pa pb uAddS) := se_op op_add_str fit_addS ha hb
/-- str(n) -/
def uStr : U1 := ⟨fun a Q => ∃ i : Int, a = O.i i ∧ i.natAbs.log2 < 1920 ∧ Q (O.s (toString i)), fun hq ⟨i, e, h, q⟩ => ⟨i, e, h, hq _ q⟩⟩
theorem fit_str : FitA c (fun xs H Q => ∃ i : Int, xs = [.int i] ∧ i.natAbs.log2 < 1920 ∧ Q (.str (toString i)) H) (uA1 uStr) := fun F H Ts ts S σ os vs Q s e ⟨a, ea, i, e1, hz, q⟩ => by
  subst ea e1
  obtain ⟨v, rfl⟩ := len1 e
  have s' : Sv c F H (O.i i :: Ts) (v :: ts) S σ := s
  obtain rfl := s'.int
  exact ⟨i, rfl, hz, q F H _ (s'.pop.pushIm rfl)⟩
theorem se_strc {p : Pos} (hm : X.mg "str" = none) (ha : SA X c W [a] q) (hg : Gl X "str" := by rfl) (he : starEach [a] X.env = (false, eval a X.env) :: starEach [] X.env := by rfl) :
    SE X c W (.Call (.Name "str" p) [a] [] pos) (wA q (uA1 uStr)) := se_cT (x := "str") call_str_int fit_str hg hm (by decide +kernel) ha (he := he)
/-- int(x), x a text -/
def uIntS : U1 := ⟨fun a Q => ∃ z n, a = O.s z ∧ PySem.intText? z = some n ∧ z.length ≤ 640 ∧ Q (O.i n), fun hq ⟨i, n, e, h, l, q⟩ => ⟨i, n, e, h, l, hq _ q⟩⟩
theorem fit_intS : FitA c (fun xs H Q => ∃ a n, xs = [.str a] ∧ PySem.intText? a = some n ∧ a.length ≤ 640 ∧ Q (.int n) H) (uA1 uIntS) := fun F H Ts ts S σ os vs Q s e ⟨a, ea, z, n, e1, hn, hz, q⟩ => by
  subst ea e1
  obtain ⟨v, rfl⟩ := len1 e
  have s' : Sv c F H (O.s z :: Ts) (v :: ts) S σ := s
  obtain rfl := s'.str
  exact ⟨z, n, rfl, hn, hz, q F H _ (s'.pop.pushIm rfl)⟩
theorem se_intS {p : Pos} (hm : X.mg "int" = none) (ha : SA X c W [a] q) (hg : Gl X "int" := by rfl) (he : starEach [a] X.env = (false, eval a X.env) :: starEach [] X.env := by rfl) :
    SE X c W (.Call (.Name "int" p) [a] [] pos) (wA q (uA1 uIntS)) := se_cT (x := "int") call_int_str fit_intS hg hm (by decide +kernel) ha (he := he)
/-- texts as temporaries -/
theorem Sv.pushStrs {F : Fz} {H : Hp} {Ts : List O} {ts : List V} {S : List (Option O)} {σ : L2.St} (s : Sv c F H Ts ts S σ) : ∀ ys : List Str, Sv c F H (ys.map O.s ++ Ts) (ys.map V.str ++ ts) S σ
  | [] => s
  | y :: ys => (Sv.pushStrs s ys).pushIm rfl
theorem map_V (ys : List Str) : (ys.map O.s).length = (ys.map V.str).length := by simp
/-- a text's method -/
def wStrM (p r : W1 O) (u : U2) : W1 O := ⟨fun S Q E => p.run S (fun o => (∃ z, o = O.s z) ∧ r.run S (fun b => u.run o b Q) E) E, fun hq he h => p.mono (fun o ⟨z, h⟩ => ⟨z, r.mono (fun b h => u.mono hq h) he h⟩) he h⟩
theorem lift_sm {r : V → List V → Hp → VK → Prop} {u : U2} (f : Fit2 c (fun x y H Q => r x [y] H Q) u) (σ : L2.St) (H : Hp) (Q : VK) (h : lift c W (wStrM pa pb u) σ H Q) : tM1 r (lift c W pa) (lift c W pb) σ H Q := by
  obtain ⟨F, S, Ts, ts, s, q⟩ := h
  refine ⟨F, S, Ts, ts, s, pa.mono (fun o ⟨⟨z, ez⟩, ho⟩ F1 H1 v s1 => ?_) (fun _ z => z) q⟩
  subst ez
  exact ⟨⟨z, s1.str⟩, F1, S, _, _, s1, pb.mono (fun o2 ho2 F2 H2 v2 s2 => f _ _ _ _ _ _ _ _ _ _ _ s2 ho2) (fun e z => exK.pop e z) ho⟩
/-- x.partition(y) -/
def uPart : U2 := ⟨fun a b Q => ∃ x y, a = O.s x ∧ b = O.s y ∧ (y.length == 0) = false ∧ x.length ≤ sizeLine ∧ Q (.im (.tup [.str (Txt.partition x y).1, .str (Txt.partition x y).2.1, .str (Txt.partition x y).2.2])), fun hq ⟨x, y, e1, e2, h1, h2, q⟩ => ⟨x, y, e1, e2, h1, h2, hq _ q⟩⟩
theorem fit_part : Fit2 c (fun x y H Q => ∃ a b, x = V.str a ∧ [y] = [.str b] ∧ (b.length == 0) = false ∧ a.length ≤ sizeLine ∧
      ∀ p, H p = none → Q (.ref p) (upd H p (.tup [.str (Txt.partition a b).1, .str (Txt.partition a b).2.1, .str (Txt.partition a b).2.2]))) uPart := fun F H Ts ts S σ a b x y Q s ⟨d, z, ea, eb, h1, h2, q⟩ => by
  subst ea eb
  obtain rfl := s.pop.str
  obtain rfl := s.str
  refine ⟨d, z, rfl, rfl, h1, h2, fun p n => ?_⟩
  obtain ⟨F4, _, s4⟩ := (s.pop.pop.pushStrs [(Txt.partition d z).1, (Txt.partition d z).2.1, (Txt.partition d z).2.2]).mkT rfl (show 3 ≤ sizeLine by decide) n
  exact q F4 _ _ s4
theorem se_part {apos : Pos} (ha : SE X c W a pa) (hb : SE X c W b pb) (hs : starEach [b] X.env = [(false, eval b X.env)] := by rfl) (hbase : attributeBase a "partition" X.env (eval a X.env) = eval a X.env := by rfl) (hline : (apos.endLine == pos.line) = true := by rfl) :
    SE X c W (.Call (.Attribute a "partition" apos) [b] [] pos) (wStrM pa pb uPart) := PE.imp (pe_partition ha hb hs hbase hline) (lift_sm fit_part)
/-- x.split(y) -/
def uSplit : U2 := ⟨fun a b Q => ∃ x y, a = O.s x ∧ b = O.s y ∧ (y.length == 0) = false ∧ x.length + 2 ≤ sizeLine ∧ (Txt.split x y).length ≤ sizeLine ∧ Q (.ls ((Txt.split x y).map O.s)), fun hq ⟨x, y, e1, e2, h1, h2, h3, q⟩ => ⟨x, y, e1, e2, h1, h2, h3, hq _ q⟩⟩
theorem nb_strs (ys : List Str) : (ys.map O.s).all O.nb = true := by
  rw [List.all_eq_true]
  intro x hx
  obtain ⟨y, _, rfl⟩ := List.mem_map.mp hx
  rfl
theorem fit_split : Fit2 c (fun x y H Q => ∃ a b, x = V.str a ∧ [y] = [.str b] ∧ (b.length == 0) = false ∧ a.length + 2 ≤ sizeLine ∧ rNewStrs (Txt.split a b) H Q) uSplit := fun F H Ts ts S σ a b x y Q s ⟨d, z, ea, eb, h1, h2, h3, q⟩ => by
  subst ea eb
  obtain rfl := s.pop.str
  obtain rfl := s.str
  refine ⟨d, z, rfl, rfl, h1, h2, fun p n => ?_⟩
  obtain ⟨F4, _, s4⟩ := (s.pop.pop.pushStrs (Txt.split d z)).mkL (map_V _) (by rw [List.length_map]; exact h3) n
  rw [mkL_nb (nb_strs _)] at s4
  exact q F4 _ _ s4
theorem se_split {apos : Pos} (ha : SE X c W a pa) (hb : SE X c W b pb) (hs : starEach [b] X.env = [(false, eval b X.env)] := by rfl) (hbase : attributeBase a "split" X.env (eval a X.env) = eval a X.env := by rfl) (hline : (apos.endLine == pos.line) = true := by rfl) :
    SE X c W (.Call (.Attribute a "split" apos) [b] [] pos) (wStrM pa pb uSplit) := PE.imp (pe_split ha hb hs hbase hline) (lift_sm fit_split)
/-- x.join(texts) -/
def uJoin : U2 := ⟨fun a b Q => ∃ (x : Str) (ys : List Str), a = O.s x ∧ b = .ls (ys.map O.s) ∧ (ys.map (·.length)).sum + ys.length * x.length ≤ 16777216 ∧ Q (O.s (Txt.join x ys)), fun hq ⟨x, y, e1, e2, h1, q⟩ => ⟨x, y, e1, e2, h1, hq _ q⟩⟩
theorem its_strs (ys : List Str) : O.its (.ls (ys.map O.s)) = some (ys.map O.s) := by
  show some ((O.erL (ys.map O.s)).map O.im) = _
  rw [O.erL_map, List.map_map, List.map_map]
  rfl
theorem itv_strs {G : Gx} {F : Fz} {H : Hp} : ∀ {ys : List Str} {vs : List V}, ItV G F H (ys.map O.s) vs → vs = ys.map V.str
  | [], vs, ⟨e, _⟩ => List.eq_nil_of_length_eq_zero e.symm
  | y :: ys, [], ⟨e, _⟩ => by simp at e
  | y :: ys, v :: vs, ⟨e, h⟩ => by
    obtain ⟨v', e', h'⟩ := h 0 (O.s y) rfl
    simp at e'
    subst e'
    have hv : v = .str y := (show _ ∧ _ from h').2
    rw [hv, itv_strs (ys := ys) ⟨by simpa using e, fun j o e => h (j + 1) o (by simpa using e)⟩]
    rfl
theorem fit_join (hK : X.K = c.G.K) : Fit2 c (fun x y H Q => ∃ a p, ∃ ys : List Str, x = V.str a ∧ [y] = [.ref p] ∧ (SqL X.K H p (ys.map V.str) ∨ SqT X.K H p (ys.map V.str)) ∧
      (ys.map (·.length)).sum + ys.length * a.length ≤ 16777216 ∧ Q (.str (Txt.join a ys)) H) uJoin := fun F H Ts ts S σ a b x y Q s ⟨d, ys, ea, eb, h1, q⟩ => by
  subst ea eb
  obtain rfl := s.pop.str
  obtain ⟨F', p, vs, h⟩ := Sv.items s (its_strs ys)
  rcases h with ⟨_, _, s', ev, hs, _, hi, _⟩ | ⟨_, h2, _⟩
  · subst ev
    rw [if_pos (show (O.ls (ys.map O.s)).isL = true from rfl), itv_strs hi] at hs
    exact ⟨d, p, ys, rfl, rfl, .inl (by rw [hK]; exact hs), h1, q F H _ (s.pop.pop.pushIm rfl)⟩
  · cases h2
theorem se_join {apos : Pos} (hK : X.K = c.G.K) (ha : SE X c W a pa) (hb : SE X c W b pb) (hs : starEach [b] X.env = [(false, eval b X.env)] := by rfl) (hbase : attributeBase a "join" X.env (eval a X.env) = eval a X.env := by rfl) (hline : (apos.endLine == pos.line) = true := by rfl) :
    SE X c W (.Call (.Attribute a "join" apos) [b] [] pos) (wStrM pa pb uJoin) := PE.imp (pe_join ha hb hs hbase hline) (lift_sm (fit_join hK))
/-- f"{a}m{b}" of whole numbers -/
def wF3 (p r : W1 O) (m : Str) : W1 O := ⟨fun S Q E => p.run S (fun x => ∃ i : Int, x = O.i i ∧ i.natAbs.log2 < 1920 ∧ (toString i : Str).length + m.length ≤ sizeLine ∧ r.run S (fun y => ∃ j : Int, y = O.i j ∧ j.natAbs.log2 < 1920 ∧ (toString i : Str).length + m.length + (toString j : Str).length ≤ sizeLine ∧ Q (O.s (toString i ++ m ++ toString j))) E) E,
  fun hq he h => p.mono (fun x ⟨i, e1, h1, h2, h⟩ => ⟨i, e1, h1, h2, r.mono (fun y ⟨j, e2, h3, h4, q⟩ => ⟨j, e2, h3, h4, hq _ q⟩) he h⟩) he h⟩
theorem empty_app (x : Str) : Str.empty ++ x = x := TL.ext_tl (by rw [TL.tl_append]; rfl)
theorem len_app (x y : Str) : (x ++ y).length = x.length + y.length := by rw [TL.len_tl, TL.tl_append, List.length_append, ← TL.len_tl, ← TL.len_tl]
theorem se_f3 {m : Str} {k : Nat} {p1 p2 p3 : Pos} (ha : SE X c W a pa) (hb : SE X c W b pb) : SE X c W (.JoinedStr [.FormattedValue a (-1) none p1, .Constant (.str m) k p2, .FormattedValue b (-1) none p3] pos) (wF3 pa pb m) := by
  refine PE.imp (pe_joined (.cons (pe_fmt ha) (.cons pe_str (.cons (pe_fmt hb) .nil)))) fun σ H Q ⟨F, S, Ts, ts, s, h⟩ => ?_
  refine ⟨F, S, Ts, ts, s, pa.mono (fun x ⟨i, ex, hi, hz, h⟩ F1 H1 v s1 => ?_) (fun _ z => z) h⟩
  subst ex
  refine .inr ⟨i, s1.int, hi, toString i, rfl, by rw [empty_app]; omega, m, rfl, by rw [empty_app, len_app]; exact hz, ?_⟩
  refine ⟨F1, S, _, _, s1, pb.mono (fun y ⟨j, ey, hj, hz2, q⟩ F2 H2 v2 s2 => ?_) (fun e z => exK.pop e z) h⟩
  subst ey
  refine .inr ⟨j, s2.int, hj, toString j, rfl, by rw [empty_app, len_app, len_app]; exact hz2, ?_⟩
  rw [empty_app]
  exact q F2 H2 _ (s2.pop.pop.pushIm rfl)
end
end PL

/-! D59 -/
set_option Elab.async false
set_option linter.all false
set_option maxRecDepth 100000
set_option maxHeartbeats 4000000
/-! D59: texts of numbers: figures, whole, fractions; what a text tells (namespace TX). -/
namespace PL.TX
open PySem PySem.Spec L2 TL
abbrev figs : Str := "0123456789"
theorem figs_mem (c : Nat) : c ∈ figs.cps.toList ↔ 48 ≤ c ∧ c ≤ 57 := by
  have e : figs.cps.toList = [48, 49, 50, 51, 52, 53, 54, 55, 56, 57] := by decide +kernel
  rw [e]
  simp only [List.mem_cons, List.not_mem_nil, or_false]
  omega
def figOk (z : Str) : Bool := decide (1 ≤ z.length ∧ z.length ≤ 60 ∧ ¬ ((tl z).head? = some 48 ∧ 1 < z.length)) && (tl z).all fun c => decide (c ∈ figs.cps.toList)
def figV (z : Str) : Option Nat := if figOk z = true then some (NumText.digitsVal (tl z)) else none
theorem fig_int {z : Str} (h : figOk z = true) : PySem.intText? z = some ((NumText.digitsVal (tl z) : Nat) : Int) := by
  unfold figOk at h
  rw [Bool.and_eq_true] at h
  obtain ⟨h1, h2, -⟩ := of_decide_eq_true h.1
  refine PySem.intText_digits (fun c hc => ?_) (fun e => ?_) (by omega)
  · exact (figs_mem c).mp (of_decide_eq_true (List.all_eq_true.mp h.2 c hc))
  · rw [len_tl, show tl z = [] from e] at h1
    exact absurd h1 (by decide)
theorem digs_lt : ∀ (l : List Nat) (a k : Nat), NumText.AllDigits l → a < 10 ^ k → l.foldl (fun acc c => acc * 10 + (c - 48)) a < 10 ^ (k + l.length)
  | [], a, k, _, h => h
  | c :: l, a, k, hd, h => by
    have hc := hd.head
    have := digs_lt l (a * 10 + (c - 48)) (k + 1) hd.tail (by rw [Nat.pow_succ]; omega)
    rw [List.length_cons, show k + (l.length + 1) = k + 1 + l.length by omega]
    exact this
theorem fig_lt {z : Str} {n : Nat} (h : figV z = some n) : n < 10 ^ 60 := by
  unfold figV at h
  split at h
  · rename_i hk
    cases h
    unfold figOk at hk
    rw [Bool.and_eq_true] at hk
    obtain ⟨h1, h2, -⟩ := of_decide_eq_true hk.1
    have := digs_lt (tl z) 0 0 (fun c hc => (figs_mem c).mp (of_decide_eq_true (List.all_eq_true.mp hk.2 c hc))) (by decide)
    rw [Nat.zero_add, ← len_tl] at this
    exact Nat.lt_of_lt_of_le this (Nat.pow_le_pow_right (by decide) h2)
  · cases h
/-- a text with a stroke within tells no figures -/
theorem fig_free {z : Str} {s : Nat} (hs : ¬ (48 ≤ s ∧ s ≤ 57)) (h : s ∈ tl z) : figV z = none := by
  unfold figV
  rw [if_neg]
  intro hk
  unfold figOk at hk
  rw [Bool.and_eq_true] at hk
  exact hs ((figs_mem s).mp (of_decide_eq_true (List.all_eq_true.mp hk.2 s h)))
def wholeV (z : Str) : Option Int := if cutS z none (some 1) ≠ "-" then (figV z).map (fun n : Nat => (n : Int)) else match figV (cutS z (some 1) none) with
  | none => none
  | some n => if n = 0 then none else some (-(n : Int))
def rfV (z : Str) : Option (Int × Int) := if (Txt.partition z "/").2.1 = "" then (wholeV (Txt.partition z "/").1).map (fun n : Int => (n, (1 : Int))) else match wholeV (Txt.partition z "/").1, figV (Txt.partition z "/").2.2 with
  | some n, some m => if (m : Int) < 2 ∨ numF (.tup [.int n, .int m]) = false then none else some (n, m)
  | _, _ => none
def readV (N : FK) (d : D) : Option D := match N, d with
  | .fr, .str z => (rfV z).map fun p => .tup [.int p.1, .int p.2]
  | .rs P, .str z => match figV z with
    | some n => if (n : Int) < P.p then some (.int n) else none
    | none => none
  | _, _ => none
/-- a loop that ends otherwise where one is not -/
theorem forI_allX {α : Type} {l : List α} {v : α → O} {g : WG} {p : WS} {S : List (Option O)} {D : PEnds} (b : α → Bool) (I : List (Option O) → Prop) (R : O → Prop) (X : Ex → Prop) (h0 : I S) (hs : ∀ a S, a ∈ l → I S → g.run (v a) S (fun S' => p.run S' ⟨fun S2 => b a = true ∧ I S2, fun o => b a = false ∧ R o, fun _ => False, fun S2 => b a = true ∧ I S2, fun _ e => b a = false ∧ X e⟩))
    (hn : ∀ S, l.all b = true → I S → D.nx S) (hr : l.all b = false → ∀ o, R o → D.rt o) (hx : l.all b = false → ∀ S e, X e → D.ex S e) : forI (l.map v) g p S D := by
  refine ⟨fun i S => (l.take i).all b = true ∧ I S, ⟨by simp, h0⟩, fun i o S ho ⟨hi, hI⟩ => ?_, fun S ⟨h, hI⟩ => hn S (by simpa using h) hI⟩
  obtain ⟨a, ha, rfl⟩ : ∃ a, l[i]? = some a ∧ o = v a := by
    rw [List.getElem?_map] at ho
    cases e : l[i]? with
    | none => rw [e] at ho; cases ho
    | some a => rw [e] at ho; cases ho; exact ⟨a, rfl, rfl⟩
  have nx : ∀ {S2}, b a = true ∧ I S2 → (l.take (i + 1)).all b = true ∧ I S2 := fun ⟨h, z⟩ => ⟨by
    rw [List.take_succ, ha, List.all_append, hi]
    simp [h], z⟩
  have no : b a = false → l.all b = false := fun z => by
    cases q : l.all b with
    | false => rfl
    | true => exact absurd (List.all_eq_true.mp q a (List.mem_of_getElem? ha)) (by rw [z]; decide)
  exact g.mono (fun S' z => p.le z ⟨fun _ z => nx z, fun o (z : b a = false ∧ R o) => hr (no z.1) o z.2, fun _ (z : False) => z.elim, fun _ z => nx z, fun S e (z : b a = false ∧ X e) => hx (no z.1) S e z.2⟩) (hs a S (List.mem_of_getElem? ha) hI)
end PL.TX

/-! D60 -/
set_option Elab.async false
set_option linter.all false
set_option maxRecDepth 100000
set_option maxHeartbeats 4000000
/-! D60: the program's reading of texts walked (namespace TX). -/
namespace PL.TX
open PySem PySem.Spec L2 TL
local macro_rules | `(tactic| walk_at "pl") => `(tactic| simp (config := { maxSteps := 1000000 }) only [sSeq, sIf, sRet, sRetV, sRetN, sAsg, sPar, sPar3, sAug, sNext, sExpr, sBreak, sCont, W1.pure, wV, wC, w1, w2, wT, wAnd, wOr, wNot, wAndV, wOrV, wNotV, wIf, wCons, wNil, wA, wL, wTp, wCall, uA1, uA2, uI, uIB, uIU, uEq_int, uEq_str, uEq_bl, uIsi, uLen, uInt, uIx, uCat, uLst, wSl, wItA, wR1, wR2, wZip, wEnum, wRev, wON, wOS, gF, gN, bodyK, startS,   nb_im, nb_ls, nb_tp, nb_bo, vw_im, vw_ls, vw_tp, er_im, er_bo, er_ls, er_tp, erL_nil, erL_cons, its_iml, its_imt, its_scr, its_bol, its_bot, its_ls, its_tp, trk_iml, trk_imt, trk_bot, trk_tp, isL_imt, isL_bot, isL_tp,  trk_bol, trk_ls, isL_iml, isL_scr, isL_bol, isL_ls, fz_im, fz_bo, fz_ls, fz_tp, ty_int, ty_bl, ty_str, ty_non, ty_tup, ty_lst, len_lst, len_tup, len_scr, all_nil, all_cons, Bool.and_self, true_or,   List.map_cons, List.map_nil, List.cons_append, List.nil_append, List.append_nil, List.length_cons, List.length_nil, List.replicate, List.getElem?_cons_zero, List.getElem?_cons_succ, List.set_cons_zero, List.set_cons_succ, List.set_nil, Option.some.injEq, exists_eq_left', exists_eq_left, exists_eq_right, exists_eq', exists_and_left, exists_and_right, and_true, true_and, and_assoc, O.im.injEq, D.int.injEq, D.bl.injEq, D.tup.injEq, D.lst.injEq, D.kd.injEq, D.scr.injEq, D.str.injEq, Ctr.fn, Ctr.rel, sFor_run, wLC_run, all_mem_nil, sRaise, uPrime, wMeth, wMeth1, sStore, sAppend, sExtend, k_fr, k_rs, wMkR, uIsX, uIsXT, sTry, sExpr, tidy_im, flat_int, flat_bl, flat_tup, flat_non, flat_str, flat_kd, flatL_nil, flatL_cons, isPo_b, Ctr.ex, Ctr.on, isFr_fr, isFr_rs, isRs_fr, isRs_rs, sigma_ex, D.kd.injEq, Kd.b.injEq, BK.rs.injEq, reduceCtorEq, false_and, and_false, exists_false, false_implies, true_implies, forall_const, List.mem_cons, List.not_mem_nil, or_false, isT_exn, isT_non, xT_x, xT_ve, xT_fe, n_kind, n_number, n_fit, n_turn, n_inverse, n_text, n_name, n_row, okS_exn, okS_non, decide_true, decide_false, eq_self, wCh, gLt, gLe, gGt, gGe, uEq_enc, mkT_1, mkT_2, mkT_3, mkT_4, mkBo_enc, mkBo_int, mkBo_bl, mkBo_str, mkBo_non, mkBo_kd, mkBo_lst, flat_enc, O.ls.injEq, mkBo_fr, false_or, isT_kd, okS_kd, flat_dic, kT_1, kT_2, kT_3, kT_4, kT_5, kT_6, er_vecO, er_tabO, nb_vecO, nb_tabO, tidy_vecO, tidy_tabO, its_im_vec, its_bo_vec, its_im_tab, its_bo_tab, len_vec, len_tab, isTrk_vec, isTrk_tab, isL_vec, isL_tab, isTrk_bvec, isTrk_btab, isL_bvec, isL_btab, vw_vecO, vw_tabO, fz_im', ty_vec, ty_tab, intL_rng, rng_len, rng_map, erL_rng, zipT_rng, Nat.min_self, all_rng_im, Int.toNat_natCast, gT, gspNames, gsC, gsN, parts_imt, parts_tp, xV, xC, xAdd, xSub, sForApp, sFz, sSt2, forall_eq_or_imp, List.length_range, implies_true, sRetMv, er_im, er_ls, uInSg, uIxS, uIntS, uStr, wSlS, wItS, wStrM, uPart, uSplit, uJoin, uAddS, wF3,   tidy_i, tidy_t, tidy_n, tidy_kd, or_true, Bool.and_true,  mkL_nb, all_map_i, all_map_im, cutA_map, cutA_63, take_map', drop_map',  its_lsi, erL_append, erL_mapi, map_im_int, List.map_append, List.all_append, List.length_map, List.length_append,  unr_cons, unr_nil, whole_int, Option.isSome_some,  all_mem_cons, atI_0, atI_1, atI_2, atI_3, atI_4, isB_int_int, isB_int_bool, isB_int_str, isB_int_tuple, isB_int_list, isB_bool_int, isB_bool_bool, isB_bool_str, isB_bool_tuple, isB_bool_list, isB_str_int, isB_str_bool, isB_str_str, isB_str_tuple, isB_str_list, isB_tuple_int, isB_tuple_bool, isB_tuple_str, isB_tuple_tuple, isB_tuple_list, isB_list_int, ty_dic, isB_dict_int, isB_dict_bool, isB_dict_str, isB_dict_tuple, isB_dict_list, mkL_0, isB_list_bool, isB_list_str, isB_list_tuple, isB_list_list, isB_NoneType_int, isB_NoneType_bool, isB_NoneType_str, isB_NoneType_tuple, isB_NoneType_list, Prod.exists, Prod.forall, forall_exists_index, and_imp, forall_eq, forall_eq', Bool.false_xor, Bool.true_xor, List.cons.injEq, Nat.reduceAdd, Nat.reduceSub, Nat.reduceLT, Nat.lt_add_one, Nat.zero_lt_succ, Nat.zero_add,   Bool.not_eq_true', Bool.not_eq_false', Bool.not_true, Bool.not_false, decide_eq_false_iff_not, decide_eq_true_eq, if_true, if_false, Bool.false_eq_true, Bool.true_eq_false, reduceIte])
local macro_rules | `(tactic| walk_at "ds") => `(tactic| repeat refine And.intro (by first | with_reducible rfl | decide | exact mulok_r (by decide) | exact mulok_l (by decide) | exact szL (by decide)) ?_)
abbrev UX : List Xn := [.text]
abbrev UK : List Nat := [0, 1]
def TxOk (z : Str) : Prop := z.length ≤ 1000
def R_figures : Ctr := Ctr.ex (fun z : Str => [.str z]) (fun z => TxOk z) (fun z => if figV z = none then some .text else none) (fun z => O.i ((figV z).getD 0 : Nat))
def R_whole : Ctr := Ctr.ex (fun z : Str => [.str z]) (fun z => TxOk z) (fun z => if wholeV z = none then some .text else none) (fun z => O.i ((wholeV z).getD 0))
def R_read_fraction : Ctr := Ctr.ex (fun z : Str => [.kd (.b .fr), .str z]) (fun z => TxOk z) (fun z => if rfV z = none then some .text else none) (fun z => .im (.tup [.int ((rfV z).getD (0, 0)).1, .int ((rfV z).getD (0, 0)).2]))
def R_read_number : Ctr := Ctr.ex (fun a : FK × D => [.kd (.b a.1.k), a.2]) (fun a => a.2.ty.isSome = true ∧ ∀ z, a.2 = .str z → TxOk z) (fun a => if readV a.1 a.2 = none then some .text else none) (fun a => .im ((readV a.1 a.2).getD .non))
noncomputable def wb_figures_1 : WS :=
  sIf (wT (w2 (wV 1) (wC (.str "0123456789")) (uInSg true)))
  (sRaise .text)
  (sNext)

noncomputable def w_figures : WS :=
  sSeq (sIf (wOr (wNot (wT (wCh (wC (.int 1)) (wA (wCons (wV 0) (wNil)) (uA1 uLen)) (wC (.int 60)) gLe gLe))) (wAnd (wT (w2 (w2 (wV 0) (wC (.int 0)) uIxS) (wC (.str "0")) (uEq false))) (wT (w2 (wA (wCons (wV 0) (wNil)) (uA1 uLen)) (wC (.int 1)) uGt))))
  (sRaise .text)
  (sNext))
  (sSeq (sFor (wItS (wV 0)) (gF 1) wb_figures_1)
  (sRet (wA (wCons (wV 0) (wNil)) (uA1 uIntS))))

abbrev N_figures : List Str := ["text", "sign"]

noncomputable def w_whole : WS :=
  sSeq (sIf (wT (w2 (wSlS (wV 0) (wON) (wOS (wC (.int 1)))) (wC (.str "-")) (uEq true)))
  (sRet (wCall (wCons (wV 0) (wNil)) R_figures))
  (sNext))
  (sSeq (sAsg (wCall (wCons (wSlS (wV 0) (wOS (wC (.int 1))) (wON)) (wNil)) R_figures) (gF 1))
  (sSeq (sIf (wT (w2 (wV 1) (wC (.int 0)) (uEq false)))
  (sRaise .text)
  (sNext))
  (sRet (w1 (wV 1) uNeg))))

abbrev N_whole : List Str := ["text", "number"]

noncomputable def w_read_fraction : WS :=
  sSeq (sAsg (wStrM (wV 1) (wC (.str "/")) uPart) (gT 3 (gsC (gF 2) (gsC (gF 3) (gsC (gF 4) (gsN))))))
  (sSeq (sIf (wT (w2 (wV 3) (wC (.str "")) (uEq false)))
  (sRet (wTp (wCons (wCall (wCons (wV 2) (wNil)) R_whole) (wCons (wC (.int 1)) (wNil)))))
  (sNext))
  (sSeq (sAsg (wTp (wCons (wCall (wCons (wV 2) (wNil)) R_whole) (wCons (wCall (wCons (wV 4) (wNil)) R_figures) (wNil)))) (gF 5))
  (sSeq (sIf (wOr (wT (w2 (w2 (wV 5) (wC (.int 1)) uIx) (wC (.int 2)) uLt)) (wNot (wT (wMeth false (wV 0) (wCons (wV 5) (wNil)) R_is_number []))))
  (sRaise .text)
  (sNext))
  (sRetV 5))))

abbrev N_read_fraction : List Str := ["kind", "text", "top", "stroke", "bottom", "number"]

noncomputable def w_read_number : WS :=
  sSeq (sIf (wNot (wT (wA (wCons (wV 1) (wCons (wC (.obj (.ty "str"))) wNil)) (uA2 (uIsi "str")))))
  (sRaise .text)
  (sNext))
  (sSeq (sIf (wT (w1 (wV 0) (uIsX .cf UX UK)))
  (sRet (wCall (wCons (wV 0) (wCons (wV 1) (wNil))) R_read_fraction))
  (sNext))
  (sSeq (sAsg (wCall (wCons (wV 1) (wNil)) R_figures) (gF 2))
  (sSeq (sIf (wNot (wT (wMeth false (wV 0) (wCons (wV 2) (wNil)) R_is_number [])))
  (sRaise .text)
  (sNext))
  (sRetV 2))))

abbrev N_read_number : List Str := ["kind", "text", "number"]

theorem tx_sz {z : Str} (h : TxOk z) : z.length ≤ sizeLine := Nat.le_trans h (by decide)
theorem ex_q {β : Type} {o : Option β} {x : Ex} {v : O} {Q : O → Prop} {E : Ex → Prop} (q : match (if o = none then some x else none : Option Ex) with
  | some e => E e
  | none => Q v) : (o = none → E x) ∧ (∀ n, o = some n → Q v) := by
  cases o with
  | none => exact ⟨fun _ => q, fun n h => nomatch h⟩
  | some n => exact ⟨fun h => (nomatch h), fun _ _ => q⟩
theorem sg_inj {a b : Nat} : sg a = sg b ↔ a = b := ⟨fun h => by
  have := congrArg (fun s : Str => s.cps.toList) h
  simpa using this, fun h => by rw [h]⟩
theorem sg_0 : (Str.ofString "0") = sg 48 := by decide +kernel
theorem sg_m : (Str.ofString "-") = sg 45 := by decide +kernel
theorem sg_s : (Str.ofString "/") = sg 47 := by decide +kernel
theorem fig_none {z : Str} (h : figOk z ≠ true) : figV z = none := if_neg h
theorem fig_some {z : Str} (h : figOk z = true) : figV z = some (NumText.digitsVal (tl z)) := if_pos h
theorem p_figures : Keeps N_figures w_figures R_figures := by
  rintro ds Q E ⟨z, rfl, hz, q⟩
  obtain ⟨qe, q⟩ := ex_q q
  have q : ∀ n, figV z = some n → Q (O.i (n : Nat)) := fun n h => by
    have := q n h
    simp only [h, Option.getD_some] at this
    exact this
  unfold w_figures
  walk_at "pl"
  have hl := tx_sz hz
  refine ⟨z.length, if_pos hl, ?_⟩
  have bad : figOk z ≠ true → E .text := fun h => qe (fig_none h)
  by_cases h1 : 1 ≤ z.length ∧ z.length ≤ 60
  · rw [if_pos (by omega), if_neg (by omega)]
    obtain ⟨c, r, ec⟩ : ∃ c r, z.cps.toList = c :: r := by
      cases e : z.cps.toList with
      | nil => rw [len_tl, show tl z = [] from e] at h1; exact absurd h1.1 (by decide)
      | cons c r => exact ⟨c, r, rfl⟩
    have ok : figOk z = (decide (¬ (c = 48 ∧ 1 < z.length)) && (tl z).all fun c => decide (c ∈ figs.cps.toList)) := by
      unfold figOk
      congr 1
      refine decide_eq_decide.mpr ?_
      rw [show tl z = c :: r from ec]
      simp only [List.head?_cons, Option.some.injEq]
      omega
    have loop : ¬ (c = 48 ∧ 1 < z.length) → forI (List.map (fun d => O.s (sg d)) z.cps.toList) (gF 1) wb_figures_1 [some (O.im (D.str z)), none] { nx := fun S' => ∃ o, S'[0]? = some (some o) ∧ ∃ z, o.vw = O.s z ∧ ∃ x, intText? z = some x ∧ z.length ≤ 640 ∧ Q (O.i x), rt := fun o => o.nb = true ∧ Q o, ex := fun x e => E e } := fun hc => by
      rw [decide_eq_true hc, Bool.true_and] at ok
      refine forI_allX (fun c => decide (c ∈ figs.cps.toList)) (fun S => ∃ s1, S = [some (O.im (D.str z)), s1]) (fun _ => False) (fun e => e = .text) ⟨_, rfl⟩ (fun a S ha => ?_) (fun S h => ?_) (fun _ _ h => h.elim) (fun h S e he => ?_)
      · rintro ⟨s1, rfl⟩
        unfold wb_figures_1
        walk_at "pl"
        refine ⟨a, rfl, ?_⟩
        by_cases hf : a ∈ figs.cps.toList
        · exact ite_no (fun h => h hf) hf
        · exact ite_yes hf hf
      · rintro ⟨s1, rfl⟩
        have hk : figOk z = true := ok.trans h
        exact ⟨_, rfl, z, rfl, _, fig_int hk, by omega, q _ (fig_some hk)⟩
      · rw [he]
        exact bad (by rw [ok, show ((tl z).all fun c => decide (c ∈ figs.cps.toList)) = false from h]; decide)
    refine ⟨hl, c, by rw [ec]; rfl, ?_⟩
    rw [sg_0]
    by_cases h0 : c = 48
    · rw [if_pos (sg_inj.mpr h0)]
      refine ⟨z.length, if_pos hl, ?_⟩
      by_cases hb : 1 < z.length
      · rw [if_pos (by omega)]
        refine bad ?_
        rw [ok, decide_eq_false (fun h => h ⟨h0, hb⟩)]
        simp
      · rw [if_neg (by omega)]
        exact ⟨hl, loop fun h => hb h.2⟩
    · rw [if_neg (fun h => h0 (sg_inj.mp h))]
      exact ⟨hl, loop fun h => h0 h.1⟩
  · have : E .text := bad fun h => by
      unfold figOk at h
      rw [Bool.and_eq_true] at h
      have := of_decide_eq_true h.1
      exact h1 ⟨this.1, this.2.1⟩
    split
    · rw [if_pos (by omega)]
      exact this
    · exact this
theorem figures_ok {z : Str} (hz : TxOk z) {Q : O → Prop} {E : Ex → Prop} (q : ∀ n, figV z = some n → Q (O.i (n : Nat))) (e : figV z = none → E .text) : R_figures.run [.str z] Q E := by
  cases h : figV z with
  | none => exact Ctr.ex_bad z rfl hz (if_pos h) (e h)
  | some n => exact Ctr.ex_ok z rfl hz (if_neg (by rw [h]; exact fun x => nomatch x)) (by rw [h]; exact q n h)
theorem whole_ok {z : Str} (hz : TxOk z) {Q : O → Prop} {E : Ex → Prop} (q : ∀ n, wholeV z = some n → Q (O.i n)) (e : wholeV z = none → E .text) : R_whole.run [.str z] Q E := by
  cases h : wholeV z with
  | none => exact Ctr.ex_bad z rfl hz (if_pos h) (e h)
  | some n => exact Ctr.ex_ok z rfl hz (if_neg (by rw [h]; exact fun x => nomatch x)) (by rw [h]; exact q n h)
theorem rf_ok {z : Str} (hz : TxOk z) {Q : O → Prop} {E : Ex → Prop} (q : ∀ n m, rfV z = some (n, m) → Q (.im (.tup [.int n, .int m]))) (e : rfV z = none → E .text) : R_read_fraction.run [.kd (.b .fr), .str z] Q E := by
  cases h : rfV z with
  | none => exact Ctr.ex_bad z rfl hz (if_pos h) (e h)
  | some p => exact Ctr.ex_ok z rfl hz (if_neg (by rw [h]; exact fun x => nomatch x)) (by rw [h]; exact q _ _ h)
theorem cut_ok {z : Str} {lo hi : Option Int} (hz : TxOk z) : TxOk (cutS z lo hi) := Nat.le_trans (cutS_length z lo hi) hz
theorem p_whole : Keeps N_whole w_whole R_whole := by
  rintro ds Q E ⟨z, rfl, hz, q⟩
  obtain ⟨qe, q⟩ := ex_q q
  have q : ∀ n, wholeV z = some n → Q (O.i n) := fun n h => by
    have := q n h
    simp only [h, Option.getD_some] at this
    exact this
  unfold wholeV at q qe
  unfold w_whole
  walk_at "pl"
  refine ⟨tx_sz hz, ?_⟩
  by_cases h : cutS z none (some 1) ≠ "-"
  · rw [if_pos h] at q qe ⊢
    exact figures_ok hz (fun n hn => ⟨rfl, q _ (by rw [hn]; rfl)⟩) (fun hn => qe (by rw [hn]; rfl))
  · rw [if_neg h] at q qe ⊢
    refine ⟨tx_sz hz, figures_ok (cut_ok hz) (fun n hn => ⟨rfl, ?_⟩) (fun hn => qe (by rw [hn]))⟩
    rw [hn] at q qe
    simp only at q qe
    refine ⟨_, rfl, ?_⟩
    by_cases h0 : n = 0
    · subst h0
      rw [if_pos rfl] at qe
      exact ite_yes (by decide) (qe rfl)
    · rw [if_neg h0] at q
      refine ite_no (by simpa using h0) ⟨_, rfl, q _ rfl⟩
theorem empty_s : (Str.ofString "") = Str.empty := by decide +kernel
theorem part_cases (z : Str) : (47 ∉ tl z ∧ Txt.partition z "/" = (z, Str.empty, Str.empty)) ∨ ∃ a b : Str, z = a ++ "/" ++ b ∧ 47 ∉ tl a ∧ Txt.partition z "/" = (a, ("/" : Str), b) := by
  have ey : tl (Str.ofString "/") = [47] := by decide +kernel
  by_cases h : 47 ∈ tl z
  · obtain ⟨p, r, e, hp⟩ := List.eq_append_cons_of_mem h
    have ez : z = ⟨p.toArray⟩ ++ "/" ++ ⟨r.toArray⟩ := ext_tl (by rw [tl_append, tl_append, ey, e]; simp [tl])
    refine .inr ⟨⟨p.toArray⟩, ⟨r.toArray⟩, ez, hp, ?_⟩
    rw [ez]
    exact partition_app ey hp
  · exact .inl ⟨h, partition_none ey h⟩
theorem app_ok {a m b : Str} (h : TxOk (a ++ m ++ b)) : TxOk a ∧ TxOk b := by
  unfold TxOk at *
  rw [len_app, len_app] at h
  exact ⟨by omega, by omega⟩
theorem p_read_fraction : Keeps N_read_fraction w_read_fraction R_read_fraction := by
  rintro ds Q E ⟨z, rfl, hz, q⟩
  obtain ⟨qe, q⟩ := ex_q q
  have q : ∀ n m, rfV z = some (n, m) → Q (.im (.tup [.int n, .int m])) := fun n m h => by
    have := q _ h
    simp only [h, Option.getD_some] at this
    exact this
  unfold rfV at q qe
  unfold w_read_fraction R_is_number
  walk_at "pl"
  refine ⟨by decide +kernel, tx_sz hz, ?_⟩
  rcases part_cases z with ⟨_, e⟩ | ⟨a, b, ez, _, e⟩
  · rw [e] at q qe ⊢
    rw [if_pos (show Str.empty = Str.ofString "" from empty_s.symm)] at q qe ⊢
    exact whole_ok hz (fun n hn => ⟨by decide, rfl, q _ _ (by simp only; rw [hn]; rfl)⟩) (fun hn => qe (by simp only; rw [hn]; rfl))
  · subst ez
    obtain ⟨ha, hb⟩ := app_ok hz
    rw [e] at q qe ⊢
    have hne : ¬ (Str.ofString "/" = Str.ofString "") := by decide +kernel
    rw [if_neg hne] at q qe ⊢
    simp only at q qe ⊢
    refine whole_ok ha (fun n hn => ?_) (fun hn => qe (by rw [hn]))
    refine figures_ok hb (fun m hm => ?_) (fun hm => qe (by rw [hn, hm]))
    rw [hn, hm] at q qe
    simp only at q qe
    refine ⟨by decide, rfl, _, _, rfl, rfl, _, rfl, ?_⟩
    by_cases h2 : (m : Int) < 2
    · rw [if_pos (Or.inl h2)] at qe
      exact ite_yes h2 (qe rfl)
    · refine ite_no h2 ⟨.fr, rfl, ⟨rfl, fun x y h => ?_⟩, ?_⟩
      · have h : D.tup [.int n, .int m] = .tup [x, y] := h
        simp only [D.tup.injEq, List.cons.injEq, and_true] at h
        rw [← h.1, ← h.2]
        exact ⟨rfl, rfl⟩
      · by_cases h3 : numF (.tup [.int n, .int m]) = false
        · rw [if_pos (Or.inr h3)] at qe
          exact ite_yes h3 (qe rfl)
        · rw [if_neg (fun h => h.elim h2 h3)] at q
          exact ite_no h3 (q _ _ rfl)
theorem p_read_number : Keeps N_read_number w_read_number R_read_number := by
  rintro ds Q E ⟨⟨N, d⟩, rfl, ⟨hd, hz⟩, q⟩
  simp only at hd hz
  obtain ⟨qe, q⟩ := ex_q q
  simp only at q qe
  unfold w_read_number R_is_number
  by_cases hs : ∃ z, d = .str z
  · obtain ⟨z, rfl⟩ := hs
    have hz := hz z rfl
    cases N with
    | fr =>
      walk_at "pl"
      have e1 : readV .fr (.str z) = (rfV z).map fun p => .tup [.int p.1, .int p.2] := rfl
      rw [e1] at q qe
      refine rf_ok hz (fun n m h => ⟨rfl, ?_⟩) (fun h => qe (by rw [h]; rfl))
      rw [h] at q
      exact q _ rfl
    | rs P =>
      walk_at "pl"
      have e1 : readV (.rs P) (.str z) = (match figV z with
        | some n => if (n : Int) < P.p then some (.int n) else none
        | none => none) := rfl
      rw [e1] at q qe
      refine figures_ok hz (fun n h => ⟨rfl, .rs P, rfl, ⟨rfl, fun _ _ h => nomatch h⟩, ?_⟩) (fun h => qe (by rw [h]))
      rw [h] at q qe
      simp only at q qe
      have en : FK.isNum (.rs P) (.int (n : Int)) = decide (0 ≤ (n : Int) ∧ (n : Int) < P.p) := rfl
      show if FK.isNum (.rs P) (.int (n : Int)) = false then _ else _
      rw [en]
      by_cases hl : (n : Int) < P.p
      · rw [if_pos hl] at q
        rw [decide_eq_true ⟨by omega, hl⟩]
        exact ite_no (by decide) (q _ rfl)
      · rw [if_neg hl] at qe
        rw [decide_eq_false (fun h => hl h.2)]
        exact ite_yes rfl (qe rfl)
  · walk_at "pl"
    have e1 : readV N d = none := by
      cases d with
      | str z => exact absurd ⟨z, rfl⟩ hs
      | _ => cases N <;> rfl
    have : ∃ t, d.ty = some t ∧ isB t "str" = false := by
      cases d with
      | str z => exact absurd ⟨z, rfl⟩ hs
      | _ =>
        first
          | (cases hd; done)
          | exact ⟨_, rfl, by decide⟩
    obtain ⟨t, ht, hb⟩ := this
    exact ⟨t, ht, ite_yes hb (qe e1)⟩
theorem read_ok {N : FK} {d : D} (hd : d.ty.isSome = true) (hz : ∀ z, d = .str z → TxOk z) {Q : O → Prop} {E : Ex → Prop} (q : ∀ x, readV N d = some x → Q (.im x)) (e : readV N d = none → E .text) : R_read_number.run [.kd (.b N.k), d] Q E := by
  cases h : readV N d with
  | none => exact Ctr.ex_bad ⟨N, d⟩ rfl ⟨hd, hz⟩ (if_pos h) (e h)
  | some p => exact Ctr.ex_ok ⟨N, d⟩ rfl ⟨hd, hz⟩ (if_neg (by rw [h]; exact fun x => nomatch x)) (by simp only [h, Option.getD_some]; exact q _ h)
end PL.TX

/-! D61 -/
set_option Elab.async false
set_option linter.all false
set_option maxRecDepth 100000
set_option maxHeartbeats 4000000
/-! D61: what a text tells, as the law judges (K81). -/
namespace PL.K81
open PySem PySem.Spec L2 TL TX
local macro_rules | `(tactic| walk_at "pl") => `(tactic| simp (config := { maxSteps := 1000000 }) only [sSeq, sIf, sRet, sRetV, sRetN, sAsg, sPar, sPar3, sAug, sNext, sExpr, sBreak, sCont, W1.pure, wV, wC, w1, w2, wT, wAnd, wOr, wNot, wAndV, wOrV, wNotV, wIf, wCons, wNil, wA, wL, wTp, wCall, uA1, uA2, uI, uIB, uIU, uEq_int, uEq_str, uEq_bl, uIsi, uLen, uInt, uIx, uCat, uLst, wSl, wItA, wR1, wR2, wZip, wEnum, wRev, wON, wOS, gF, gN, bodyK, startS,   nb_im, nb_ls, nb_tp, nb_bo, vw_im, vw_ls, vw_tp, er_im, er_bo, er_ls, er_tp, erL_nil, erL_cons, its_iml, its_imt, its_scr, its_bol, its_bot, its_ls, its_tp, trk_iml, trk_imt, trk_bot, trk_tp, isL_imt, isL_bot, isL_tp,  trk_bol, trk_ls, isL_iml, isL_scr, isL_bol, isL_ls, fz_im, fz_bo, fz_ls, fz_tp, ty_int, ty_bl, ty_str, ty_non, ty_tup, ty_lst, len_lst, len_tup, len_scr, all_nil, all_cons, Bool.and_self, true_or,   List.map_cons, List.map_nil, List.cons_append, List.nil_append, List.append_nil, List.length_cons, List.length_nil, List.replicate, List.getElem?_cons_zero, List.getElem?_cons_succ, List.set_cons_zero, List.set_cons_succ, List.set_nil, Option.some.injEq, exists_eq_left', exists_eq_left, exists_eq_right, exists_eq', exists_and_left, exists_and_right, and_true, true_and, and_assoc, O.im.injEq, D.int.injEq, D.bl.injEq, D.tup.injEq, D.lst.injEq, D.kd.injEq, D.scr.injEq, D.str.injEq, Ctr.fn, Ctr.rel, sFor_run, wLC_run, all_mem_nil, sRaise, uPrime, wMeth, wMeth1, sStore, sAppend, sExtend, k_fr, k_rs, wMkR, uIsX, uIsXT, sTry, sExpr, tidy_im, flat_int, flat_bl, flat_tup, flat_non, flat_str, flat_kd, flatL_nil, flatL_cons, isPo_b, Ctr.ex, Ctr.on, isFr_fr, isFr_rs, isRs_fr, isRs_rs, sigma_ex, D.kd.injEq, Kd.b.injEq, BK.rs.injEq, reduceCtorEq, false_and, and_false, exists_false, false_implies, true_implies, forall_const, List.mem_cons, List.not_mem_nil, or_false, isT_exn, isT_non, xT_x, xT_ve, xT_fe, n_kind, n_number, n_fit, n_turn, n_inverse, n_text, n_name, n_row, okS_exn, okS_non, decide_true, decide_false, eq_self, wCh, gLt, gLe, gGt, gGe, uEq_enc, mkT_1, mkT_2, mkT_3, mkT_4, mkBo_enc, mkBo_int, mkBo_bl, mkBo_str, mkBo_non, mkBo_kd, mkBo_lst, flat_enc, O.ls.injEq, mkBo_fr, false_or, isT_kd, okS_kd, flat_dic, kT_1, kT_2, kT_3, kT_4, kT_5, kT_6, er_vecO, er_tabO, nb_vecO, nb_tabO, tidy_vecO, tidy_tabO, its_im_vec, its_bo_vec, its_im_tab, its_bo_tab, len_vec, len_tab, isTrk_vec, isTrk_tab, isL_vec, isL_tab, isTrk_bvec, isTrk_btab, isL_bvec, isL_btab, vw_vecO, vw_tabO, fz_im', ty_vec, ty_tab, intL_rng, rng_len, rng_map, erL_rng, zipT_rng, Nat.min_self, all_rng_im, Int.toNat_natCast, gT, gspNames, gsC, gsN, parts_imt, parts_tp, xV, xC, xAdd, xSub, sForApp, sFz, sSt2, forall_eq_or_imp, List.length_range, implies_true, sRetMv, er_im, er_ls, uInSg, uIxS, uIntS, uStr, wSlS, wItS, wStrM, uPart, uSplit, uJoin, uAddS, wF3,   tidy_i, tidy_t, tidy_n, tidy_kd, or_true, Bool.and_true,  mkL_nb, all_map_i, all_map_im, cutA_map, cutA_63, take_map', drop_map',  its_lsi, erL_append, erL_mapi, map_im_int, List.map_append, List.all_append, List.length_map, List.length_append,  unr_cons, unr_nil, whole_int, Option.isSome_some,  all_mem_cons, atI_0, atI_1, atI_2, atI_3, atI_4, isB_int_int, isB_int_bool, isB_int_str, isB_int_tuple, isB_int_list, isB_bool_int, isB_bool_bool, isB_bool_str, isB_bool_tuple, isB_bool_list, isB_str_int, isB_str_bool, isB_str_str, isB_str_tuple, isB_str_list, isB_tuple_int, isB_tuple_bool, isB_tuple_str, isB_tuple_tuple, isB_tuple_list, isB_list_int, ty_dic, isB_dict_int, isB_dict_bool, isB_dict_str, isB_dict_tuple, isB_dict_list, mkL_0, isB_list_bool, isB_list_str, isB_list_tuple, isB_list_list, isB_NoneType_int, isB_NoneType_bool, isB_NoneType_str, isB_NoneType_tuple, isB_NoneType_list, Prod.exists, Prod.forall, forall_exists_index, and_imp, forall_eq, forall_eq', Bool.false_xor, Bool.true_xor, List.cons.injEq, Nat.reduceAdd, Nat.reduceSub, Nat.reduceLT, Nat.lt_add_one, Nat.zero_lt_succ, Nat.zero_add,   Bool.not_eq_true', Bool.not_eq_false', Bool.not_true, Bool.not_false, decide_eq_false_iff_not, decide_eq_true_eq, if_true, if_false, Bool.false_eq_true, Bool.true_eq_false, reduceIte])
local macro_rules | `(tactic| walk_at "ds") => `(tactic| repeat refine And.intro (by first | with_reducible rfl | decide | exact mulok_r (by decide) | exact mulok_l (by decide) | exact szL (by decide)) ?_)
noncomputable abbrev R_law_prime : Ctr := C.R_law_prime
noncomputable abbrev w_law_prime : WS := C.w_law_prime
abbrev N_law_prime : List Str := C.N_law_prime
theorem p_law_prime : Keeps N_law_prime w_law_prime R_law_prime := C.p_law_prime
noncomputable abbrev R_figures : Ctr := TX.R_figures
noncomputable abbrev w_figures : WS := TX.w_figures
abbrev N_figures : List Str := TX.N_figures
theorem p_figures : Keeps N_figures w_figures R_figures := TX.p_figures
noncomputable abbrev R_whole : Ctr := TX.R_whole
noncomputable abbrev w_whole : WS := TX.w_whole
abbrev N_whole : List Str := TX.N_whole
theorem p_whole : Keeps N_whole w_whole R_whole := TX.p_whole
noncomputable abbrev R_read_fraction : Ctr := TX.R_read_fraction
noncomputable abbrev w_read_fraction : WS := TX.w_read_fraction
abbrev N_read_fraction : List Str := TX.N_read_fraction
theorem p_read_fraction : Keeps N_read_fraction w_read_fraction R_read_fraction := TX.p_read_fraction
noncomputable abbrev R_read_number : Ctr := TX.R_read_number
noncomputable abbrev w_read_number : WS := TX.w_read_number
abbrev N_read_number : List Str := TX.N_read_number
theorem p_read_number : Keeps N_read_number w_read_number R_read_number := TX.p_read_number
theorem units65 {k : Nat} {A : Around} (r : Room k A) : A.units + 65 < cLine := by have := r.un; omega
abbrev UX : List Xn := [.text]
abbrev UK : List Nat := [0, 1]
def encO : Option Nat → O
  | none => .im .non
  | some n => O.i (n : Int)
def encP : Option Nat → PyData
  | none => .none
  | some n => .int (n : Int)
def R_law_figures : Ctr := Ctr.fn (fun z : Str => [.str z]) (fun z => TxOk z) (fun z => encO (figV z))
def R_law_told : Ctr := Ctr.fn (fun a : FK × D => [.int a.1.code, a.2]) (fun a => a.2.ty.isSome = true ∧ ∀ z, a.2 = .str z → TxOk z) (fun a => .im ((readV a.1 a.2).getD .non))
noncomputable def wb_law_figures_1 : WS :=
  sIf (wT (w2 (wV 1) (wC (.str "0123456789")) (uInSg true)))
  (sRet (wC .non))
  (sNext)

noncomputable def w_law_figures : WS :=
  sSeq (sIf (wOr (wT (w2 (wV 0) (wC (.str "")) (uEq false))) (wOr (wT (w2 (wA (wCons (wV 0) (wNil)) (uA1 uLen)) (wC (.int 60)) uGt)) (wAnd (wT (w2 (wA (wCons (wV 0) (wNil)) (uA1 uLen)) (wC (.int 1)) uGt)) (wT (w2 (w2 (wV 0) (wC (.int 0)) uIxS) (wC (.str "0")) (uEq false))))))
  (sRet (wC .non))
  (sNext))
  (sSeq (sFor (wItS (wV 0)) (gF 1) wb_law_figures_1)
  (sRet (wA (wCons (wV 0) (wNil)) (uA1 uIntS))))

abbrev N_law_figures : List Str := ["_law_text", "_law_sign_here"]

noncomputable def we_law_told_1 : W1 O :=
  wCall (wCons (wV 6) (wNil)) R_law_figures

noncomputable def w_law_told : WS :=
  sSeq (sIf (wNot (wT (wA (wCons (wV 1) (wCons (wC (.obj (.ty "str"))) wNil)) (uA2 (uIsi "str")))))
  (sRet (wC .non))
  (sNext))
  (sSeq (sAsg (wV 1) (gF 2))
  (sSeq (sIf (wAnd (wT (w2 (wV 0) (wC (.int 0)) (uEq false))) (wT (w2 (wSlS (wV 1) (wON) (wOS (wC (.int 1)))) (wC (.str "-")) (uEq false))))
  (sAsg (wSlS (wV 1) (wOS (wC (.int 1))) (wON)) (gF 2))
  (sNext))
  (sSeq (sAsg (wL (wCons (wV 2) (wNil))) (gF 3))
  (sSeq (sIf (wT (w2 (wV 0) (wC (.int 0)) (uEq false)))
  (sAsg (wStrM (wV 2) (wC (.str "/")) uSplit) (gF 3))
  (sNext))
  (sSeq (sAsg (wLC (wItA (wV 3)) (gN 6) (wYes) (we_law_told_1) [6]) (gF 4))
  (sSeq (sIf (wOr (wT (w2 (wC .non) (wV 4) (uInL false))) (wT (w2 (wA (wCons (wV 4) (wNil)) (uA1 uLen)) (wC (.int 2)) uGt)))
  (sRet (wC .non))
  (sNext))
  (sSeq (sIf (wT (w2 (wV 0) (wC (.int 0)) uGt))
  (sSeq (sIf (wT (w2 (w2 (wV 4) (wC (.int 0)) uIx) (wV 0) uLt))
  (sRet (w2 (wV 4) (wC (.int 0)) uIx))
  (sNext))
  (sRet (wC .non)))
  (sNext))
  (sSeq (sIf (wOr (wAnd (wT (w2 (wV 2) (wV 1) (uEq true))) (wT (w2 (w2 (wV 4) (wC (.int 0)) uIx) (wC (.int 0)) (uEq false)))) (wAnd (wT (w2 (wA (wCons (wV 4) (wNil)) (uA1 uLen)) (wC (.int 2)) (uEq false))) (wT (w2 (w2 (wV 4) (wC (.int 1)) uIx) (wC (.int 2)) uLt))))
  (sRet (wC .non))
  (sNext))
  (sSeq (sAsg (wC (.int 1)) (gF 5))
  (sSeq (sIf (wT (w2 (wA (wCons (wV 4) (wNil)) (uA1 uLen)) (wC (.int 2)) (uEq false)))
  (sAsg (w2 (wV 4) (wC (.int 1)) uIx) (gF 5))
  (sNext))
  (sSeq (sIf (wT (w2 (wCall (wCons (w2 (wV 4) (wC (.int 0)) uIx) (wCons (wV 5) (wNil))) R_law_divisor) (wC (.int 1)) (uEq true)))
  (sRet (wC .non))
  (sNext))
  (sRet (wTp (wCons (w2 (w2 (wV 4) (wC (.int 0)) uIx) (w2 (wC (.int 1)) (w2 (wC (.int 2)) (wA (wCons (w2 (wV 2) (wV 1) (uEq true)) (wNil)) (uA1 uInt)) uMul) uSub) uMul) (wCons (wV 5) (wNil))))))))))))))))

abbrev N_law_told : List Str := ["_law_prime_here", "_law_text", "_law_body", "_law_halves", "_law_numbers", "_law_bottom", "_law_half"]

theorem lcI_map {α : Type} {l : List α} {v u : α → O} {g : WG} {e : W1 O} {S : List (Option O)} {Q : O → Prop} (H : ∀ a, a ∈ l → g.run (v a) S (fun S2 => e.run S2 (fun o => o.nb = true ∧ o = u a) (fun _ => False))) (q : Q (.ls (l.map u))) : lcI (l.map v) g wYes e S Q := by
  refine ⟨fun i acc => i ≤ l.length → acc = (l.take i).map u, fun _ => rfl, fun i o acc ho ha => ?_, fun acc ha => ?_⟩
  · obtain ⟨a, hx, rfl⟩ : ∃ a, l[i]? = some a ∧ o = v a := by
      rw [List.getElem?_map] at ho
      cases e : l[i]? with
      | none => rw [e] at ho; cases ho
      | some a => rw [e] at ho; cases ho; exact ⟨a, rfl, rfl⟩
    have hi : i < l.length := (List.getElem?_eq_some_iff.mp hx).1
    have ha' := ha (Nat.le_of_lt hi)
    subst ha'
    refine g.mono (fun S2 z => ?_) (H a (List.mem_of_getElem? hx))
    simp only [wYes, W1.pure, if_true]
    refine W1.le e z (fun v k => ⟨k.1, fun _ => ?_⟩) (fun _ z => z)
    rw [k.2, List.take_succ, hx, List.map_append]
    rfl
  · rw [List.length_map] at ha
    rw [ha (Nat.le_refl _), List.take_length]
    exact q
theorem p_law_figures : Keeps N_law_figures w_law_figures R_law_figures := by
  rintro ds Q E ⟨z, rfl, hz, q⟩
  have q : Q (encO (figV z)) := q
  unfold w_law_figures
  walk_at "pl"
  have hl := tx_sz hz
  have bad : figOk z ≠ true → Q (.im .non) := fun h => by rw [fig_none h] at q; exact q
  by_cases hne : z = Str.ofString ""
  · rw [if_pos hne]
    refine bad fun h => ?_
    unfold figOk at h
    rw [Bool.and_eq_true] at h
    have := (of_decide_eq_true h.1).1
    rw [hne, empty_s] at this
    exact absurd this (by decide)
  rw [if_neg hne]
  refine ⟨z.length, if_pos hl, ?_⟩
  have h1 : 1 ≤ z.length := by
    cases e : z.length with
    | zero => exact absurd (ext_tl (by
        have : tl z = [] := List.eq_nil_of_length_eq_zero (by rw [← len_tl]; exact e)
        rw [this, empty_s]; rfl)) hne
    | succ k => omega
  by_cases h6 : 60 < z.length
  · rw [if_pos (by omega)]
    refine bad fun h => ?_
    unfold figOk at h
    rw [Bool.and_eq_true] at h
    have := (of_decide_eq_true h.1).2.1
    omega
  rw [if_neg (by omega)]
  refine ⟨z.length, if_pos hl, ?_⟩
  obtain ⟨c, r, ec⟩ : ∃ c r, z.cps.toList = c :: r := by
    cases e : z.cps.toList with
    | nil => rw [len_tl, show tl z = [] from e] at h1; exact absurd h1 (by decide)
    | cons c r => exact ⟨c, r, rfl⟩
  have ok : figOk z = (decide (¬ (c = 48 ∧ 1 < z.length)) && (tl z).all fun c => decide (c ∈ figs.cps.toList)) := by
    unfold figOk
    congr 1
    refine decide_eq_decide.mpr ?_
    rw [show tl z = c :: r from ec]
    simp only [List.head?_cons, Option.some.injEq]
    omega
  have loop : ¬ (c = 48 ∧ 1 < z.length) → forI (List.map (fun d => O.s (sg d)) z.cps.toList) (gF 1) wb_law_figures_1 [some (O.im (D.str z)), none] { nx := fun S' => ∃ o, S'[0]? = some (some o) ∧ ∃ z, o.vw = O.s z ∧ ∃ x, intText? z = some x ∧ z.length ≤ 640 ∧ Q (O.i x), rt := fun o => o.nb = true ∧ Q o, ex := fun x e => E e } := fun hc => by
    rw [decide_eq_true hc, Bool.true_and] at ok
    refine forI_allX (fun c => decide (c ∈ figs.cps.toList)) (fun S => ∃ s1, S = [some (O.im (D.str z)), s1]) (fun o => o = .im .non) (fun _ => False) ⟨_, rfl⟩ (fun a S ha => ?_) (fun S h => ?_) (fun h o ho => ?_) (fun _ _ _ h => h.elim)
    · rintro ⟨s1, rfl⟩
      unfold wb_law_figures_1
      walk_at "pl"
      refine ⟨a, rfl, ?_⟩
      by_cases hf : a ∈ figs.cps.toList
      · exact ite_no (fun h => h hf) hf
      · exact ite_yes hf hf
    · rintro ⟨s1, rfl⟩
      have hk : figOk z = true := ok.trans h
      rw [fig_some hk] at q
      exact ⟨_, rfl, z, rfl, _, fig_int hk, by omega, q⟩
    · rw [ho]
      exact ⟨rfl, bad (by rw [ok, show ((tl z).all fun c => decide (c ∈ figs.cps.toList)) = false from h]; decide)⟩
  by_cases hb : 1 < z.length
  · rw [if_pos (by omega)]
    refine ⟨hl, c, by rw [ec]; rfl, ?_⟩
    rw [sg_0]
    by_cases h0 : c = 48
    · rw [if_pos (sg_inj.mpr h0)]
      refine bad ?_
      rw [ok, decide_eq_false (fun h => h ⟨h0, hb⟩)]
      simp
    · rw [if_neg (fun h => h0 (sg_inj.mp h))]
      exact ⟨hl, loop fun h => h0 h.1⟩
  · rw [if_neg (by omega)]
    exact ⟨hl, loop fun h => hb h.2⟩
theorem lfig_ok {z : Str} (hz : TxOk z) {Q : O → Prop} {E : Ex → Prop} (q : Q (encO (figV z))) : R_law_figures.run [.str z] Q E := ⟨z, rfl, hz, q⟩
/-! the parts -/
theorem ey : tl (Str.ofString "/") = [47] := by decide +kernel
theorem ek : (Str.ofString "/").cps.all (· < 256) = true := by decide +kernel
theorem split_none {a : Str} (h : 47 ∉ tl a) : Txt.split a "/" = [a] := by
  refine map_tl_inj ?_
  rw [split_spl a _ (by rw [ey]; simp) (TL.kind_ok ek), ey, spl_last1 h]
  rfl
theorem split_app {a b : Str} (h : 47 ∉ tl a) : Txt.split (a ++ "/" ++ b) "/" = a :: Txt.split b "/" := by
  refine map_tl_inj ?_
  rw [split_spl _ _ (by rw [ey]; simp) (TL.kind_ok ek), List.map_cons, split_spl b _ (by rw [ey]; simp) (TL.kind_ok ek), ey, tl_append, tl_append, ey, List.append_assoc, spl_part1 h]
  rfl
theorem split_ne (a : Str) : 1 ≤ (Txt.split a "/").length := by
  rcases part_cases a with ⟨h, _⟩ | ⟨p, b, e, h, _⟩
  · rw [split_none h]; simp
  · rw [e, split_app h]; simp
theorem split_len : ∀ (n : Nat) (a : Str), a.length ≤ n → (Txt.split a "/").length ≤ n + 1
  | n, a, hn => by
    rcases part_cases a with ⟨h, _⟩ | ⟨p, b, e, h, _⟩
    · rw [split_none h]; simp
    · subst e
      rw [split_app h, List.length_cons]
      have e1 : (Str.ofString "/").length = 1 := by decide +kernel
      rw [len_app, len_app, e1] at hn
      cases n with
      | zero => omega
      | succ n =>
        have := split_len n b (by omega)
        omega
theorem split_two {a : Str} (h : 47 ∈ tl a) : 2 ≤ (Txt.split a "/").length := by
  rcases part_cases a with ⟨h', _⟩ | ⟨p, b, e, h', _⟩
  · exact absurd h h'
  · rw [e, split_app h', List.length_cons]
    have := split_ne b
    omega
theorem split_tx {a : Str} (ha : TxOk a) : ∀ x ∈ Txt.split a "/", TxOk x := by
  have key : ∀ (n : Nat) (a : Str), a.length ≤ n → a.length ≤ 1000 → ∀ x ∈ Txt.split a "/", TxOk x := by
    intro n
    induction n with
    | zero =>
      intro a hn ha x hx
      rcases part_cases a with ⟨h, _⟩ | ⟨p, b, e, h, _⟩
      · rw [split_none h] at hx
        rw [List.mem_singleton.mp hx]; exact ha
      · subst e
        have e1 : (Str.ofString "/").length = 1 := by decide +kernel
        rw [len_app, len_app, e1] at hn
        omega
    | succ n ih =>
      intro a hn ha x hx
      rcases part_cases a with ⟨h, _⟩ | ⟨p, b, e, h, _⟩
      · rw [split_none h] at hx
        rw [List.mem_singleton.mp hx]; exact ha
      · subst e
        have e1 : (Str.ofString "/").length = 1 := by decide +kernel
        rw [len_app, len_app, e1] at hn ha
        rw [split_app h] at hx
        rcases List.mem_cons.mp hx with e | hx
        · rw [e]; show p.length ≤ 1000; omega
        · exact ih b (by omega) (by omega) x hx
  exact key a.length a (Nat.le_refl _) ha
/-! what is told -/
def encD : Option Nat → D
  | none => .non
  | some n => .int (n : Int)
def neg (z : Str) : Prop := cutS z none (some 1) = Str.ofString "-"
instance {z : Str} : Decidable (neg z) := inferInstanceAs (Decidable (_ = _))
def bodyV (N : FK) (z : Str) : Str := if N.code = 0 ∧ neg z then cutS z (some 1) none else z
def partsV (N : FK) (z : Str) : List Str := if N.code = 0 then Txt.split (bodyV N z) "/" else [bodyV N z]
theorem enc_er (ns : List (Option Nat)) : (O.ls (ns.map encO)).er = .lst (ns.map encD) := by
  show D.lst (O.erL _) = _
  rw [O.erL_map, List.map_map]
  congr 1
  refine List.map_congr_left fun x _ => ?_
  cases x <;> rfl
theorem enc_py : ∀ ns : List (Option Nat), D.pyL (ns.map encD) = some (ns.map encP)
  | [] => rfl
  | n :: ns => by
    have := enc_py ns
    cases n with
    | none => show (match D.py .non, D.pyL (ns.map encD) with | some x, some xs => some (x :: xs) | _, _ => none) = _; rw [this]; rfl
    | some n => show (match D.py (.int n), D.pyL (ns.map encD) with | some x, some xs => some (x :: xs) | _, _ => none) = _; rw [this]; rfl
theorem enc_can : ∀ ns : List (Option Nat), PyData.canLayAll0 (ns.map encP) = true
  | [] => rfl
  | n :: ns => by
    cases n <;> (show (_ && PyData.canLayAll0 (ns.map encP)) = true; rw [enc_can ns]; rfl)
theorem enc_dep : ∀ ns : List (Option Nat), PyData.depthAll (ns.map encP) = 0
  | [] => rfl
  | n :: ns => by
    have := enc_dep ns
    cases n <;> simp [encP, PyData.depthAll, PyData.depth, this]
theorem enc_shaped (ns : List (Option Nat)) : SeqAt.shaped (.list (ns.map encP)) = true := by
  show (PyData.canLay0 (.list (ns.map encP)) && decide (PyData.depth (.list (ns.map encP)) ≤ 64)) = true
  rw [show PyData.canLay0 (.list (ns.map encP)) = true from enc_can ns, show PyData.depth (.list (ns.map encP)) = 1 from by simp [PyData.depth, enc_dep]]
  rfl
theorem enc_any : ∀ ns : List (Option Nat), ((ns.map encP).any fun z => PyData.eqv z .none) = ns.any Option.isNone
  | [] => rfl
  | n :: ns => by
    rw [List.map_cons, List.any_cons, List.any_cons, enc_any ns]
    cases n <;> simp [encP, PyData.eqv]
theorem cut_to (z : Str) : tl (cutS z none (some 1)) = (tl z).take 1 := by
  unfold cutS
  show ((z.cps.toList.drop (HT.sIx z.length 0 none)).take (HT.sIx z.length z.length (some ((1 : Nat) : Int)) - HT.sIx z.length 0 none)) = _
  rw [HT.sIx_none, HT.sIx_nat, Nat.sub_zero, List.drop_zero]
  have := len_tl z
  by_cases h : 1 ≤ z.length
  · rw [Nat.min_eq_left h]
  · have : tl z = [] := List.eq_nil_of_length_eq_zero (by omega)
    rw [show z.cps.toList = [] from this, List.take_nil]
    rw [this]; rfl
theorem cut_from (z : Str) : tl (cutS z (some 1) none) = (tl z).drop 1 := by
  unfold cutS
  show ((z.cps.toList.drop (HT.sIx z.length 0 (some ((1 : Nat) : Int)))).take (HT.sIx z.length z.length none - HT.sIx z.length 0 (some ((1 : Nat) : Int)))) = _
  rw [HT.sIx_none, HT.sIx_nat]
  have := len_tl z
  by_cases h : 1 ≤ z.length
  · rw [Nat.min_eq_left h]
    exact List.take_of_length_le (by rw [List.length_drop, show z.cps.toList.length = z.length from this.symm]; omega)
  · have : tl z = [] := List.eq_nil_of_length_eq_zero (by omega)
    rw [show z.cps.toList = [] from this, List.drop_nil, List.take_nil]
    rw [this]; rfl
theorem neg_iff {z : Str} : neg z ↔ ∃ r, tl z = 45 :: r := by
  have em : tl (Str.ofString "-") = [45] := by decide +kernel
  constructor
  · intro h
    have e : (tl z).take 1 = [45] := by rw [← cut_to, show cutS z none (some 1) = Str.ofString "-" from h, em]
    cases h2 : tl z with
    | nil => rw [h2] at e; cases e
    | cons c r =>
      rw [h2] at e
      simp only [List.take_succ_cons, List.take_zero, List.cons.injEq, and_true] at e
      exact ⟨r, by rw [e]⟩
  · rintro ⟨r, e⟩
    exact ext_tl (by rw [cut_to, e, em]; rfl)
theorem neg_app {a b : Str} (h : 47 ∉ tl a) : (neg (a ++ "/" ++ b) ↔ neg a) ∧ (neg a → cutS (a ++ "/" ++ b) (some 1) none = cutS a (some 1) none ++ "/" ++ b) := by
  have e : tl (a ++ "/" ++ b) = tl a ++ 47 :: tl b := by rw [tl_append, tl_append, ey]; simp
  refine ⟨⟨fun h1 => ?_, fun h1 => ?_⟩, fun h1 => ext_tl ?_⟩
  · obtain ⟨r, h1⟩ := neg_iff.mp h1
    rw [e] at h1
    cases h2 : tl a with
    | nil => rw [h2] at h1; simp at h1
    | cons c r' =>
      rw [h2, List.cons_append, List.cons.injEq] at h1
      exact neg_iff.mpr ⟨r', by rw [h2, h1.1]⟩
  · obtain ⟨r, h1⟩ := neg_iff.mp h1
    exact neg_iff.mpr ⟨r ++ 47 :: tl b, by rw [e, h1]; rfl⟩
  · obtain ⟨r, h1⟩ := neg_iff.mp h1
    rw [cut_from, e, tl_append, tl_append, ey, cut_from, h1]
    simp
theorem neg_ne {z : Str} (h : neg z) : cutS z (some 1) none ≠ z := fun e => by
  obtain ⟨r, h⟩ := neg_iff.mp h
  have := congrArg tl e
  rw [cut_from, h] at this
  have := congrArg List.length this
  simp at this
def sgn (g : Bool) (n : Nat) : Int := if g then -(n : Int) else n
/-- what numbers tell -/
def toldF (g : Bool) : List (Option Nat) → Option D
  | [some n] => if g = true ∧ n = 0 then none else some (.tup [.int (sgn g n), .int 1])
  | [some n, some m] => if (g = true ∧ n = 0) ∨ m < 2 ∨ Int.gcd n m ≠ 1 then none else some (.tup [.int (sgn g n), .int m])
  | _ => none
theorem toldF_two {g : Bool} {x y : Option Nat} {l : List (Option Nat)} (h : 1 ≤ l.length) : toldF g (x :: y :: l) = none := by
  cases l with
  | nil => exact absurd h (by decide)
  | cons w r => cases x <;> cases y <;> rfl
theorem whole_neg {z : Str} : wholeV z = if neg z then (match figV (cutS z (some 1) none) with
    | none => none
    | some n => if n = 0 then none else some (-(n : Int))) else (figV z).map (fun n : Nat => (n : Int)) := by
  unfold wholeV
  by_cases h : neg z
  · rw [if_pos h, if_neg (fun h' => h' h)] <;> rfl
  · rw [if_neg h, if_pos (show cutS z none (some 1) ≠ Str.ofString "-" from h)]
def bodyF (z : Str) : Str := if neg z then cutS z (some 1) none else z
theorem whole_told (z : Str) : wholeV z = match figV (bodyF z) with
    | none => none
    | some n => if neg z ∧ n = 0 then none else some (sgn (decide (neg z)) n) := by
  rw [whole_neg]
  unfold bodyF sgn
  by_cases h : neg z
  · rw [if_pos h, if_pos h]
    cases figV (cutS z (some 1) none) with
    | none => rfl
    | some n =>
      by_cases h0 : n = 0
      · simp [h, h0]
      · simp [h, h0]
  · rw [if_neg h, if_neg h]
    cases figV z with
    | none => rfl
    | some n => simp [h]
theorem free_cut {z : Str} (h : 47 ∉ tl z) : 47 ∉ tl (bodyF z) := by
  unfold bodyF
  split
  · rw [cut_from]
    exact fun hm => h (List.mem_of_mem_drop hm)
  · exact h
theorem gcd_sgn (g : Bool) (n m : Nat) : Int.gcd (sgn g n) m = Int.gcd n m := by
  unfold sgn
  cases g <;> simp
theorem read_fr (z : Str) : readV .fr (.str z) = toldF (decide (neg z)) ((Txt.split (bodyF z) "/").map figV) := by
  have e1 : readV .fr (.str z) = (rfV z).map fun p => .tup [.int p.1, .int p.2] := rfl
  rw [e1]
  unfold rfV
  rcases part_cases z with ⟨h, e⟩ | ⟨a, b, ez, h, e⟩
  · rw [e, if_pos (show Str.empty = Str.ofString "" from empty_s.symm), split_none (free_cut h)]
    simp only [List.map_cons, List.map_nil]
    rw [whole_told]
    cases figV (bodyF z) with
    | none => rfl
    | some n =>
      show (Option.map _ (Option.map _ (if neg z ∧ n = 0 then none else some (sgn (decide (neg z)) n)))) = (if decide (neg z) = true ∧ n = 0 then none else some _)
      by_cases hc : neg z ∧ n = 0
      · rw [if_pos hc, if_pos ⟨decide_eq_true hc.1, hc.2⟩]; rfl
      · rw [if_neg hc, if_neg (fun h => hc ⟨of_decide_eq_true h.1, h.2⟩)]; rfl
  · subst ez
    have hne : ¬ (Str.ofString "/" = Str.ofString "") := by decide +kernel
    obtain ⟨n1, n2⟩ := neg_app (b := b) h
    have eb : bodyF (a ++ "/" ++ b) = bodyF a ++ "/" ++ b := by
      unfold bodyF
      by_cases hg : neg a
      · rw [if_pos hg, if_pos (n1.mpr hg), n2 hg]
      · rw [if_neg hg, if_neg (fun h => hg (n1.mp h))]
    have eg : decide (neg (a ++ "/" ++ b)) = decide (neg a) := decide_eq_decide.mpr n1
    rw [e, eb, eg, split_app (free_cut h)]
    simp only
    rw [if_neg hne, whole_told, List.map_cons]
    by_cases hb : 47 ∈ tl b
    · rw [fig_free (s := 47) (by omega) hb]
      have h2 := split_two hb
      cases es : Txt.split b "/" with
      | nil => rw [es] at h2; exact absurd h2 (by decide)
      | cons x r =>
        rw [es, List.length_cons] at h2
        rw [List.map_cons, toldF_two (by rw [List.length_map]; omega)]
        cases figV (bodyF a) with
        | none => rfl
        | some n =>
          show Option.map _ (match (if neg a ∧ n = 0 then none else some (sgn (decide (neg a)) n)), (none : Option Nat) with
            | some n, some m => _
            | _, _ => none) = none
          by_cases hc : neg a ∧ n = 0
          · rw [if_pos hc]; rfl
          · rw [if_neg hc]; rfl
    · rw [split_none hb, List.map_cons, List.map_nil]
      cases figV (bodyF a) with
      | none => cases figV b <;> rfl
      | some n =>
        cases figV b with
        | none =>
          by_cases hc : neg a ∧ n = 0
          · simp only [if_pos hc]; rfl
          · simp only [if_neg hc]; rfl
        | some m =>
          show _ = (if (decide (neg a) = true ∧ n = 0) ∨ m < 2 ∨ Int.gcd n m ≠ 1 then none else some _)
          by_cases hc : neg a ∧ n = 0
          · simp only [if_pos hc]
            rw [if_pos (Or.inl ⟨decide_eq_true hc.1, hc.2⟩)]; rfl
          · simp only [if_neg hc]
            have en : numF (.tup [.int (sgn (decide (neg a)) n), .int (m : Int)]) = decide (0 < (m : Int) ∧ Int.gcd (sgn (decide (neg a)) n) m = 1) := rfl
            rw [en, gcd_sgn]
            by_cases h2 : m < 2
            · rw [if_pos (Or.inl (by omega)), if_pos (Or.inr (Or.inl h2))]; rfl
            · by_cases h3 : Int.gcd (n : Int) m = 1
              · rw [if_neg (fun h => h.elim (by omega) (fun h => by rw [decide_eq_true ⟨by omega, h3⟩] at h; cases h)), if_neg (fun h => h.elim (fun h => hc ⟨of_decide_eq_true h.1, h.2⟩) (fun h => h.elim h2 (fun h => h h3)))]; rfl
              · rw [if_pos (Or.inr (decide_eq_false (fun h => h3 h.2))), if_pos (Or.inr (Or.inr h3))]; rfl
theorem toldV (N : FK) (z : Str) : readV N (.str z) = if N.code = 0 then toldF (decide (neg z)) ((partsV N z).map figV) else match (partsV N z).map figV with
  | [some n] => if (n : Int) < N.code then some (.int n) else none
  | _ => none := by
  cases N with
  | fr =>
    rw [if_pos code_fr, read_fr]
    unfold partsV bodyV bodyF
    rw [if_pos code_fr]
    by_cases h : neg z
    · rw [if_pos h, if_pos ⟨code_fr, h⟩]
    · rw [if_neg h, if_neg (fun h' => h h'.2)]
  | rs P =>
    have := P.two
    have h0 : ¬ (FK.rs P).code = 0 := by rw [code_rs]; omega
    rw [if_neg h0]
    unfold partsV bodyV
    rw [if_neg h0, if_neg (fun h => h0 h.1), List.map_cons, List.map_nil]
    show (match figV z with
      | some n => if (n : Int) < P.p then some (D.int n) else none
      | none => none) = _
    cases figV z with
    | none => rfl
    | some n => rfl
theorem body_neg (N : FK) (z : Str) (h0 : N.code = 0) : (bodyV N z = z ↔ ¬ neg z) := by
  unfold bodyV
  by_cases h : neg z
  · rw [if_pos ⟨h0, h⟩]
    exact ⟨fun e => absurd e (neg_ne h), fun h' => absurd h h'⟩
  · rw [if_neg (fun h' => h h'.2)]
    exact ⟨fun _ => h, fun _ => rfl⟩
theorem gcd_one (n : Nat) : Int.gcd (n : Int) (1 : Int) = 1 := by simp
theorem sign_ok (N : FK) (z : Str) (h0 : N.code = 0) (n : Nat) : IntMulOk 2 (if ¬ bodyV N z = z then 1 else 0) ∧ IntMulOk n (1 - 2 * if ¬ bodyV N z = z then 1 else 0) ∧ (n : Int) * (1 - 2 * if ¬ bodyV N z = z then 1 else 0) = sgn (decide (neg z)) n := by
  by_cases hg : neg z
  · rw [if_pos (fun e => (body_neg N z h0).mp e hg)]
    refine ⟨mulok_r (by decide), mulok_r (by decide), ?_⟩
    unfold sgn
    rw [decide_eq_true hg, if_pos rfl]
    omega
  · rw [if_neg (fun h => h ((body_neg N z h0).mpr hg))]
    refine ⟨mulok_r (by decide), mulok_r (by decide), ?_⟩
    unfold sgn
    rw [decide_eq_false hg, if_neg (by decide)]
    omega
theorem p_law_told : Keeps N_law_told w_law_told R_law_told := by
  rintro ds Q E ⟨⟨N, d⟩, rfl, ⟨hd, hz⟩, q⟩
  simp only at hd hz
  have q : Q (.im ((readV N d).getD .non)) := q
  unfold w_law_told
  by_cases hs : ∃ z, d = .str z
  · obtain ⟨z, rfl⟩ := hs
    have hz := hz z rfl
    have hb : TxOk (bodyV N z) := by
      unfold bodyV
      split
      · exact cut_ok hz
      · exact hz
    have hp : ∀ x ∈ partsV N z, TxOk x := by
      unfold partsV
      split
      · exact split_tx hb
      · intro x hx
        rw [List.mem_singleton.mp hx]
        exact hb
    have hpl : (partsV N z).length ≤ 1001 := by
      unfold partsV
      split
      · have := split_len (bodyV N z).length (bodyV N z) (Nat.le_refl _)
        have : (bodyV N z).length ≤ 1000 := hb
        omega
      · simp
    have hp1 : 1 ≤ (partsV N z).length := by
      unfold partsV
      split
      · exact split_ne _
      · simp
    refine seq_cut (fun S => S = [some (.im (.int N.code)), some (.im (.str z)), none, none, none, none, none]) (by walk_at "pl") ?_
    rintro S rfl
    refine seq_cut (fun S => S = [some (.im (.int N.code)), some (.im (.str z)), some (.im (.str z)), none, none, none, none]) (by walk_at "pl") ?_
    rintro S rfl
    refine seq_cut (fun S => S = [some (.im (.int N.code)), some (.im (.str z)), some (.im (.str (bodyV N z))), none, none, none, none]) ?_ ?_
    · walk_at "pl"
      unfold bodyV
      by_cases h0 : N.code = 0
      · refine ite_yes h0 ⟨tx_sz hz, ?_⟩
        by_cases h : neg z
        · exact ite_yes h ⟨tx_sz hz, (if_pos ⟨h0, h⟩).symm⟩
        · exact ite_no h (if_neg (fun h' => h h'.2)).symm
      · exact ite_no h0 (if_neg (fun h' => h0 h'.1)).symm
    rintro S rfl
    refine seq_cut (fun S => S = [some (.im (.int N.code)), some (.im (.str z)), some (.im (.str (bodyV N z))), some (.im (.lst [.str (bodyV N z)])), none, none, none]) (by walk_at "pl"; exact by decide) ?_
    rintro S rfl
    refine seq_cut (fun S => S = [some (.im (.int N.code)), some (.im (.str z)), some (.im (.str (bodyV N z))), some (.im (.lst ((partsV N z).map D.str))), none, none, none]) ?_ ?_
    · walk_at "pl"
      unfold partsV at hpl ⊢
      by_cases h0 : N.code = 0
      · rw [if_pos h0] at hpl ⊢
        have e4 : 1002 ≤ sizeLine := by decide
        have hlen : (bodyV N z).length + 2 ≤ sizeLine := by
          have : (bodyV N z).length ≤ 1000 := hb
          omega
        have her : O.erL ((Txt.split (bodyV N z) "/").map O.s) = (Txt.split (bodyV N z) "/").map D.str := by rw [O.erL_map, List.map_map]; rfl
        exact ⟨by decide +kernel, hlen, Nat.le_trans hpl (by decide), by rw [if_pos h0]; exact her⟩
      · refine ite_no h0 ?_
        rw [if_neg h0]
        rfl
    rintro S rfl
    refine seq_cut (fun S => S = [some (.im (.int N.code)), some (.im (.str z)), some (.im (.str (bodyV N z))), some (.im (.lst ((partsV N z).map D.str))), some (.im (.lst (((partsV N z).map figV).map encD))), none, none]) ?_ ?_
    · walk_at "pl"
      refine ⟨rfl, ?_⟩
      rw [List.map_map]
      refine lcI_map (u := fun x => encO (figV x)) (fun a ha => ?_) ⟨rfl, ?_⟩
      · unfold we_law_told_1
        walk_at "pl"
        refine ⟨rfl, lfig_ok (z := a) (hp a ha) ?_⟩
        cases figV a <;> exact ⟨.inl rfl, rfl, rfl⟩
      · have := enc_er ((partsV N z).map figV)
        rw [List.map_map] at this
        exact this
    rintro S rfl
    rw [toldV] at q
    have hp2 : ¬ N.code = 0 → (partsV N z).length = 1 := fun h => by
      unfold partsV
      rw [if_neg h]; rfl
    have hns : ((partsV N z).map figV).length = (partsV N z).length := List.length_map ..
    have hbd : ∀ n, some n ∈ (partsV N z).map figV → n < 10 ^ 60 := fun n hn => by
      obtain ⟨x, _, hx⟩ := List.mem_map.mp hn
      exact fig_lt hx
    generalize (partsV N z).map figV = ns at q hns hbd ⊢
    generalize partsV N z = parts at hns hpl hp1 hp hp2 ⊢
    have none_in : ∀ Y : O → Prop, (ns.any Option.isNone = true → Y (O.t true)) → (ns.any Option.isNone = false → Y (O.t false)) → (uInL false).run (O.im D.non) (O.im (.lst (ns.map encD))) Y := fun Y h1 h2 => by
      refine ⟨.none, ns.map encP, rfl, ?_, rfl, enc_shaped ns, ?_⟩
      · show (D.pyL (ns.map encD)).map PyData.list = _
        rw [enc_py]; rfl
      · rw [enc_any]
        cases h : ns.any Option.isNone
        · exact h2 h
        · exact h1 h
    match ns, hns with
    | [], h => rw [← h] at hp1; exact absurd hp1 (by decide)
    | [none], _ =>
      have q : Q (.im .non) := by
        split at q <;> exact q
      walk_at "pl"
      exact none_in _ (fun _ => ⟨true, rfl, ite_yes rfl q⟩) (fun h => by cases h)
    | [some n], _ =>
      simp only [List.map_cons, List.map_nil, encD] at none_in ⊢
      refine seq_cut (fun S => S = [some (.im (.int N.code)), some (.im (.str z)), some (.im (.str (bodyV N z))), some (.im (.lst (parts.map D.str))), some (.im (.lst [.int n])), none, none]) ?_ ?_
      · walk_at "pl"
        exact none_in _ (fun h => by cases h) (fun _ => ⟨false, rfl, ite_no (by decide) (ite_no (by decide) trivial)⟩)
      rintro S rfl
      by_cases h0 : N.code = 0
      · rw [if_pos h0] at q
        refine seq_cut (fun S => S = [some (.im (.int N.code)), some (.im (.str z)), some (.im (.str (bodyV N z))), some (.im (.lst (parts.map D.str))), some (.im (.lst [.int n])), none, none]) ?_ ?_
        · walk_at "pl"
          exact ite_no (by omega) trivial
        rintro S rfl
        refine seq_cut (fun S => ¬ (neg z ∧ n = 0) ∧ S = [some (.im (.int N.code)), some (.im (.str z)), some (.im (.str (bodyV N z))), some (.im (.lst (parts.map D.str))), some (.im (.lst [.int n])), none, none]) ?_ ?_
        · walk_at "pl"
          by_cases hg : neg z
          · refine ite_yes (fun e => (body_neg N z h0).mp e hg) ?_
            by_cases hn0 : n = 0
            · rw [show toldF (decide (neg z)) [some n] = none from if_pos ⟨decide_eq_true hg, hn0⟩] at q
              exact ite_yes (by omega) q
            · exact ite_no (by omega) (ite_no (by decide) fun h => hn0 h.2)
          · exact ite_no (fun h => h ((body_neg N z h0).mpr hg)) (ite_no (by decide) fun h => hg h.1)
        rintro S ⟨hc, rfl⟩
        rw [show toldF (decide (neg z)) [some n] = some (.tup [.int (sgn (decide (neg z)) n), .int 1]) from if_neg (fun h => hc ⟨of_decide_eq_true h.1, h.2⟩)] at q
        walk_at "pl"
        refine ite_no (by decide) ⟨⟨n, 1⟩, rfl, trivial, ?_⟩
        simp only [gcd_one]
        refine ⟨false, rfl, ite_no (by decide) ?_⟩
        obtain ⟨m1, m2, m3⟩ := sign_ok N z h0 n
        exact ⟨m1, m2, by decide, by rw [m3]; exact q⟩
      · rw [if_neg h0] at q
        have hp0 : 0 < N.code := by
          cases N with
          | fr => exact absurd rfl h0
          | rs P => have := P.two; rw [code_rs]; omega
        walk_at "pl"
        rw [if_pos (by omega)]
        by_cases hl : (n : Int) < N.code
        · simp only [if_pos hl] at q
          exact ite_yes hl q
        · simp only [if_neg hl] at q
          exact ite_no hl q
    | [none, y], _ =>
      have q : Q (.im .non) := by
        split at q
        · cases y <;> exact q
        · exact q
      walk_at "pl"
      exact none_in _ (fun _ => ⟨true, rfl, ite_yes rfl q⟩) (fun h => by cases h)
    | [some n, none], _ =>
      have q : Q (.im .non) := by
        split at q <;> exact q
      walk_at "pl"
      exact none_in _ (fun _ => ⟨true, rfl, ite_yes rfl q⟩) (fun h => by cases h)
    | [some n, some m], h2 =>
      simp only [List.map_cons, List.map_nil, encD] at none_in ⊢
      refine seq_cut (fun S => S = [some (.im (.int N.code)), some (.im (.str z)), some (.im (.str (bodyV N z))), some (.im (.lst (parts.map D.str))), some (.im (.lst [.int n, .int m])), none, none]) ?_ ?_
      · walk_at "pl"
        exact none_in _ (fun h => by cases h) (fun _ => ⟨false, rfl, ite_no (by decide) (ite_no (by decide) trivial)⟩)
      rintro S rfl
      by_cases h0 : N.code = 0
      · rw [if_pos h0] at q
        have told : toldF (decide (neg z)) [some n, some m] = if (decide (neg z) = true ∧ n = 0) ∨ m < 2 ∨ Int.gcd n m ≠ 1 then none else some (.tup [.int (sgn (decide (neg z)) n), .int m]) := rfl
        rw [told] at q
        refine seq_cut (fun S => S = [some (.im (.int N.code)), some (.im (.str z)), some (.im (.str (bodyV N z))), some (.im (.lst (parts.map D.str))), some (.im (.lst [.int n, .int m])), none, none]) ?_ ?_
        · walk_at "pl"
          exact ite_no (by omega) trivial
        rintro S rfl
        refine seq_cut (fun S => ¬ (neg z ∧ n = 0) ∧ ¬ m < 2 ∧ S = [some (.im (.int N.code)), some (.im (.str z)), some (.im (.str (bodyV N z))), some (.im (.lst (parts.map D.str))), some (.im (.lst [.int n, .int m])), none, none]) ?_ ?_
        · walk_at "pl"
          have fin : ¬ (neg z ∧ n = 0) → if (m : Int) < 2 then Q (.im .non) else (¬ (neg z ∧ n = 0) ∧ ¬ m < 2) := fun hc => by
            by_cases hm : m < 2
            · rw [if_pos (Or.inr (Or.inl hm))] at q
              exact ite_yes (by omega) q
            · exact ite_no (by omega) ⟨hc, hm⟩
          by_cases hg : neg z
          · refine ite_yes (fun e => (body_neg N z h0).mp e hg) ?_
            by_cases hn0 : n = 0
            · rw [if_pos (Or.inl ⟨decide_eq_true hg, hn0⟩)] at q
              exact ite_yes (by omega) q
            · exact ite_no (by omega) (ite_yes (by decide) (fin fun h => hn0 h.2))
          · exact ite_no (fun h => h ((body_neg N z h0).mpr hg)) (ite_yes (by decide) (fin fun h => hg h.1))
        rintro S ⟨hc, hm, rfl⟩
        walk_at "pl"
        refine ite_yes (by decide) ⟨⟨n, m⟩, rfl, trivial, ?_⟩
        simp only
        by_cases hg : Int.gcd (n : Int) (m : Int) = 1
        · rw [if_neg (fun h => h.elim (fun h => hc ⟨of_decide_eq_true h.1, h.2⟩) (fun h => h.elim hm (fun h => h hg)))] at q
          rw [hg]
          refine ⟨false, rfl, ite_no (by decide) ?_⟩
          obtain ⟨m1, m2, m3⟩ := sign_ok N z h0 n
          exact ⟨m1, m2, by decide, by rw [m3]; exact q⟩
        · rw [if_pos (Or.inr (Or.inr hg))] at q
          refine ⟨true, ?_, ite_yes rfl q⟩
          have : ¬ ((Int.gcd (n : Int) (m : Int) : Nat) : Int) = 1 := fun h => hg (by exact_mod_cast h)
          show O.t (true ^^ decide (((Int.gcd (n : Int) (m : Int) : Nat) : Int) = 1)) = O.t true
          rw [decide_eq_false this]
          rfl
      · rw [hp2 h0] at h2
        exact absurd h2 (by simp)
    | x :: y :: w :: r, _ =>
      have q : Q (.im .non) := by
        split at q
        · cases x <;> cases y <;> exact q
        · cases x <;> exact q
      walk_at "pl"
      exact none_in _ (fun _ => ⟨true, rfl, ite_yes rfl q⟩) (fun h => ⟨false, rfl, ite_no (by decide) (ite_yes (by omega) q)⟩)
  · have e1 : readV N d = none := by
      cases d with
      | str z => exact absurd ⟨z, rfl⟩ hs
      | _ => cases N <;> rfl
    rw [e1] at q
    have : ∃ t, d.ty = some t ∧ isB t "str" = false := by
      cases d with
      | str z => exact absurd ⟨z, rfl⟩ hs
      | _ =>
        first
          | (cases hd; done)
          | exact ⟨_, rfl, by decide⟩
    obtain ⟨t, ht, hb⟩ := this
    walk_at "pl"
    exact ⟨t, ht, ite_yes hb q⟩
end PL.K81

/-! L81 -/
set_option Elab.async false
set_option linter.all false
set_option maxRecDepth 100000
set_option maxHeartbeats 4000000
namespace PL.K81
open PySem PySem.Spec L2 TL TX
local macro_rules | `(tactic| walk_at "pl") => `(tactic| simp (config := { maxSteps := 1000000 }) only [sSeq, sIf, sRet, sRetV, sRetN, sAsg, sPar, sPar3, sAug, sNext, sExpr, sBreak, sCont, W1.pure, wV, wC, w1, w2, wT, wAnd, wOr, wNot, wAndV, wOrV, wNotV, wIf, wCons, wNil, wA, wL, wTp, wCall, uA1, uA2, uI, uIB, uIU, uEq_int, uEq_str, uEq_bl, uIsi, uLen, uInt, uIx, uCat, uLst, wSl, wItA, wR1, wR2, wZip, wEnum, wRev, wON, wOS, gF, gN, bodyK, startS,   nb_im, nb_ls, nb_tp, nb_bo, vw_im, vw_ls, vw_tp, er_im, er_bo, er_ls, er_tp, erL_nil, erL_cons, its_iml, its_imt, its_scr, its_bol, its_bot, its_ls, its_tp, trk_iml, trk_imt, trk_bot, trk_tp, isL_imt, isL_bot, isL_tp,  trk_bol, trk_ls, isL_iml, isL_scr, isL_bol, isL_ls, fz_im, fz_bo, fz_ls, fz_tp, ty_int, ty_bl, ty_str, ty_non, ty_tup, ty_lst, len_lst, len_tup, len_scr, all_nil, all_cons, Bool.and_self, true_or,   List.map_cons, List.map_nil, List.cons_append, List.nil_append, List.append_nil, List.length_cons, List.length_nil, List.replicate, List.getElem?_cons_zero, List.getElem?_cons_succ, List.set_cons_zero, List.set_cons_succ, List.set_nil, Option.some.injEq, exists_eq_left', exists_eq_left, exists_eq_right, exists_eq', exists_and_left, exists_and_right, and_true, true_and, and_assoc, O.im.injEq, D.int.injEq, D.bl.injEq, D.tup.injEq, D.lst.injEq, D.kd.injEq, D.scr.injEq, D.str.injEq, Ctr.fn, Ctr.rel, sFor_run, wLC_run, all_mem_nil, sRaise, uPrime, wMeth, wMeth1, sStore, sAppend, sExtend, k_fr, k_rs, wMkR, uIsX, uIsXT, sTry, sExpr, tidy_im, flat_int, flat_bl, flat_tup, flat_non, flat_str, flat_kd, flatL_nil, flatL_cons, isPo_b, Ctr.ex, Ctr.on, isFr_fr, isFr_rs, isRs_fr, isRs_rs, sigma_ex, D.kd.injEq, Kd.b.injEq, BK.rs.injEq, reduceCtorEq, false_and, and_false, exists_false, false_implies, true_implies, forall_const, List.mem_cons, List.not_mem_nil, or_false, isT_exn, isT_non, xT_x, xT_ve, xT_fe, n_kind, n_number, n_fit, n_turn, n_inverse, n_text, n_name, n_row, okS_exn, okS_non, decide_true, decide_false, eq_self, wCh, gLt, gLe, gGt, gGe, uEq_enc, mkT_1, mkT_2, mkT_3, mkT_4, mkBo_enc, mkBo_int, mkBo_bl, mkBo_str, mkBo_non, mkBo_kd, mkBo_lst, flat_enc, O.ls.injEq, mkBo_fr, false_or, isT_kd, okS_kd, flat_dic, kT_1, kT_2, kT_3, kT_4, kT_5, kT_6, er_vecO, er_tabO, nb_vecO, nb_tabO, tidy_vecO, tidy_tabO, its_im_vec, its_bo_vec, its_im_tab, its_bo_tab, len_vec, len_tab, isTrk_vec, isTrk_tab, isL_vec, isL_tab, isTrk_bvec, isTrk_btab, isL_bvec, isL_btab, vw_vecO, vw_tabO, fz_im', ty_vec, ty_tab, intL_rng, rng_len, rng_map, erL_rng, zipT_rng, Nat.min_self, all_rng_im, Int.toNat_natCast, gT, gspNames, gsC, gsN, parts_imt, parts_tp, xV, xC, xAdd, xSub, sForApp, sFz, sSt2, forall_eq_or_imp, List.length_range, implies_true, sRetMv, er_im, er_ls, uInSg, uIxS, uIntS, uStr, wSlS, wItS, wStrM, uPart, uSplit, uJoin, uAddS, wF3,   tidy_i, tidy_t, tidy_n, tidy_kd, or_true, Bool.and_true,  mkL_nb, all_map_i, all_map_im, cutA_map, cutA_63, take_map', drop_map',  its_lsi, erL_append, erL_mapi, map_im_int, List.map_append, List.all_append, List.length_map, List.length_append,  unr_cons, unr_nil, whole_int, Option.isSome_some,  all_mem_cons, atI_0, atI_1, atI_2, atI_3, atI_4, isB_int_int, isB_int_bool, isB_int_str, isB_int_tuple, isB_int_list, isB_bool_int, isB_bool_bool, isB_bool_str, isB_bool_tuple, isB_bool_list, isB_str_int, isB_str_bool, isB_str_str, isB_str_tuple, isB_str_list, isB_tuple_int, isB_tuple_bool, isB_tuple_str, isB_tuple_tuple, isB_tuple_list, isB_list_int, ty_dic, isB_dict_int, isB_dict_bool, isB_dict_str, isB_dict_tuple, isB_dict_list, mkL_0, isB_list_bool, isB_list_str, isB_list_tuple, isB_list_list, isB_NoneType_int, isB_NoneType_bool, isB_NoneType_str, isB_NoneType_tuple, isB_NoneType_list, Prod.exists, Prod.forall, forall_exists_index, and_imp, forall_eq, forall_eq', Bool.false_xor, Bool.true_xor, List.cons.injEq, Nat.reduceAdd, Nat.reduceSub, Nat.reduceLT, Nat.lt_add_one, Nat.zero_lt_succ, Nat.zero_add,   Bool.not_eq_true', Bool.not_eq_false', Bool.not_true, Bool.not_false, decide_eq_false_iff_not, decide_eq_true_eq, if_true, if_false, Bool.false_eq_true, Bool.true_eq_false, reduceIte])
local macro_rules | `(tactic| walk_at "ds") => `(tactic| repeat refine And.intro (by first | with_reducible rfl | decide | exact mulok_r (by decide) | exact mulok_l (by decide) | exact szL (by decide)) ?_)
def R_law_drawn : Ctr := Ctr.rel (fun a : FK × Int => [.int a.1.code, .int a.2]) (fun a => Sz 1048577 a.2) (fun a d => drawnD 201 a.1 d) (fun _ d => .im d)
def shown (N : FK) (x : N.T) : Str := match N, x with
  | .rs _, x => (toString (x.val : Int) : Str)
  | .fr, x => if ((x : Rat).den : Int) = 1 then (toString (x : Rat).num : Str) else (toString (x : Rat).num : Str) ++ "/" ++ (toString ((x : Rat).den : Int) : Str)
def R_show_number : Ctr := Ctr.fn (α := (N : FK) × N.T) (fun a => [.kd (.b a.1.k), a.1.enc a.2]) (fun a => a.1.sz 201 a.2) (fun a => O.s (shown a.1 a.2))
def R_law_shown : Ctr := Ctr.fn (α := (N : FK) × N.T) (fun a => [.int a.1.code, a.1.enc a.2]) (fun a => a.1.sz 201 a.2) (fun a => O.s (shown a.1 a.2))
def R_law_sign : Ctr := Ctr.rel (fun c : Int => [.int c]) (fun c => Sz 1048577 c) (fun _ (k : Nat) => True) (fun _ k => O.s (sg k))
def R_law_odd : Ctr := Ctr.rel (fun c : Int => [.int c]) (fun c => Sz 1048577 c) (fun _ (d : D) => d.ty.isSome = true ∧ ∀ z, d = .str z → TxOk z) (fun _ d => .im d)
def R_law_spoiled : Ctr := Ctr.rel (fun a : Str × Int => [.str a.1, .int a.2]) (fun a => a.1.length ≤ 450 ∧ Sz 1048577 a.2) (fun _ (d : D) => d.ty.isSome = true ∧ ∀ z, d = .str z → TxOk z) (fun _ d => .im d)
def R_law_right : Ctr := Ctr.fn (fun a : FK × D => [.kd (.b a.1.k), .int a.1.code, a.2]) (fun a => a.2.ty.isSome = true ∧ ∀ z, a.2 = .str z → TxOk z) (fun _ => O.t true)
def R_law : Ctr := Ctr.fn (fun ns : List Int => [.scr ns]) (fun ns => Scr ns) (fun _ => O.t true)
noncomputable def w_law_drawn : WS :=
  sSeq (sIf (wT (w2 (wV 0) (wC (.int 0)) uGt))
  (sRet (w2 (w2 (wV 1) (wC (.int 16807)) uMul) (wV 0) uMod))
  (sNext))
  (sSeq (sAsg (w2 (w2 (w2 (wV 1) (wC (.int 5)) uDiv) (wC (.int 13)) uMod) (wC (.int 6)) uSub) (gF 2))
  (sSeq (sIf (wT (w2 (w2 (wV 1) (wC (.int 5)) uMod) (wC (.int 2)) uLt))
  (sAsg (w2 (w2 (w2 (w2 (w2 (w2 (wV 1) (wC (.int 5)) uDiv) (wC (.int 48271)) uMul) (w2 (wC (.int 10)) (wC (.int 60)) uPow) uAdd) (wC (.int 1)) uSub) (w2 (w2 (wC (.int 2)) (w2 (wC (.int 10)) (wC (.int 60)) uPow) uMul) (wC (.int 1)) uSub) uMod) (w2 (w2 (wC (.int 10)) (wC (.int 60)) uPow) (wC (.int 1)) uSub) uSub) (gF 2))
  (sNext))
  (sRet (wCall (wCons (wV 2) (wCons (w2 (wC (.int 1)) (w2 (w2 (w2 (wV 1) (wV 1) uMul) (wC (.int 48271)) uMul) (w2 (wL (wCons (wC (.int 1)) (wCons (wC (.int 6)) (wCons (wC (.int 60)) (wCons (w2 (w2 (wC (.int 10)) (wC (.int 60)) uPow) (wC (.int 1)) uSub) (wNil)))))) (w2 (w2 (wV 1) (wC (.int 7)) uDiv) (wC (.int 4)) uMod) uIx) uMod) uAdd) (wNil))) R_law_lowest))))

abbrev N_law_drawn : List Str := ["_law_prime_here", "_law_cell", "_law_top"]

noncomputable def w_show_number : WS :=
  sSeq (sIf (wNot (wT (w1 (wV 0) (uIsX .cf UX UK))))
  (sRet (wA (wCons (wV 1) (wNil)) (uA1 uStr)))
  (sNext))
  (sSeq (sAsg (wV 1) (gT 2 (gsC (gF 2) (gsC (gF 3) (gsN)))))
  (sSeq (sIf (wT (w2 (wV 3) (wC (.int 1)) (uEq false)))
  (sRet (wA (wCons (wV 2) (wNil)) (uA1 uStr)))
  (sNext))
  (sRet (wF3 (wV 2) (wV 3) "/"))))

abbrev N_show_number : List Str := ["kind", "number", "top", "bottom"]

noncomputable def w_law_shown : WS :=
  sSeq (sIf (wT (w2 (wV 0) (wC (.int 0)) uGt))
  (sRet (wA (wCons (wV 1) (wNil)) (uA1 uStr)))
  (sNext))
  (sSeq (sIf (wT (w2 (w2 (wV 1) (wC (.int 1)) uIx) (wC (.int 1)) (uEq false)))
  (sRet (wA (wCons (w2 (wV 1) (wC (.int 0)) uIx) (wNil)) (uA1 uStr)))
  (sNext))
  (sRet (w2 (w2 (wA (wCons (w2 (wV 1) (wC (.int 0)) uIx) (wNil)) (uA1 uStr)) (wC (.str "/")) uAddS) (wA (wCons (w2 (wV 1) (wC (.int 1)) uIx) (wNil)) (uA1 uStr)) uAddS)))

abbrev N_law_shown : List Str := ["_law_prime_here", "_law_number"]

noncomputable def w_law_sign : WS :=
  sSeq (sAsg (wC (.str "0123456789//--0011 +._abcdefghijklmnopqrstuvwxyzABCDEFGHIJKLMNOPQRSTUVWXYZ!\"#$&'()*,:;<=>?\x40[\\]^{|}~")) (gF 1))
  (sRet (w2 (wV 1) (w2 (w2 (w2 (wV 0) (wC (.int 40692)) uMul) (wC (.int 65543)) uMod) (wA (wCons (wV 1) (wNil)) (uA1 uLen)) uMod) uIxS))

abbrev N_law_sign : List Str := ["_law_cell", "_law_some"]

noncomputable def w_law_odd : WS :=
  sSeq (sAsg (wL (wCons (wC (.str "")) (wCons (wC (.str "-")) (wCons (wC (.str "/")) (wCons (wC (.str "0/1")) (wCons (wC (.str "1/1")) (wCons (wC (.str "-0")) (wCons (wC (.str "00")) (wCons (wC (.str "01")) (wCons (wC (.str "1/0")) (wCons (wC (.str "1/-2")) (wCons (wC (.str "--1")) (wCons (wC (.str "+1")) (wCons (wC (.str " 1")) (wCons (wC (.str "1 ")) (wCons (wC (.str "2/4")) (wCons (wC (.str "1/02")) (wNil)))))))))))))))))) (gF 1))
  (sSeq (sAsg (w2 (wV 1) (wL (wCons (wC (.str "1//2")) (wCons (wC (.str "1/2/3")) (wCons (wC (.str "1_0")) (wCons (wC (.str "-1/1")) (wCons (wC (.str "0/5")) (wCons (wC .non) (wCons (wC (.int 7)) (wCons (wTp (wCons (wC (.int 1)) (wCons (wC (.int 2)) (wNil)))) (wNil)))))))))) uCat) (gF 1))
  (sRet (w2 (wV 1) (w2 (w2 (w2 (wV 0) (wC (.int 30269)) uMul) (wC (.int 65563)) uMod) (wC (.int 24)) uMod) uIx)))

abbrev N_law_odd : List Str := ["_law_cell", "_law_some"]

noncomputable def w_law_spoiled : WS :=
  sSeq (sAsg (w2 (w2 (w2 (wV 1) (wC (.int 39373)) uMul) (wC (.int 65557)) uMod) (wC (.int 8)) uMod) (gF 2))
  (sSeq (sAsg (w2 (w2 (w2 (wV 1) (wC (.int 30323)) uMul) (wC (.int 65581)) uMod) (w2 (wA (wCons (wV 0) (wNil)) (uA1 uLen)) (wC (.int 1)) uAdd) uMod) (gF 3))
  (sSeq (sAsg (wCall (wCons (wV 1) (wNil)) R_law_sign) (gF 4))
  (sSeq (sIf (wT (w2 (wV 2) (wC (.int 2)) uLt))
  (sRet (w2 (w2 (wSlS (wV 0) (wON) (wOS (wV 3))) (wV 4) uAddS) (wSlS (wV 0) (wOS (wV 3)) (wON)) uAddS))
  (sNext))
  (sSeq (sIf (wT (w2 (wV 2) (wC (.int 2)) (uEq false)))
  (sRet (w2 (wSlS (wV 0) (wON) (wOS (wV 3))) (wSlS (wV 0) (wOS (w2 (wV 3) (wC (.int 1)) uAdd)) (wON)) uAddS))
  (sNext))
  (sSeq (sIf (wT (w2 (wV 2) (wC (.int 5)) uLt))
  (sRet (w2 (w2 (wSlS (wV 0) (wON) (wOS (wV 3))) (wV 4) uAddS) (wSlS (wV 0) (wOS (w2 (wV 3) (wC (.int 1)) uAdd)) (wON)) uAddS))
  (sNext))
  (sSeq (sIf (wT (w2 (wV 2) (wC (.int 5)) (uEq false)))
  (sRet (wCall (wCons (wV 1) (wNil)) R_law_odd))
  (sNext))
  (sRetV 0)))))))

abbrev N_law_spoiled : List Str := ["_law_text", "_law_cell", "_law_way", "_law_at", "_law_sign_here"]

noncomputable def w_law_right : WS :=
  sSeq (sAsg (wCall (wCons (wV 1) (wCons (wV 2) (wNil))) R_law_told) (gF 3))
  (sSeq (sAsg (wC .non) (gF 4))
  (sSeq (sAsg (wC .non) (gF 5))
  (sSeq (sTry 6 4 UX (sAsg (wCall (wCons (wV 0) (wCons (wV 2) (wNil))) R_read_number) (gF 5)))
  (sSeq (sIf (wT (w2 (wV 3) (wC .non) (uIsN true)))
  (sRet (wAndV (w2 (wV 4) (wC .non) (uIsN false)) (wCall (wCons (wV 1) (wCons (wV 5) (wCons (wV 3) (wNil)))) R_law_number_is)))
  (sNext))
  (sSeq (sIf (wT (w1 (wV 4) (uIsXT [(.x .kind), (.x .number), (.x .turn), (.x .inverse), (.x .fit), (.x .name), (.x .row)] UX)))
  (sRet (wC (.bl false)))
  (sNext))
  (sRet (wAndV (w1 (wV 4) (uIsX (.x .text) UX UK)) (w1 (wV 4) (uIsX .ve UX UK)))))))))

abbrev N_law_right : List Str := ["_law_kind_here", "_law_prime_here", "_law_text", "_law_due", "_law_error", "_law_found", "e"]

noncomputable def wb_law_1 : WS :=
  sSeq (sAsg (wCall (wCons (wV 2) (wCons (wV 4) (wNil))) R_law_drawn) (gF 5))
  (sSeq (sAsg (wCall (wCons (wV 2) (wCons (wV 5) (wNil))) R_law_shown) (gF 6))
  (sSeq (sAsg (wCall (wCons (wV 3) (wCons (wV 5) (wNil))) R_show_number) (gF 7))
  (sSeq (sIf (wOr (wNot (wT (wA (wCons (wV 7) (wCons (wC (.obj (.ty "str"))) wNil)) (uA2 (uIsi "str"))))) (wT (w2 (wV 7) (wV 6) (uEq true))))
  (sRet (wC (.bl false)))
  (sNext))
  (sIf (wOr (wNot (wT (wCall (wCons (wV 3) (wCons (wV 2) (wCons (wV 7) (wNil)))) R_law_right))) (wNot (wT (wCall (wCons (wV 3) (wCons (wV 2) (wCons (wCall (wCons (wV 6) (wCons (wV 4) (wNil))) R_law_spoiled) (wNil)))) R_law_right))))
  (sRet (wC (.bl false)))
  (sNext)))))

noncomputable def w_law : WS :=
  sSeq (sAsg (w2 (wSl (wV 0) (wON) (wOS (wC (.int 63)))) (wL (wCons (wC (.int 0)) (wNil))) uCat) (gF 1))
  (sSeq (sAsg (wCall (wCons (w2 (wV 1) (wC (.int 0)) uIx) (wNil)) R_law_prime) (gF 2))
  (sSeq (sAsg (wCall (wCons (wV 2) (wNil)) R_law_kind) (gF 3))
  (sSeq (sFor (wItA (wV 1)) (gF 4) wb_law_1)
  (sRet (wC (.bl true))))))

abbrev N_law : List Str := ["_law_script", "_law_cells", "_law_prime_here", "_law_kind_here", "_law_cell", "_law_number", "_law_text", "_law_found"]

theorem p_law_drawn : Keeps N_law_drawn w_law_drawn R_law_drawn := by
  rintro ds Q E ⟨⟨N, c⟩, rfl, sc, q⟩
  simp only at sc
  have q : ∀ d : D, drawnD 201 N d → Q (.im d) := q
  unfold w_law_drawn
  cases N with
  | rs P =>
    have := P.two
    simp only [code_rs]
    walk_at "pl"
    rw [if_pos (by omega)]
    exact ⟨mulok_r (by decide), by omega, q _ (drawn_rest (c * 16807))⟩
  | fr =>
    simp only [code_fr]
    walk_at "pl"
    refine ite_no (by decide) ?_
    have key : ∀ t : Int, Sz 201 t → (∃ y, atI [O.im (D.int 1), O.im (D.int 6), O.im (D.int 60), O.im (D.int (10 ^ Int.toNat 60 - 1))] ((c.fdiv 7).fmod 4) = some (O.i y) ∧ 0 < y ∧ Sz 201 y) := by
      intro t st
      have h := fmod_pos_bounds (x := c.fdiv 7) (y := 4) (by decide)
      rcases at4 h.1 h.2 with e | e | e | e
      · exact ⟨_, e, by decide, by decide⟩
      · exact ⟨_, e, by decide, by decide⟩
      · exact ⟨_, e, by decide, by decide⟩
      · exact ⟨_, e, by decide, by decide⟩
    have fin : ∀ t : Int, Sz 201 t → ∀ y : Int, 0 < y → Sz 201 y → ∀ w : Int, R_law_lowest.run [.int t, .int (1 + w.fmod y)] (fun o => O.nb o = true ∧ Q o) E := by
      intro t st y y0 sy w
      have h := fmod_pos_bounds (x := w) (y := y) y0
      have sb : Sz 201 (1 + w.fmod y) := sy.le (by omega)
      refine lowest_ok _ _ (by omega) (sb.mono (by decide)) ⟨rfl, q _ (drawn_frac (by omega) st sb)⟩
    have sc' : Sz 1048800 c := sc.mono (by decide)
    walk_at "ds"
    by_cases h5 : c.fmod 5 < 2
    · rw [if_pos h5]
      walk_at "ds"
      have st : Sz 201 ((c.fdiv 5 * 48271 + 10 ^ Int.toNat 60 - 1).fmod (2 * 10 ^ Int.toNat 60 - 1) - (10 ^ Int.toNat 60 - 1)) := by
        have h := fmod_pos_bounds (x := c.fdiv 5 * 48271 + 10 ^ Int.toNat 60 - 1) (y := 2 * 10 ^ Int.toNat 60 - 1) (by decide)
        rw [e10_60] at h ⊢
        unfold Sz
        omega
      obtain ⟨y, ey, y0, sy⟩ := key _ st
      refine ⟨mulok sc' sc' (by decide) (by decide) (by decide), mulok_r (by decide), ?_⟩
      walk_at "ds"
      exact ⟨_, ey, y, rfl, by omega, fin _ st _ y0 sy _⟩
    · rw [if_neg h5]
      have st : Sz 201 ((c.fdiv 5).fmod 13 - 6) := by
        have h := fmod_pos_bounds (x := c.fdiv 5) (y := 13) (by decide)
        refine Sz.mono (n := 10) ?_ (by decide)
        unfold Sz
        omega
      obtain ⟨y, ey, y0, sy⟩ := key _ st
      refine ⟨mulok sc' sc' (by decide) (by decide) (by decide), mulok_r (by decide), ?_⟩
      walk_at "ds"
      exact ⟨_, ey, y, rfl, by omega, fin _ st _ y0 sy _⟩
theorem log_ok {n : Nat} {i : Int} (h : Sz n i) (hn : 0 < n) : i.natAbs.log2 < n := by
  by_cases h0 : i.natAbs = 0
  · rw [h0]; exact hn
  · exact (Nat.log2_lt h0).mpr h
theorem txt_len {i : Int} (h : Sz 201 i) : (Str.ofString (toString i)).length ≤ 202 := by
  have := int_text_length_le (k := 201) (by decide) (log_ok h (by decide))
  rw [ofString_length]
  exact this
theorem num_sz {x : Rat} (h : FK.sz .fr 201 x) : Sz 201 x.num ∧ Sz 201 (x.den : Int) := h
theorem rest_sz {P : Pr} (x : Zp P) : Sz 201 (x.val : Int) := by
  have h1 := Zp.val_lt x
  have h2 := P.lt
  have e : (2 : Int) ^ 201 > 1000000 := by decide
  exact Sz.of_nonneg (by omega) (by omega)
theorem shown_len {N : FK} {x : N.T} (h : N.sz 201 x) : (shown N x).length ≤ 410 := by
  have e1 : (Str.ofString "/").length = 1 := by decide +kernel
  cases N with
  | rs P =>
    have := txt_len (rest_sz x)
    show (Str.ofString (toString (x.val : Int))).length ≤ 410
    omega
  | fr =>
    obtain ⟨h1, h2⟩ := num_sz h
    have a := txt_len h1
    have b := txt_len h2
    show (if ((x : Rat).den : Int) = 1 then (toString (x : Rat).num : Str) else (toString (x : Rat).num : Str) ++ "/" ++ (toString ((x : Rat).den : Int) : Str)).length ≤ 410
    split
    · omega
    · rw [len_app, len_app, e1]
      omega
theorem p_show_number : Keeps N_show_number w_show_number R_show_number := by
  rintro ds Q E ⟨⟨N, x⟩, rfl, sx, q⟩
  simp only at sx
  have q : Q (O.s (shown N x)) := q
  unfold w_show_number
  have e1 : (Str.ofString "/").length = 1 := by decide +kernel
  have e2 : 1000 ≤ sizeLine := by decide
  cases N with
  | rs P =>
    simp only [FK.enc]
    walk_at "pl"
    exact ⟨log_ok ((rest_sz x).mono (m := 1920) (by decide)) (by decide), q⟩
  | fr =>
    obtain ⟨h1, h2⟩ := num_sz sx
    have a := txt_len h1
    have b := txt_len h2
    have q : Q (O.s (if ((x : Rat).den : Int) = 1 then (toString (x : Rat).num : Str) else (toString (x : Rat).num : Str) ++ "/" ++ (toString ((x : Rat).den : Int) : Str))) := q
    simp only [FK.enc]
    walk_at "pl"
    by_cases hd : ((x : Rat).den : Int) = 1
    · rw [if_pos hd] at q
      exact ite_yes hd ⟨log_ok (h1.mono (m := 1920) (by decide)) (by decide), q⟩
    · rw [if_neg hd] at q
      exact ite_no hd ⟨log_ok (h1.mono (m := 1920) (by decide)) (by decide), by omega, log_ok (h2.mono (m := 1920) (by decide)) (by decide), by omega, q⟩
theorem p_law_shown : Keeps N_law_shown w_law_shown R_law_shown := by
  rintro ds Q E ⟨⟨N, x⟩, rfl, sx, q⟩
  simp only at sx
  have q : Q (O.s (shown N x)) := q
  unfold w_law_shown
  have e1 : (Str.ofString "/").length = 1 := by decide +kernel
  have e2 : 1000 ≤ sizeLine := by decide
  cases N with
  | rs P =>
    have := P.two
    simp only [FK.enc, code_rs]
    walk_at "pl"
    rw [if_pos (by omega)]
    exact ⟨log_ok ((rest_sz x).mono (m := 1920) (by decide)) (by decide), q⟩
  | fr =>
    obtain ⟨h1, h2⟩ := num_sz sx
    have a := txt_len h1
    have b := txt_len h2
    have q : Q (O.s (if ((x : Rat).den : Int) = 1 then (toString (x : Rat).num : Str) else (toString (x : Rat).num : Str) ++ "/" ++ (toString ((x : Rat).den : Int) : Str))) := q
    simp only [FK.enc, code_fr]
    walk_at "pl"
    refine ite_no (by decide) ?_
    by_cases hd : ((x : Rat).den : Int) = 1
    · rw [if_pos hd] at q
      exact ite_yes hd ⟨log_ok (h1.mono (m := 1920) (by decide)) (by decide), q⟩
    · rw [if_neg hd] at q
      exact ite_no hd ⟨log_ok (h1.mono (m := 1920) (by decide)) (by decide), by omega, log_ok (h2.mono (m := 1920) (by decide)) (by decide), by rw [len_app]; omega, q⟩
theorem atI_in {α : Type} {l : List α} {z : Int} (h0 : 0 ≤ z) (h : z < l.length) : ∃ a, atI l z = some a ∧ a ∈ l := by
  obtain ⟨k, rfl⟩ := Int.eq_ofNat_of_zero_le h0
  have hk : k < l.length := by omega
  exact ⟨l[k], by rw [atI_ix, List.getElem?_eq_getElem hk], List.getElem_mem hk⟩
theorem p_law_sign : Keeps N_law_sign w_law_sign R_law_sign := by
  rintro ds Q E ⟨c, rfl, sc, q⟩
  have q : ∀ k : Nat, Q (O.s (sg k)) := fun k => q k trivial
  unfold w_law_sign
  walk_at "pl"
  generalize eL : Str.ofString "0123456789//--0011 +._abcdefghijklmnopqrstuvwxyzABCDEFGHIJKLMNOPQRSTUVWXYZ!\"#$&'()*,:;<=>?\x40[\\]^{|}~" = L
  have hl : L.length = 99 := by rw [← eL]; decide +kernel
  refine ⟨mulok_r (by decide), by decide, L.length, if_pos (by rw [hl]; decide), by rw [hl]; decide, by rw [hl]; decide, ?_⟩
  have h := fmod_pos_bounds (x := (c * 40692).fmod 65543) (y := (L.length : Int)) (by rw [hl]; decide)
  obtain ⟨a, ea, _⟩ := atI_in (l := L.cps.toList) h.1 (by rw [show L.cps.toList.length = L.length from (len_tl L).symm]; exact h.2)
  exact ⟨a, ea, q a⟩
theorem p_law_odd : Keeps N_law_odd w_law_odd R_law_odd := by
  rintro ds Q E ⟨c, rfl, sc, q⟩
  have q : ∀ d : D, (d.ty.isSome = true ∧ ∀ z, d = .str z → TxOk z) → Q (.im d) := q
  have qs : ∀ z : Str, z.length ≤ 1000 → Q (.im (.str z)) := fun z hz => q _ ⟨rfl, fun y e => by cases e; exact hz⟩
  unfold w_law_odd
  walk_at "pl"
  refine ⟨by decide, by decide, by decide, by decide, mulok_r (by decide), by decide, by decide, ?_⟩
  have h := fmod_pos_bounds (x := (c * 30269).fmod 65563) (y := 24) (by decide)
  generalize ((c * 30269).fmod 65563).fmod 24 = z at h
  obtain ⟨n, rfl⟩ := Int.eq_ofNat_of_zero_le h.1
  rw [atI_ix]
  have hn : n < 24 := by omega
  match n, hn with
  | 0, _ => exact ⟨_, rfl, rfl, qs _ (by decide +kernel)⟩
  | 1, _ => exact ⟨_, rfl, rfl, qs _ (by decide +kernel)⟩
  | 2, _ => exact ⟨_, rfl, rfl, qs _ (by decide +kernel)⟩
  | 3, _ => exact ⟨_, rfl, rfl, qs _ (by decide +kernel)⟩
  | 4, _ => exact ⟨_, rfl, rfl, qs _ (by decide +kernel)⟩
  | 5, _ => exact ⟨_, rfl, rfl, qs _ (by decide +kernel)⟩
  | 6, _ => exact ⟨_, rfl, rfl, qs _ (by decide +kernel)⟩
  | 7, _ => exact ⟨_, rfl, rfl, qs _ (by decide +kernel)⟩
  | 8, _ => exact ⟨_, rfl, rfl, qs _ (by decide +kernel)⟩
  | 9, _ => exact ⟨_, rfl, rfl, qs _ (by decide +kernel)⟩
  | 10, _ => exact ⟨_, rfl, rfl, qs _ (by decide +kernel)⟩
  | 11, _ => exact ⟨_, rfl, rfl, qs _ (by decide +kernel)⟩
  | 12, _ => exact ⟨_, rfl, rfl, qs _ (by decide +kernel)⟩
  | 13, _ => exact ⟨_, rfl, rfl, qs _ (by decide +kernel)⟩
  | 14, _ => exact ⟨_, rfl, rfl, qs _ (by decide +kernel)⟩
  | 15, _ => exact ⟨_, rfl, rfl, qs _ (by decide +kernel)⟩
  | 16, _ => exact ⟨_, rfl, rfl, qs _ (by decide +kernel)⟩
  | 17, _ => exact ⟨_, rfl, rfl, qs _ (by decide +kernel)⟩
  | 18, _ => exact ⟨_, rfl, rfl, qs _ (by decide +kernel)⟩
  | 19, _ => exact ⟨_, rfl, rfl, qs _ (by decide +kernel)⟩
  | 20, _ => exact ⟨_, rfl, rfl, qs _ (by decide +kernel)⟩
  | 21, _ => exact ⟨_, rfl, rfl, q _ ⟨rfl, fun _ e => nomatch e⟩⟩
  | 22, _ => exact ⟨_, rfl, rfl, q _ ⟨rfl, fun _ e => nomatch e⟩⟩
  | 23, _ => exact ⟨_, rfl, rfl, q _ ⟨rfl, fun _ e => nomatch e⟩⟩
theorem sign_k (c : Int) (sc : Sz 1048577 c) {Q : O → Prop} {E : Ex → Prop} (q : ∀ k : Nat, Q (O.s (sg k))) : R_law_sign.run [.int c] Q E := ⟨c, rfl, sc, fun k _ => q k⟩
theorem odd_ok (c : Int) (sc : Sz 1048577 c) {Q : O → Prop} {E : Ex → Prop} (q : ∀ d : D, (d.ty.isSome = true ∧ ∀ z, d = .str z → TxOk z) → Q (.im d)) : R_law_odd.run [.int c] Q E := ⟨c, rfl, sc, q⟩
theorem sg_len (k : Nat) : (sg k).length = 1 := rfl
theorem p_law_spoiled : Keeps N_law_spoiled w_law_spoiled R_law_spoiled := by
  rintro ds Q E ⟨⟨z, c⟩, rfl, ⟨hz, sc⟩, q⟩
  simp only at hz sc
  have q : ∀ d : D, (d.ty.isSome = true ∧ ∀ z, d = .str z → TxOk z) → Q (.im d) := q
  have qs : ∀ y : Str, y.length ≤ 1000 → Q (.im (.str y)) := fun y hy => q _ ⟨rfl, fun y e => by cases e; exact hy⟩
  have e2 : 1003 ≤ sizeLine := by decide
  have c1 : ∀ (lo hi : Option Int), (cutS z lo hi).length ≤ z.length := fun lo hi => cutS_length z lo hi
  unfold w_law_spoiled
  walk_at "pl"
  refine ⟨mulok_r (by decide), by decide, by decide, mulok_r (by decide), by decide, z.length, if_pos (by omega), by omega, sign_k c sc fun k => ⟨rfl, ?_⟩⟩
  have h1 := c1 none (some (((c * 30323).fmod 65581).fmod ((z.length : Int) + 1)))
  have h2 := c1 (some (((c * 30323).fmod 65581).fmod ((z.length : Int) + 1))) none
  have h3 := c1 (some (((c * 30323).fmod 65581).fmod ((z.length : Int) + 1) + 1)) none
  have hk := sg_len k
  split
  · refine ⟨by omega, _, rfl, by omega, by omega, by rw [len_app]; omega, qs _ ?_⟩
    rw [len_app, len_app]; omega
  · split
    · refine ⟨by omega, by omega, by omega, qs _ ?_⟩
      rw [len_app]; omega
    · split
      · refine ⟨by omega, _, rfl, by omega, by omega, by rw [len_app]; omega, qs _ ?_⟩
        rw [len_app, len_app]; omega
      · split
        · exact odd_ok c sc fun d hd => ⟨rfl, q d hd⟩
        · exact qs _ (by omega)
theorem numF_enc' {d : D} (h : numF d = true) : ∃ x : Rat, d = FK.enc .fr x := by
  unfold numF at h
  split at h
  · rename_i n b
    obtain ⟨h1, h2⟩ := of_decide_eq_true h
    refine ⟨⟨n, b.toNat, by omega, ?_⟩, ?_⟩
    · show Nat.gcd n.natAbs b.toNat = 1
      rw [show b.toNat = b.natAbs by omega]
      exact h2
    · show D.tup [.int n, .int b] = .tup [.int n, .int (b.toNat : Int)]
      rw [Int.toNat_of_nonneg (by omega)]
  · cases h
theorem read_enc {N : FK} {d x : D} (h : readV N d = some x) : ∃ y : N.T, x = N.enc y := by
  cases N with
  | fr =>
    cases d with
    | str z =>
      rw [read_fr] at h
      generalize (Txt.split (bodyF z) "/").map figV = ns at h
      match ns with
      | [] => cases h
      | [none] => cases h
      | [some n] =>
        have h : (if decide (neg z) = true ∧ n = 0 then none else some (D.tup [.int (sgn (decide (neg z)) n), .int 1])) = some x := h
        split at h
        · cases h
        · cases h
          exact numF_enc' (decide_eq_true ⟨by decide, by simp⟩)
      | [none, y] => cases y <;> cases h
      | [some n, none] => cases h
      | [some n, some m] =>
        have h : (if (decide (neg z) = true ∧ n = 0) ∨ m < 2 ∨ Int.gcd n m ≠ 1 then none else some (D.tup [.int (sgn (decide (neg z)) n), .int m])) = some x := h
        split at h
        · cases h
        · rename_i hc
          cases h
          refine numF_enc' (decide_eq_true ⟨?_, ?_⟩)
          · have : ¬ m < 2 := fun h => hc (Or.inr (Or.inl h))
            omega
          · rw [gcd_sgn]
            exact Decidable.byContradiction fun h => hc (Or.inr (Or.inr h))
      | a :: b :: w :: r =>
        rw [toldF_two (by rw [List.length_cons]; omega)] at h
        cases h
    | _ => cases h
  | rs P =>
    cases d with
    | str z =>
      have h : (match figV z with
        | some n => if (n : Int) < P.p then some (D.int n) else none
        | none => none) = some x := h
      cases hf : figV z with
      | none => rw [hf] at h; cases h
      | some n =>
        rw [hf] at h
        simp only at h
        split at h
        · rename_i hl
          cases h
          have := P.n_eq
          exact ⟨⟨n, by omega⟩, rfl⟩
        · cases h
    | _ => cases h
theorem told_ok {N : FK} {d : D} (hd : d.ty.isSome = true) (hz : ∀ z, d = .str z → TxOk z) {Q : O → Prop} {E : Ex → Prop} (q : Q (.im ((readV N d).getD .non))) : R_law_told.run [.int N.code, d] Q E := ⟨⟨N, d⟩, rfl, ⟨hd, hz⟩, q⟩
theorem isN_enc {N : FK} (y : N.T) : D.isN (N.enc y) = some false := by
  cases N <;> rfl
theorem p_law_right : Keeps N_law_right w_law_right R_law_right := by
  rintro ds Q E ⟨⟨N, d⟩, rfl, ⟨hd, hz⟩, q⟩
  simp only at hd hz
  have q : Q (O.t true) := q
  unfold w_law_right
  walk_at "pl"
  refine told_ok hd hz ⟨rfl, read_ok hd hz (fun x hx => ⟨rfl, ?_⟩) (fun hx => ⟨rfl, ?_⟩)⟩
  · obtain ⟨y, rfl⟩ := read_enc hx
    rw [hx]
    refine ⟨rfl, false, isN_enc y, true, rfl, ite_yes rfl ⟨rfl, true, rfl, true, rfl, ite_yes rfl ⟨⟨N, y, y⟩, rfl, trivial, rfl, ?_⟩⟩⟩
    simp only [decide_true]
    exact q
  · rw [hx]
    refine ⟨rfl, true, rfl, false, rfl, ite_no (by decide) ⟨fun _ => false, rfl, rfl, rfl, rfl, rfl, rfl, rfl, rfl, ite_no (by decide) ⟨rfl, ite_yes rfl ⟨rfl, q⟩⟩⟩⟩
theorem p_law : Keeps N_law w_law R_law := by
  rintro ds Q E ⟨ns, rfl, hS, q⟩
  have q : Q (O.t true) := q
  have hl := hS.1
  have hc := hS.cs
  unfold w_law R_law_prime C.R_law_prime
  walk_at "pl"
  rw [take63 hl, cells1, cells1D]
  have el : (ns ++ [0]).length = ns.length + 1 := by simp
  generalize ns ++ [0] = cs at el hc
  refine ⟨szL (by omega), szL (by decide), szL (by omega), _, cell_get (i := 0) (by omega), ⟨_, rfl⟩, fun N => kind_ok N ⟨rfl, ?_⟩⟩
  refine TX.forI_allX (l := cs) (v := O.i) (fun _ => true) (fun S => ∃ s4 s5 s6 s7, S = [some (.im (.scr ns)), some (.im (.lst (cs.map D.int))), some (.im (.int N.code)), some (.im (.kd (.b N.k))), s4, s5, s6, s7]) (fun _ => False) (fun _ => False) ⟨_, _, _, _, rfl⟩ (fun c S hcs => ?_) (fun S h => ?_) (fun _ _ h => h.elim) (fun _ _ _ h => h.elim)
  · rintro ⟨s4, s5, s6, s7, rfl⟩
    have sc : Sz 1048577 c := hc.sz c hcs
    unfold wb_law_1
    walk_at "pl"
    refine ⟨⟨N, c⟩, rfl, sc, fun d ⟨x, sx, ed⟩ => ?_⟩
    subst ed
    have hsh := shown_len sx
    have hT : ∀ y : Str, D.str (shown N x) = .str y → TxOk y := fun y e => by
      cases e
      exact Nat.le_trans hsh (by decide)
    refine ⟨rfl, ⟨N, x⟩, rfl, sx, rfl, ⟨N, x⟩, rfl, sx, rfl, _, rfl, ite_no (by decide) ?_⟩
    show ∃ b, O.t (true ^^ decide (shown N x = shown N x)) = O.t b ∧ _
    refine ⟨false, by simp, ite_no (by decide) ⟨⟨N, .str (shown N x)⟩, rfl, ⟨rfl, hT⟩, true, rfl, ite_no (by decide) ⟨⟨shown N x, c⟩, rfl, ⟨Nat.le_trans hsh (by decide), sc⟩, fun d hd => ⟨⟨N, d⟩, rfl, hd, ?_⟩⟩⟩⟩
    exact ⟨.inl rfl, true, rfl, ite_no (by decide) trivial⟩
  · rintro ⟨s4, s5, s6, s7, rfl⟩
    exact q
theorem r_law : ∀ ns, Scr ns → R_law.run [.scr ns] (fun o => o = O.t true) (fun _ => False) := fun ns h => ⟨ns, rfl, h, rfl⟩
end PL.K81

namespace PL.K81
open PySem PySem.Spec L2

def top (i : Nat) : Stmt := PySem.Challenge.pw_turnframe_k81_numbers_as_texts.main.body.getD i (.Pass ⟨0, 0, 0, 0⟩)
abbrev s_is_whole : Stmt := top 12
abbrev M_is_whole : List Str := ["thing"]
theorem sc_is_whole : FnScope M_is_whole ["thing"] (defScope s_is_whole) := ⟨rfl, rfl, rfl, by decide +kernel, rfl, by decide +kernel, by decide +kernel⟩
abbrev s_divisor : Stmt := top 13
abbrev M_divisor : List Str := ["one", "other"]
theorem sc_divisor : FnScope M_divisor ["one", "other"] (defScope s_divisor) := ⟨rfl, rfl, rfl, by decide +kernel, rfl, by decide +kernel, by decide +kernel⟩
abbrev s_is_prime : Stmt := top 15
abbrev M_is_prime : List Str := ["number", "by"]
theorem sc_is_prime : FnScope M_is_prime ["number"] (defScope s_is_prime) := ⟨rfl, rfl, rfl, by decide +kernel, rfl, by decide +kernel, by decide +kernel⟩
abbrev s_figures : Stmt := top 24
abbrev M_figures : List Str := ["text", "sign"]
theorem sc_figures : FnScope M_figures ["text"] (defScope s_figures) := ⟨rfl, rfl, rfl, by decide +kernel, rfl, by decide +kernel, by decide +kernel⟩
abbrev s_show_number : Stmt := top 28
abbrev M_show_number : List Str := ["kind", "number", "top", "bottom"]
theorem sc_show_number : FnScope M_show_number ["kind", "number"] (defScope s_show_number) := ⟨rfl, rfl, rfl, by decide +kernel, rfl, by decide +kernel, by decide +kernel⟩
abbrev s_law_whole : Stmt := top 30
abbrev M_law_whole : List Str := ["_law_found"]
theorem sc_law_whole : FnScope M_law_whole ["_law_found"] (defScope s_law_whole) := ⟨rfl, rfl, rfl, by decide +kernel, rfl, by decide +kernel, by decide +kernel⟩
abbrev s_law_divisor : Stmt := top 31
abbrev M_law_divisor : List Str := ["_law_one", "_law_other"]
theorem sc_law_divisor : FnScope M_law_divisor ["_law_one", "_law_other"] (defScope s_law_divisor) := ⟨rfl, rfl, rfl, by decide +kernel, rfl, by decide +kernel, by decide +kernel⟩
abbrev s_law_is_prime : Stmt := top 32
abbrev M_law_is_prime : List Str := ["_law_number", "_law_by"]
theorem sc_law_is_prime : FnScope M_law_is_prime ["_law_number"] (defScope s_law_is_prime) := ⟨rfl, rfl, rfl, by decide +kernel, rfl, by decide +kernel, by decide +kernel⟩
abbrev s_law_shown : Stmt := top 37
abbrev M_law_shown : List Str := ["_law_prime_here", "_law_number"]
theorem sc_law_shown : FnScope M_law_shown ["_law_prime_here", "_law_number"] (defScope s_law_shown) := ⟨rfl, rfl, rfl, by decide +kernel, rfl, by decide +kernel, by decide +kernel⟩
abbrev s_law_sign : Stmt := top 38
abbrev M_law_sign : List Str := ["_law_cell", "_law_some"]
theorem sc_law_sign : FnScope M_law_sign ["_law_cell"] (defScope s_law_sign) := ⟨rfl, rfl, rfl, by decide +kernel, rfl, by decide +kernel, by decide +kernel⟩
abbrev s_law_odd : Stmt := top 39
abbrev M_law_odd : List Str := ["_law_cell", "_law_some"]
theorem sc_law_odd : FnScope M_law_odd ["_law_cell"] (defScope s_law_odd) := ⟨rfl, rfl, rfl, by decide +kernel, rfl, by decide +kernel, by decide +kernel⟩
abbrev s_law_figures : Stmt := top 41
abbrev M_law_figures : List Str := ["_law_text", "_law_sign_here"]
theorem sc_law_figures : FnScope M_law_figures ["_law_text"] (defScope s_law_figures) := ⟨rfl, rfl, rfl, by decide +kernel, rfl, by decide +kernel, by decide +kernel⟩
abbrev s_Fractions_is_number : Stmt := inClass (top 19) 4
abbrev M_Fractions_is_number : List Str := ["self", "thing"]
theorem sc_Fractions_is_number : FnScope M_Fractions_is_number ["self", "thing"] (defScope s_Fractions_is_number) := ⟨rfl, rfl, rfl, by decide +kernel, rfl, by decide +kernel, by decide +kernel⟩
abbrev s_Rests_init : Stmt := inClass (top 20) 0
theorem sc_Rests_init : FnScope ["self", "prime"] ["self", "prime"] (defScope s_Rests_init) := ⟨rfl, rfl, rfl, by decide +kernel, rfl, by decide +kernel, by decide +kernel⟩
abbrev s_Rests_is_number : Stmt := inClass (top 20) 5
abbrev M_Rests_is_number : List Str := ["self", "thing"]
theorem sc_Rests_is_number : FnScope M_Rests_is_number ["self", "thing"] (defScope s_Rests_is_number) := ⟨rfl, rfl, rfl, by decide +kernel, rfl, by decide +kernel, by decide +kernel⟩
abbrev s_whole : Stmt := top 25
abbrev M_whole : List Str := ["text", "number"]
theorem sc_whole : FnScope M_whole ["text"] (defScope s_whole) := ⟨rfl, rfl, rfl, by decide +kernel, rfl, by decide +kernel, by decide +kernel⟩
abbrev s_law_prime : Stmt := top 33
abbrev M_law_prime : List Str := ["_law_cell", "_law_number"]
theorem sc_law_prime : FnScope M_law_prime ["_law_cell"] (defScope s_law_prime) := ⟨rfl, rfl, rfl, by decide +kernel, rfl, by decide +kernel, by decide +kernel⟩
abbrev s_law_lowest : Stmt := top 35
abbrev M_law_lowest : List Str := ["_law_top", "_law_bottom", "_law_by"]
theorem sc_law_lowest : FnScope M_law_lowest ["_law_top", "_law_bottom"] (defScope s_law_lowest) := ⟨rfl, rfl, rfl, by decide +kernel, rfl, by decide +kernel, by decide +kernel⟩
abbrev s_law_spoiled : Stmt := top 40
abbrev M_law_spoiled : List Str := ["_law_text", "_law_cell", "_law_way", "_law_at", "_law_sign_here"]
theorem sc_law_spoiled : FnScope M_law_spoiled ["_law_text", "_law_cell"] (defScope s_law_spoiled) := ⟨rfl, rfl, rfl, by decide +kernel, rfl, by decide +kernel, by decide +kernel⟩
abbrev s_law_told : Stmt := top 42
abbrev M_law_told : List Str := ["_law_prime_here", "_law_text", "_law_body", "_law_halves", "_law_numbers", "_law_bottom", "_law_half"]
theorem sc_law_told : FnScope M_law_told ["_law_prime_here", "_law_text"] (defScope s_law_told) := ⟨rfl, rfl, rfl, by decide +kernel, rfl, by decide +kernel, by decide +kernel⟩
abbrev s_law_number_is : Stmt := top 43
abbrev M_law_number_is : List Str := ["_law_prime_here", "_law_found", "_law_due"]
theorem sc_law_number_is : FnScope M_law_number_is ["_law_prime_here", "_law_found", "_law_due"] (defScope s_law_number_is) := ⟨rfl, rfl, rfl, by decide +kernel, rfl, by decide +kernel, by decide +kernel⟩
abbrev s_read_fraction : Stmt := top 26
abbrev M_read_fraction : List Str := ["kind", "text", "top", "stroke", "bottom", "number"]
theorem sc_read_fraction : FnScope M_read_fraction ["kind", "text"] (defScope s_read_fraction) := ⟨rfl, rfl, rfl, by decide +kernel, rfl, by decide +kernel, by decide +kernel⟩
abbrev s_law_drawn : Stmt := top 36
abbrev M_law_drawn : List Str := ["_law_prime_here", "_law_cell", "_law_top"]
theorem sc_law_drawn : FnScope M_law_drawn ["_law_prime_here", "_law_cell"] (defScope s_law_drawn) := ⟨rfl, rfl, rfl, by decide +kernel, rfl, by decide +kernel, by decide +kernel⟩
abbrev s_read_number : Stmt := top 27
abbrev M_read_number : List Str := ["kind", "text", "number"]
theorem sc_read_number : FnScope M_read_number ["kind", "text"] (defScope s_read_number) := ⟨rfl, rfl, rfl, by decide +kernel, rfl, by decide +kernel, by decide +kernel⟩
abbrev s_law_kind : Stmt := top 34
abbrev M_law_kind : List Str := ["_law_prime_here"]
theorem sc_law_kind : FnScope M_law_kind ["_law_prime_here"] (defScope s_law_kind) := ⟨rfl, rfl, rfl, by decide +kernel, rfl, by decide +kernel, by decide +kernel⟩
abbrev s_law_right : Stmt := top 44
abbrev M_law_right : List Str := ["_law_kind_here", "_law_prime_here", "_law_text", "_law_due", "_law_error", "_law_found", "e"]
theorem sc_law_right : FnScope M_law_right ["_law_kind_here", "_law_prime_here", "_law_text"] (defScope s_law_right) := ⟨rfl, rfl, rfl, by decide +kernel, rfl, by decide +kernel, by decide +kernel⟩
abbrev s_law : Stmt := top 45
abbrev M_law : List Str := ["_law_script", "_law_cells", "_law_prime_here", "_law_kind_here", "_law_cell", "_law_number", "_law_text", "_law_found"]
theorem sc_law : FnScope M_law ["_law_script"] (defScope s_law) := ⟨rfl, rfl, rfl, by decide +kernel, rfl, by decide +kernel, by decide +kernel⟩
structure Txt (K : PySem.W.Frag) (mg : Str → Option Value) (G : Gx) : Prop where
  hK : K = G.K
  b_ValueError : mg "ValueError" = none
  b_abs : mg "abs" = none
  b_bool : mg "bool" = none
  b_int : mg "int" = none
  b_isinstance : mg "isinstance" = none
  b_len : mg "len" = none
  b_str : mg "str" = none
  b_tuple : mg "tuple" = none
  c_FIGURES : ∃ t, mg "FIGURES" = some (.str "0123456789" t)
  c_LONGEST : ∃ t, mg "LONGEST" = some (.int 60 t)
  c_MOST : ∃ t, mg "MOST" = some (.int 1000000 t)
  g_Fractions : mg "Fractions" = some (Tc.u G .cf)
  g_FrameError : mg "FrameError" = some (Tc.u G .fe)
  g_NoFit : mg "NoFit" = some (Tc.u G (.x .fit))
  g_NoInverse : mg "NoInverse" = some (Tc.u G (.x .inverse))
  g_NoKind : mg "NoKind" = some (Tc.u G (.x .kind))
  g_NoName : mg "NoName" = some (Tc.u G (.x .name))
  g_NoNumber : mg "NoNumber" = some (Tc.u G (.x .number))
  g_NoRow : mg "NoRow" = some (Tc.u G (.x .row))
  g_NoText : mg "NoText" = some (Tc.u G (.x .text))
  g_NoTurn : mg "NoTurn" = some (Tc.u G (.x .turn))
  i_Fractions : IsF K G UX UK .cf
  i_NoFit : IsF K G UX UK (.x .fit)
  j_NoFit : IsF K G UX [] (.x .fit)
  i_NoInverse : IsF K G UX UK (.x .inverse)
  j_NoInverse : IsF K G UX [] (.x .inverse)
  i_NoKind : IsF K G UX UK (.x .kind)
  j_NoKind : IsF K G UX [] (.x .kind)
  i_NoName : IsF K G UX UK (.x .name)
  j_NoName : IsF K G UX [] (.x .name)
  i_NoNumber : IsF K G UX UK (.x .number)
  j_NoNumber : IsF K G UX [] (.x .number)
  i_NoRow : IsF K G UX UK (.x .row)
  j_NoRow : IsF K G UX [] (.x .row)
  i_NoText : IsF K G UX UK (.x .text)
  i_NoTurn : IsF K G UX UK (.x .turn)
  j_NoTurn : IsF K G UX [] (.x .turn)
  i_ValueError : IsF K G UX UK .ve
  x_NoKind : XOk K mg "NoKind" (G.xs .kind)
  x_NoText : XOk K mg "NoText" (G.xs .text)
  tryF : TryF K mg G UX
  clF : Cls K (G.CF)
  clR : Cls K (G.CR)
  noPrime : NoAttr K G.CR "prime"
  mk_Fr : Mk0 K mg "Fractions" G.CF
  mk_Rs : ∃ f fd, Mk K G.CR f ∧ Fun K "__init__" "Rests.__init__" s_Rests_init f fd ∧ mg "Rests" = some (.ref G.CR)
  a_is_whole : AtD K mg "is_whole" "is_whole" s_is_whole
  a_divisor : AtD K mg "divisor" "divisor" s_divisor
  a_is_prime : AtD K mg "is_prime" "is_prime" s_is_prime
  a_figures : AtD K mg "figures" "figures" s_figures
  a_show_number : AtD K mg "show_number" "show_number" s_show_number
  a_law_whole : AtD K mg "_law_whole" "_law_whole" s_law_whole
  a_law_divisor : AtD K mg "_law_divisor" "_law_divisor" s_law_divisor
  a_law_is_prime : AtD K mg "_law_is_prime" "_law_is_prime" s_law_is_prime
  a_law_shown : AtD K mg "_law_shown" "_law_shown" s_law_shown
  a_law_sign : AtD K mg "_law_sign" "_law_sign" s_law_sign
  a_law_odd : AtD K mg "_law_odd" "_law_odd" s_law_odd
  a_law_figures : AtD K mg "_law_figures" "_law_figures" s_law_figures
  a_Fractions_is_number : AtM K [G.CF] "is_number" "Fractions.is_number" s_Fractions_is_number
  a_Rests_is_number : AtM K [G.CR] "is_number" "Rests.is_number" s_Rests_is_number
  a_whole : AtD K mg "whole" "whole" s_whole
  a_law_prime : AtD K mg "_law_prime" "_law_prime" s_law_prime
  a_law_lowest : AtD K mg "_law_lowest" "_law_lowest" s_law_lowest
  a_law_spoiled : AtD K mg "_law_spoiled" "_law_spoiled" s_law_spoiled
  a_law_told : AtD K mg "_law_told" "_law_told" s_law_told
  a_law_number_is : AtD K mg "_law_number_is" "_law_number_is" s_law_number_is
  a_read_fraction : AtD K mg "read_fraction" "read_fraction" s_read_fraction
  a_law_drawn : AtD K mg "_law_drawn" "_law_drawn" s_law_drawn
  a_read_number : AtD K mg "read_number" "read_number" s_read_number
  a_law_kind : AtD K mg "_law_kind" "_law_kind" s_law_kind
  a_law_right : AtD K mg "_law_right" "_law_right" s_law_right
section
variable {P : Program} {w : World} {K : PySem.W.Frag} {mg : Str → Option Value} {base : Heap} {G : Gx}
set_option maxRecDepth 100000 in
set_option maxHeartbeats 0 in
theorem d_is_whole (T : Txt K mg G) : DOk P w K mg base "is_whole" 1 G R_is_whole :=
  d_of T.a_is_whole sc_is_whole (fun f fd F => F.binds (ps := ["thing"]) fun _ _ _ _ _ _ us hl => match us, hl with | [_], _ => rfl) (fun ds Q E h => by first | (obtain ⟨a, rfl, _⟩ := h; rfl; done) | (rcases h with ⟨a, rfl, _⟩ | ⟨a, rfl, _⟩ <;> rfl))
  (fun f cdv A outer s H F0 E hr => by
    unfold w_is_whole
    exact (ss_one (ss_ret (se_and (se_isi (T := "int") T.hK T.b_isinstance T.b_int (by decide +kernel) (by decide) (se_V 0)) (se_one (se_not (se_isi (T := "bool") T.hK T.b_isinstance T.b_bool (by decide +kernel) (by decide) (se_V 0)))))))) p_is_whole
set_option maxRecDepth 100000 in
set_option maxHeartbeats 0 in
theorem d_divisor (T : Txt K mg G) : DOk P w K mg base "divisor" 1 G R_divisor :=
  d_of T.a_divisor sc_divisor (fun f fd F => F.binds (ps := ["one", "other"]) fun _ _ _ _ _ _ us hl => match us, hl with | [_, _], _ => rfl) (fun ds Q E h => by first | (obtain ⟨a, rfl, _⟩ := h; rfl; done) | (rcases h with ⟨a, rfl, _⟩ | ⟨a, rfl, _⟩ <;> rfl))
  (fun f cdv A outer s H F0 E hr => by
    unfold w_divisor
    exact (ss_cons (ss_while (passes_of rfl) (st_ne hr.units (se_V 1) se_int)
  (ss_one (ss_par (i := 0) (j := 1) rfl sc_divisor.nd rfl rfl (by decide) rfl rfl (sa_cons (se_V 1) (sa_cons (se_mod (se_V 0) (se_V 1)) sa_nil)) (by rfl))))
  (ss_one (ss_ret (se_abs T.b_abs (sa_cons (se_V 0) sa_nil)))))) p_divisor
set_option maxRecDepth 100000 in
set_option maxHeartbeats 0 in
theorem d_is_prime (T : Txt K mg G) : DOk P w K mg base "is_prime" 1 G R_is_prime :=
  d_of T.a_is_prime sc_is_prime (fun f fd F => F.binds (ps := ["number"]) fun _ _ _ _ _ _ us hl => match us, hl with | [_], _ => rfl) (fun ds Q E h => by first | (obtain ⟨a, rfl, _⟩ := h; rfl; done) | (rcases h with ⟨a, rfl, _⟩ | ⟨a, rfl, _⟩ <;> rfl))
  (fun f cdv A outer s H F0 E hr => by
    unfold w_is_prime
    exact (ss_cons (ss_if (st_lt (se_V 0) se_int)
  (ss_one (ss_ret se_bl))
  ss_nil)
  (ss_cons (ss_set (i := 1) (g := gF 1) (Or.inr rfl) sc_is_prime.nd rfl (Or.inl rfl) se_int)
  (ss_cons (ss_while (passes_of rfl) (st_le (se_mul (se_V 1) (se_V 1)) (se_V 0))
  (ss_cons (ss_if (st_eq hr.units (se_mod (se_V 0) (se_V 1)) se_int)
  (ss_one (ss_ret se_bl))
  ss_nil)
  (ss_one (ss_aug (i := 1) sc_is_prime.nd rfl (Or.inl rfl) se_int ip_add))))
  (ss_one (ss_ret se_bl)))))) p_is_prime
set_option maxRecDepth 100000 in
set_option maxHeartbeats 0 in
theorem d_figures (T : Txt K mg G) : DOk P w K mg base "figures" 1 G R_figures :=
  d_of T.a_figures sc_figures (fun f fd F => F.binds (ps := ["text"]) fun _ _ _ _ _ _ us hl => match us, hl with | [_], _ => rfl) (fun ds Q E h => by first | (obtain ⟨a, rfl, _⟩ := h; rfl; done) | (rcases h with ⟨a, rfl, _⟩ | ⟨a, rfl, _⟩ <;> rfl))
  (fun f cdv A outer s H F0 E hr => by
    unfold w_figures
    exact (ss_cons (ss_if (sw_1 (sw_or (st_not (st_ch op_le op_le se_int (se_len T.hK T.b_len (sa_cons (se_V 0) sa_nil)) (se_gint T.c_LONGEST))) (sw_or1 (sw_1 (sw_and (st_eq hr.units (se_ixS (se_V 0) se_int (fun _ _ => rfl)) se_str) (sw_and1 (st_gt (se_len T.hK T.b_len (sa_cons (se_V 0) sa_nil)) se_int)))))))
  (ss_one (ss_raise (e := .text) rfl (takes_of rfl rfl rfl rfl) T.x_NoText rfl))
  ss_nil)
  (ss_cons (ss_for (passes_of rfl) rfl (si_str (se_V 0)) (sg_F (i := 1) sc_figures.nd rfl (Or.inl rfl))
  (ss_one (ss_if (st_notInSg (se_V 1) (se_gstr T.c_FIGURES))
  (ss_one (ss_raise (e := .text) rfl (takes_of rfl rfl rfl rfl) T.x_NoText rfl))
  ss_nil)))
  (ss_one (ss_ret (se_intS T.b_int (sa_cons (se_V 0) sa_nil))))))) p_figures
set_option maxRecDepth 100000 in
set_option maxHeartbeats 0 in
theorem d_show_number (T : Txt K mg G) : DOk P w K mg base "show_number" 1 G R_show_number :=
  d_of T.a_show_number sc_show_number (fun f fd F => F.binds (ps := ["kind", "number"]) fun _ _ _ _ _ _ us hl => match us, hl with | [_, _], _ => rfl) (fun ds Q E h => by first | (obtain ⟨a, rfl, _⟩ := h; rfl; done) | (rcases h with ⟨a, rfl, _⟩ | ⟨a, rfl, _⟩ <;> rfl))
  (fun f cdv A outer s H F0 E hr => by
    unfold w_show_number
    exact (ss_cons (ss_if (st_not (st_val (se_isX (t := .cf) (ns := UX) (ks := UK) T.hK T.b_isinstance (.inr T.g_Fractions) T.i_Fractions (se_V 0))))
  (ss_one (ss_ret (se_strc T.b_str (sa_cons (se_V 1) sa_nil))))
  ss_nil)
  (ss_cons (ss_asg (se_V 1) (sg_T rfl (sgs_cons (sg_F (i := 2) sc_show_number.nd rfl (Or.inl rfl)) (sgs_cons (sg_F (i := 3) sc_show_number.nd rfl (Or.inl rfl)) sgs_nil))))
  (ss_cons (ss_if (st_eq hr.units (se_V 3) se_int)
  (ss_one (ss_ret (se_strc T.b_str (sa_cons (se_V 2) sa_nil))))
  ss_nil)
  (ss_one (ss_ret (se_f3 (se_V 2) (se_V 3)))))))) p_show_number
set_option maxRecDepth 100000 in
set_option maxHeartbeats 0 in
theorem d_law_whole (T : Txt K mg G) : DOk P w K mg base "_law_whole" 1 G R_law_whole :=
  d_of T.a_law_whole sc_law_whole (fun f fd F => F.binds (ps := ["_law_found"]) fun _ _ _ _ _ _ us hl => match us, hl with | [_], _ => rfl) (fun ds Q E h => by first | (obtain ⟨a, rfl, _⟩ := h; rfl; done) | (rcases h with ⟨a, rfl, _⟩ | ⟨a, rfl, _⟩ <;> rfl))
  (fun f cdv A outer s H F0 E hr => by
    unfold w_law_whole
    exact (ss_one (ss_ret (se_and (se_isi (T := "int") T.hK T.b_isinstance T.b_int (by decide +kernel) (by decide) (se_V 0)) (se_one (se_not (se_isi (T := "bool") T.hK T.b_isinstance T.b_bool (by decide +kernel) (by decide) (se_V 0)))))))) p_law_whole
set_option maxRecDepth 100000 in
set_option maxHeartbeats 0 in
theorem d_law_divisor (T : Txt K mg G) : DOk P w K mg base "_law_divisor" 1 G R_law_divisor :=
  d_of T.a_law_divisor sc_law_divisor (fun f fd F => F.binds (ps := ["_law_one", "_law_other"]) fun _ _ _ _ _ _ us hl => match us, hl with | [_, _], _ => rfl) (fun ds Q E h => by first | (obtain ⟨a, rfl, _⟩ := h; rfl; done) | (rcases h with ⟨a, rfl, _⟩ | ⟨a, rfl, _⟩ <;> rfl))
  (fun f cdv A outer s H F0 E hr => by
    unfold w_law_divisor
    exact (ss_cons (ss_while (passes_of rfl) (st_ne hr.units (se_V 1) se_int)
  (ss_one (ss_par (i := 0) (j := 1) rfl sc_law_divisor.nd rfl rfl (by decide) rfl rfl (sa_cons (se_V 1) (sa_cons (se_mod (se_V 0) (se_V 1)) sa_nil)) (by rfl))))
  (ss_one (ss_ret (se_abs T.b_abs (sa_cons (se_V 0) sa_nil)))))) p_law_divisor
set_option maxRecDepth 100000 in
set_option maxHeartbeats 0 in
theorem d_law_is_prime (T : Txt K mg G) : DOk P w K mg base "_law_is_prime" 1 G R_law_is_prime :=
  d_of T.a_law_is_prime sc_law_is_prime (fun f fd F => F.binds (ps := ["_law_number"]) fun _ _ _ _ _ _ us hl => match us, hl with | [_], _ => rfl) (fun ds Q E h => by first | (obtain ⟨a, rfl, _⟩ := h; rfl; done) | (rcases h with ⟨a, rfl, _⟩ | ⟨a, rfl, _⟩ <;> rfl))
  (fun f cdv A outer s H F0 E hr => by
    unfold w_law_is_prime
    exact (ss_cons (ss_set (i := 1) (g := gF 1) (Or.inr rfl) sc_law_is_prime.nd rfl (Or.inl rfl) se_int)
  (ss_cons (ss_while (passes_of rfl) (st_le (se_mul (se_V 1) (se_V 1)) (se_V 0))
  (ss_cons (ss_if (st_eq hr.units (se_mod (se_V 0) (se_V 1)) se_int)
  (ss_one (ss_ret se_bl))
  ss_nil)
  (ss_one (ss_set (i := 1) (g := gF 1) (Or.inr rfl) sc_law_is_prime.nd rfl (Or.inl rfl) (se_add (se_V 1) se_int)))))
  (ss_one (ss_ret (se_gt (se_V 0) se_int)))))) p_law_is_prime
set_option maxRecDepth 100000 in
set_option maxHeartbeats 0 in
theorem d_law_shown (T : Txt K mg G) : DOk P w K mg base "_law_shown" 1 G R_law_shown :=
  d_of T.a_law_shown sc_law_shown (fun f fd F => F.binds (ps := ["_law_prime_here", "_law_number"]) fun _ _ _ _ _ _ us hl => match us, hl with | [_, _], _ => rfl) (fun ds Q E h => by first | (obtain ⟨a, rfl, _⟩ := h; rfl; done) | (rcases h with ⟨a, rfl, _⟩ | ⟨a, rfl, _⟩ <;> rfl))
  (fun f cdv A outer s H F0 E hr => by
    unfold w_law_shown
    exact (ss_cons (ss_if (st_gt (se_V 0) se_int)
  (ss_one (ss_ret (se_strc T.b_str (sa_cons (se_V 1) sa_nil))))
  ss_nil)
  (ss_cons (ss_if (st_eq hr.units (se_sub' T.hK (se_V 1) se_int (fun _ _ => rfl)) se_int)
  (ss_one (ss_ret (se_strc T.b_str (sa_cons (se_sub' T.hK (se_V 1) se_int (fun _ _ => rfl)) sa_nil))))
  ss_nil)
  (ss_one (ss_ret (se_addS (se_addS (se_strc T.b_str (sa_cons (se_sub' T.hK (se_V 1) se_int (fun _ _ => rfl)) sa_nil)) se_str) (se_strc T.b_str (sa_cons (se_sub' T.hK (se_V 1) se_int (fun _ _ => rfl)) sa_nil)))))))) p_law_shown
set_option maxRecDepth 100000 in
set_option maxHeartbeats 0 in
theorem d_law_sign (T : Txt K mg G) : DOk P w K mg base "_law_sign" 1 G R_law_sign :=
  d_of T.a_law_sign sc_law_sign (fun f fd F => F.binds (ps := ["_law_cell"]) fun _ _ _ _ _ _ us hl => match us, hl with | [_], _ => rfl) (fun ds Q E h => by first | (obtain ⟨a, rfl, _⟩ := h; rfl; done) | (rcases h with ⟨a, rfl, _⟩ | ⟨a, rfl, _⟩ <;> rfl))
  (fun f cdv A outer s H F0 E hr => by
    unfold w_law_sign
    exact (ss_cons (ss_set (i := 1) (g := gF 1) (Or.inr rfl) sc_law_sign.nd rfl (Or.inl rfl) se_str)
  (ss_one (ss_ret (se_ixS (se_V 1) (se_mod (se_mod (se_mul (se_V 0) se_int) se_int) (se_len T.hK T.b_len (sa_cons (se_V 1) sa_nil))) (fun _ _ => rfl)))))) p_law_sign
set_option maxRecDepth 100000 in
set_option maxHeartbeats 0 in
theorem d_law_odd (T : Txt K mg G) : DOk P w K mg base "_law_odd" 1 G R_law_odd :=
  d_of T.a_law_odd sc_law_odd (fun f fd F => F.binds (ps := ["_law_cell"]) fun _ _ _ _ _ _ us hl => match us, hl with | [_], _ => rfl) (fun ds Q E h => by first | (obtain ⟨a, rfl, _⟩ := h; rfl; done) | (rcases h with ⟨a, rfl, _⟩ | ⟨a, rfl, _⟩ <;> rfl))
  (fun f cdv A outer s H F0 E hr => by
    unfold w_law_odd
    exact (ss_cons (ss_set (i := 1) (g := gF 1) (Or.inr rfl) sc_law_odd.nd rfl (Or.inl rfl) (se_L (sa_cons se_str (sa_cons se_str (sa_cons se_str (sa_cons se_str (sa_cons se_str (sa_cons se_str (sa_cons se_str (sa_cons se_str (sa_cons se_str (sa_cons se_str (sa_cons se_str (sa_cons se_str (sa_cons se_str (sa_cons se_str (sa_cons se_str (sa_cons se_str sa_nil))))))))))))))))))
  (ss_cons (ss_set (i := 1) (g := gF 1) (Or.inr rfl) sc_law_odd.nd rfl (Or.inl rfl) (se_cat (se_V 1) (se_L (sa_cons se_str (sa_cons se_str (sa_cons se_str (sa_cons se_str (sa_cons se_str (sa_cons se_non (sa_cons se_int (sa_cons (se_T (sa_cons se_int (sa_cons se_int sa_nil))) sa_nil)))))))))))
  (ss_one (ss_ret (se_sub' T.hK (se_V 1) (se_mod (se_mod (se_mul (se_V 0) se_int) se_int) se_int) (fun _ _ => rfl))))))) p_law_odd
set_option maxRecDepth 100000 in
set_option maxHeartbeats 0 in
theorem d_law_figures (T : Txt K mg G) : DOk P w K mg base "_law_figures" 1 G R_law_figures :=
  d_of T.a_law_figures sc_law_figures (fun f fd F => F.binds (ps := ["_law_text"]) fun _ _ _ _ _ _ us hl => match us, hl with | [_], _ => rfl) (fun ds Q E h => by first | (obtain ⟨a, rfl, _⟩ := h; rfl; done) | (rcases h with ⟨a, rfl, _⟩ | ⟨a, rfl, _⟩ <;> rfl))
  (fun f cdv A outer s H F0 E hr => by
    unfold w_law_figures
    exact (ss_cons (ss_if (sw_1 (sw_or (st_eq hr.units (se_V 0) se_str) (sw_or (st_gt (se_len T.hK T.b_len (sa_cons (se_V 0) sa_nil)) se_int) (sw_or1 (sw_1 (sw_and (st_gt (se_len T.hK T.b_len (sa_cons (se_V 0) sa_nil)) se_int) (sw_and1 (st_eq hr.units (se_ixS (se_V 0) se_int (fun _ _ => rfl)) se_str))))))))
  (ss_one (ss_ret se_non))
  ss_nil)
  (ss_cons (ss_for (passes_of rfl) rfl (si_str (se_V 0)) (sg_F (i := 1) sc_law_figures.nd rfl (Or.inl rfl))
  (ss_one (ss_if (st_notInSg (se_V 1) se_str)
  (ss_one (ss_ret se_non))
  ss_nil)))
  (ss_one (ss_ret (se_intS T.b_int (sa_cons (se_V 0) sa_nil))))))) p_law_figures
set_option maxRecDepth 100000 in
set_option maxHeartbeats 0 in
theorem dm_Fractions_is_number (T : Txt K mg G) : MDef P w K mg base 2 [G.CF] "is_number" G (R_is_number.on Kd.isFr) [] :=
  md_of T.a_Fractions_is_number sc_Fractions_is_number (fun f fd F => F.binds (ps := ["self", "thing"]) fun _ _ _ _ _ _ us hl => match us, hl with | [_, _], _ => rfl) (fun ds Q E h => by obtain ⟨_, a, rfl, _⟩ := h; rfl)
  (fun f cdv A outer s H F0 E hr => by
    unfold w_Fractions_is_number
    exact (ss_cons (ss_if (sw_1 (sw_or (st_not (st_val (se_isi (T := "tuple") T.hK T.b_isinstance T.b_tuple (by decide +kernel) (by decide) (se_V 1)))) (sw_or1 (st_ne hr.units (se_len T.hK T.b_len (sa_cons (se_V 1) sa_nil)) se_int))))
  (ss_one (ss_ret se_bl))
  ss_nil)
  (ss_cons (ss_if (sw_1 (sw_or (st_not (st_val (se_d (d_is_whole T) hr (by decide) (takes_of rfl rfl rfl rfl) (sa_cons (se_sub' T.hK (se_V 1) se_int (fun _ _ => rfl)) sa_nil)))) (sw_or1 (st_not (st_val (se_d (d_is_whole T) hr (by decide) (takes_of rfl rfl rfl rfl) (sa_cons (se_sub' T.hK (se_V 1) se_int (fun _ _ => rfl)) sa_nil)))))))
  (ss_one (ss_ret se_bl))
  ss_nil)
  (ss_one (ss_ret (se_and (se_gt (se_sub' T.hK (se_V 1) se_int (fun _ _ => rfl)) se_int) (se_one (se_eq hr.units (se_d (d_divisor T) hr (by decide) (takes_of rfl rfl rfl rfl) (sa_cons (se_sub' T.hK (se_V 1) se_int (fun _ _ => rfl)) (sa_cons (se_sub' T.hK (se_V 1) se_int (fun _ _ => rfl)) sa_nil))) se_int)))))))) p_Fractions_is_number
set_option maxRecDepth 100000 in
set_option maxHeartbeats 0 in
theorem mk_Rs (T : Txt K mg G) : MkR P w K mg base 2 G := by
  obtain ⟨f, fd, M, F, hm⟩ := T.mk_Rs
  refine ⟨f, fd, M, ok_init F sc_Rests_init T.clR T.noPrime rfl (fun cdv A outer s H F0 E hr => ?_) rfl rfl p_init, hm, F.binds (ps := ["self", "prime"]) fun _ _ _ _ _ _ us hl => match us, hl with | [_, _], _ => rfl⟩
  unfold wi_Rests_init
  exact (ss_if (sw_1 (sw_or (st_not (st_val (se_d (d_is_whole T) hr (by decide) (takes_of rfl rfl rfl rfl) (sa_cons (se_V 1) sa_nil)))) (sw_or (st_ge (se_V 1) (se_gint T.c_MOST)) (sw_or1 (st_not (st_val (se_d (d_is_prime T) hr (by decide) (takes_of rfl rfl rfl rfl) (sa_cons (se_V 1) sa_nil))))))))
  (ss_one (ss_raise (e := .kind) rfl (takes_of rfl rfl rfl rfl) T.x_NoKind rfl))
  ss_nil)
set_option maxRecDepth 100000 in
set_option maxHeartbeats 0 in
theorem dm_Rests_is_number (T : Txt K mg G) : MDef P w K mg base 2 [G.CR] "is_number" G (R_is_number.on Kd.isRs) [] :=
  md_of T.a_Rests_is_number sc_Rests_is_number (fun f fd F => F.binds (ps := ["self", "thing"]) fun _ _ _ _ _ _ us hl => match us, hl with | [_, _], _ => rfl) (fun ds Q E h => by obtain ⟨_, a, rfl, _⟩ := h; rfl)
  (fun f cdv A outer s H F0 E hr => by
    unfold w_Rests_is_number
    exact (ss_one (ss_ret (se_and (se_d (d_is_whole T) hr (by decide) (takes_of rfl rfl rfl rfl) (sa_cons (se_V 1) sa_nil)) (se_one (se_ch op_le op_lt se_int (se_V 1) (se_prime T.clR T.noPrime (se_V 0)))))))) p_Rests_is_number
set_option maxRecDepth 100000 in
set_option maxHeartbeats 0 in
theorem d_whole (T : Txt K mg G) : DOk P w K mg base "whole" 2 G R_whole :=
  d_of T.a_whole sc_whole (fun f fd F => F.binds (ps := ["text"]) fun _ _ _ _ _ _ us hl => match us, hl with | [_], _ => rfl) (fun ds Q E h => by first | (obtain ⟨a, rfl, _⟩ := h; rfl; done) | (rcases h with ⟨a, rfl, _⟩ | ⟨a, rfl, _⟩ <;> rfl))
  (fun f cdv A outer s H F0 E hr => by
    unfold w_whole
    exact (ss_cons (ss_if (st_ne hr.units (se_slS (se_V 0) so_none (so_some se_int)) se_str)
  (ss_one (ss_ret (se_d (d_figures T) hr (by decide) (takes_of rfl rfl rfl rfl) (sa_cons (se_V 0) sa_nil))))
  ss_nil)
  (ss_cons (ss_set (i := 1) (g := gF 1) (Or.inr rfl) sc_whole.nd rfl (Or.inl rfl) (se_d (d_figures T) hr (by decide) (takes_of rfl rfl rfl rfl) (sa_cons (se_slS (se_V 0) (so_some se_int) so_none) sa_nil)))
  (ss_cons (ss_if (st_eq hr.units (se_V 1) se_int)
  (ss_one (ss_raise (e := .text) rfl (takes_of rfl rfl rfl rfl) T.x_NoText rfl))
  ss_nil)
  (ss_one (ss_ret (se_neg (se_V 1)))))))) p_whole
set_option maxRecDepth 100000 in
set_option maxHeartbeats 0 in
theorem d_law_prime (T : Txt K mg G) : DOk P w K mg base "_law_prime" 2 G R_law_prime :=
  d_of T.a_law_prime sc_law_prime (fun f fd F => F.binds (ps := ["_law_cell"]) fun _ _ _ _ _ _ us hl => match us, hl with | [_], _ => rfl) (fun ds Q E h => by first | (obtain ⟨a, rfl, _⟩ := h; rfl; done) | (rcases h with ⟨a, rfl, _⟩ | ⟨a, rfl, _⟩ <;> rfl))
  (fun f cdv A outer s H F0 E hr => by
    unfold w_law_prime
    exact (ss_cons (ss_if (st_eq hr.units (se_mod (se_V 0) se_int) se_int)
  (ss_one (ss_ret se_int))
  ss_nil)
  (ss_cons (ss_set (i := 1) (g := gF 1) (Or.inr rfl) sc_law_prime.nd rfl (Or.inl rfl) (se_add se_int (se_mod (se_div (se_V 0) se_int) (se_sub' T.hK (se_L (sa_cons se_int (sa_cons se_int (sa_cons se_int sa_nil)))) (se_mod (se_V 0) se_int) (fun _ _ => rfl)))))
  (ss_cons (ss_while (passes_of rfl) (st_not (st_val (se_d (d_law_is_prime T) hr (by decide) (takes_of rfl rfl rfl rfl) (sa_cons (se_V 1) sa_nil))))
  (ss_one (ss_set (i := 1) (g := gF 1) (Or.inr rfl) sc_law_prime.nd rfl (Or.inl rfl) (se_add (se_V 1) se_int))))
  (ss_one (ss_retV 1)))))) p_law_prime
set_option maxRecDepth 100000 in
set_option maxHeartbeats 0 in
theorem d_law_lowest (T : Txt K mg G) : DOk P w K mg base "_law_lowest" 2 G R_law_lowest :=
  d_of T.a_law_lowest sc_law_lowest (fun f fd F => F.binds (ps := ["_law_top", "_law_bottom"]) fun _ _ _ _ _ _ us hl => match us, hl with | [_, _], _ => rfl) (fun ds Q E h => by first | (obtain ⟨a, rfl, _⟩ := h; rfl; done) | (rcases h with ⟨a, rfl, _⟩ | ⟨a, rfl, _⟩ <;> rfl))
  (fun f cdv A outer s H F0 E hr => by
    unfold w_law_lowest
    exact (ss_cons (ss_set (i := 2) (g := gF 2) (Or.inr rfl) sc_law_lowest.nd rfl (Or.inl rfl) (se_d (d_law_divisor T) hr (by decide) (takes_of rfl rfl rfl rfl) (sa_cons (se_V 0) (sa_cons (se_V 1) sa_nil))))
  (ss_one (ss_ret (se_T (sa_cons (se_div (se_V 0) (se_V 2)) (sa_cons (se_div (se_V 1) (se_V 2)) sa_nil))))))) p_law_lowest
set_option maxRecDepth 100000 in
set_option maxHeartbeats 0 in
theorem d_law_spoiled (T : Txt K mg G) : DOk P w K mg base "_law_spoiled" 2 G R_law_spoiled :=
  d_of T.a_law_spoiled sc_law_spoiled (fun f fd F => F.binds (ps := ["_law_text", "_law_cell"]) fun _ _ _ _ _ _ us hl => match us, hl with | [_, _], _ => rfl) (fun ds Q E h => by first | (obtain ⟨a, rfl, _⟩ := h; rfl; done) | (rcases h with ⟨a, rfl, _⟩ | ⟨a, rfl, _⟩ <;> rfl))
  (fun f cdv A outer s H F0 E hr => by
    unfold w_law_spoiled
    exact (ss_cons (ss_set (i := 2) (g := gF 2) (Or.inr rfl) sc_law_spoiled.nd rfl (Or.inl rfl) (se_mod (se_mod (se_mul (se_V 1) se_int) se_int) se_int))
  (ss_cons (ss_set (i := 3) (g := gF 3) (Or.inr rfl) sc_law_spoiled.nd rfl (Or.inl rfl) (se_mod (se_mod (se_mul (se_V 1) se_int) se_int) (se_add (se_len T.hK T.b_len (sa_cons (se_V 0) sa_nil)) se_int)))
  (ss_cons (ss_set (i := 4) (g := gF 4) (Or.inr rfl) sc_law_spoiled.nd rfl (Or.inl rfl) (se_d (d_law_sign T) hr (by decide) (takes_of rfl rfl rfl rfl) (sa_cons (se_V 1) sa_nil)))
  (ss_cons (ss_if (st_lt (se_V 2) se_int)
  (ss_one (ss_ret (se_addS (se_addS (se_slS (se_V 0) so_none (so_some (se_V 3))) (se_V 4)) (se_slS (se_V 0) (so_some (se_V 3)) so_none))))
  ss_nil)
  (ss_cons (ss_if (st_eq hr.units (se_V 2) se_int)
  (ss_one (ss_ret (se_addS (se_slS (se_V 0) so_none (so_some (se_V 3))) (se_slS (se_V 0) (so_some (se_add (se_V 3) se_int)) so_none))))
  ss_nil)
  (ss_cons (ss_if (st_lt (se_V 2) se_int)
  (ss_one (ss_ret (se_addS (se_addS (se_slS (se_V 0) so_none (so_some (se_V 3))) (se_V 4)) (se_slS (se_V 0) (so_some (se_add (se_V 3) se_int)) so_none))))
  ss_nil)
  (ss_cons (ss_if (st_eq hr.units (se_V 2) se_int)
  (ss_one (ss_ret (se_d (d_law_odd T) hr (by decide) (takes_of rfl rfl rfl rfl) (sa_cons (se_V 1) sa_nil))))
  ss_nil)
  (ss_one (ss_retV 0)))))))))) p_law_spoiled
set_option maxRecDepth 100000 in
set_option maxHeartbeats 0 in
theorem d_law_told (T : Txt K mg G) : DOk P w K mg base "_law_told" 2 G R_law_told :=
  d_of T.a_law_told sc_law_told (fun f fd F => F.binds (ps := ["_law_prime_here", "_law_text"]) fun _ _ _ _ _ _ us hl => match us, hl with | [_, _], _ => rfl) (fun ds Q E h => by first | (obtain ⟨a, rfl, _⟩ := h; rfl; done) | (rcases h with ⟨a, rfl, _⟩ | ⟨a, rfl, _⟩ <;> rfl))
  (fun f cdv A outer s H F0 E hr => by
    unfold w_law_told
    exact (ss_cons (ss_if (st_not (st_val (se_isi (T := "str") T.hK T.b_isinstance T.b_str (by decide +kernel) (by decide) (se_V 1))))
  (ss_one (ss_ret se_non))
  ss_nil)
  (ss_cons (ss_set (i := 2) (g := gF 2) (Or.inr rfl) sc_law_told.nd rfl (Or.inl rfl) (se_V 1))
  (ss_cons (ss_if (sw_1 (sw_and (st_eq hr.units (se_V 0) se_int) (sw_and1 (st_eq hr.units (se_slS (se_V 1) so_none (so_some se_int)) se_str))))
  (ss_one (ss_set (i := 2) (g := gF 2) (Or.inr rfl) sc_law_told.nd rfl (Or.inl rfl) (se_slS (se_V 1) (so_some se_int) so_none)))
  ss_nil)
  (ss_cons (ss_set (i := 3) (g := gF 3) (Or.inr rfl) sc_law_told.nd rfl (Or.inl rfl) (se_L (sa_cons (se_V 2) sa_nil)))
  (ss_cons (ss_if (st_eq hr.units (se_V 0) se_int)
  (ss_one (ss_set (i := 3) (g := gF 3) (Or.inr rfl) sc_law_told.nd rfl (Or.inl rfl) (se_split (se_V 2) se_str)))
  ss_nil)
  (ss_cons (ss_setLc (own := [("_law_half", 6)]) (i := 4) (gg := gF 4) (Or.inr rfl) rfl sc_law_told.nd rfl rfl (sw_true rfl rfl rfl (by decide +kernel)) (gok_N (by simp)) (si_any T.hK (se_V 3)) (blkOk_by (own := [("_law_half", 6)]) (N := M_law_told) (sc := (defScope s_law_told)) (by decide +kernel)) (fun _ _ _ _ _ => pg_name (i := 6) sc_law_told.nd rfl (Or.inl rfl)) (fun _ _ _ _ _ => pts_yes) (fun _ _ _ _ _ => (se_d (d_law_figures T) hr (by decide) takes0 (sa_cons (se_V 6) sa_nil))))
  (ss_cons (ss_if (sw_1 (sw_or (st_inL (units65 hr) se_non (se_V 4)) (sw_or1 (st_gt (se_len T.hK T.b_len (sa_cons (se_V 4) sa_nil)) se_int))))
  (ss_one (ss_ret se_non))
  ss_nil)
  (ss_cons (ss_if (st_gt (se_V 0) se_int)
  (ss_cons (ss_if (st_lt (se_sub' T.hK (se_V 4) se_int (fun _ _ => rfl)) (se_V 0))
  (ss_one (ss_ret (se_sub' T.hK (se_V 4) se_int (fun _ _ => rfl))))
  ss_nil)
  (ss_one (ss_ret se_non)))
  ss_nil)
  (ss_cons (ss_if (sw_1 (sw_or (sw_1 (sw_and (st_ne hr.units (se_V 2) (se_V 1)) (sw_and1 (st_eq hr.units (se_sub' T.hK (se_V 4) se_int (fun _ _ => rfl)) se_int)))) (sw_or1 (sw_1 (sw_and (st_eq hr.units (se_len T.hK T.b_len (sa_cons (se_V 4) sa_nil)) se_int) (sw_and1 (st_lt (se_sub' T.hK (se_V 4) se_int (fun _ _ => rfl)) se_int)))))))
  (ss_one (ss_ret se_non))
  ss_nil)
  (ss_cons (ss_set (i := 5) (g := gF 5) (Or.inr rfl) sc_law_told.nd rfl (Or.inl rfl) se_int)
  (ss_cons (ss_if (st_eq hr.units (se_len T.hK T.b_len (sa_cons (se_V 4) sa_nil)) se_int)
  (ss_one (ss_set (i := 5) (g := gF 5) (Or.inr rfl) sc_law_told.nd rfl (Or.inl rfl) (se_sub' T.hK (se_V 4) se_int (fun _ _ => rfl))))
  ss_nil)
  (ss_cons (ss_if (st_ne hr.units (se_d (d_law_divisor T) hr (by decide) (takes_of rfl rfl rfl rfl) (sa_cons (se_sub' T.hK (se_V 4) se_int (fun _ _ => rfl)) (sa_cons (se_V 5) sa_nil))) se_int)
  (ss_one (ss_ret se_non))
  ss_nil)
  (ss_one (ss_ret (se_T (sa_cons (se_mul (se_sub' T.hK (se_V 4) se_int (fun _ _ => rfl)) (se_sub se_int (se_mul se_int (se_intc T.b_int (sa_cons (se_ne hr.units (se_V 2) (se_V 1)) sa_nil))))) (sa_cons (se_V 5) sa_nil)))))))))))))))))) p_law_told
set_option maxRecDepth 100000 in
set_option maxHeartbeats 0 in
theorem d_law_number_is (T : Txt K mg G) : DOk P w K mg base "_law_number_is" 2 G R_law_number_is :=
  d_of T.a_law_number_is sc_law_number_is (fun f fd F => F.binds (ps := ["_law_prime_here", "_law_found", "_law_due"]) fun _ _ _ _ _ _ us hl => match us, hl with | [_, _, _], _ => rfl) (fun ds Q E h => by first | (obtain ⟨a, rfl, _⟩ := h; rfl; done) | (rcases h with ⟨a, rfl, _⟩ | ⟨a, rfl, _⟩ <;> rfl))
  (fun f cdv A outer s H F0 E hr => by
    unfold w_law_number_is
    exact (ss_cons (ss_if (st_gt (se_V 0) se_int)
  (ss_one (ss_ret (se_and (se_d (d_law_whole T) hr (by decide) (takes_of rfl rfl rfl rfl) (sa_cons (se_V 1) sa_nil)) (se_one (se_eq hr.units (se_V 1) (se_V 2))))))
  ss_nil)
  (ss_cons (ss_if (sw_1 (sw_or (st_not (st_val (se_isi (T := "tuple") T.hK T.b_isinstance T.b_tuple (by decide +kernel) (by decide) (se_V 1)))) (sw_or1 (st_ne hr.units (se_len T.hK T.b_len (sa_cons (se_V 1) sa_nil)) se_int))))
  (ss_one (ss_ret se_bl))
  ss_nil)
  (ss_one (ss_ret (se_and (se_d (d_law_whole T) hr (by decide) (takes_of rfl rfl rfl rfl) (sa_cons (se_sub' T.hK (se_V 1) se_int (fun _ _ => rfl)) sa_nil)) (se_and (se_d (d_law_whole T) hr (by decide) (takes_of rfl rfl rfl rfl) (sa_cons (se_sub' T.hK (se_V 1) se_int (fun _ _ => rfl)) sa_nil)) (se_one (se_eq hr.units (se_V 1) (se_V 2)))))))))) p_law_number_is
theorem A_Fractions_is_number (T : Txt K mg G) : MAt P w K mg base 2 G.CF "is_number" G (R_is_number.on Kd.isFr) [] := (dm_Fractions_is_number T).fr (by simp) T.clF (by decide)
theorem A_Rests_is_number (T : Txt K mg G) : MAt P w K mg base 2 G.CR "is_number" G (R_is_number.on Kd.isRs) [] := (dm_Rests_is_number T).fr (by simp) T.clR (by decide)
theorem M_is_number (T : Txt K mg G) : MOk P w K mg base 2 "is_number" G false R_is_number [] := ⟨(A_Fractions_is_number T).up (by decide), (A_Rests_is_number T).up (by decide), (fun h => nomatch h), by decide⟩
set_option maxRecDepth 100000 in
set_option maxHeartbeats 0 in
theorem d_read_fraction (T : Txt K mg G) : DOk P w K mg base "read_fraction" 3 G R_read_fraction :=
  d_of T.a_read_fraction sc_read_fraction (fun f fd F => F.binds (ps := ["kind", "text"]) fun _ _ _ _ _ _ us hl => match us, hl with | [_, _], _ => rfl) (fun ds Q E h => by first | (obtain ⟨a, rfl, _⟩ := h; rfl; done) | (rcases h with ⟨a, rfl, _⟩ | ⟨a, rfl, _⟩ <;> rfl))
  (fun f cdv A outer s H F0 E hr => by
    unfold w_read_fraction
    exact (ss_cons (ss_asg (se_part (se_V 1) se_str) (sg_T rfl (sgs_cons (sg_F (i := 2) sc_read_fraction.nd rfl (Or.inl rfl)) (sgs_cons (sg_F (i := 3) sc_read_fraction.nd rfl (Or.inl rfl)) (sgs_cons (sg_F (i := 4) sc_read_fraction.nd rfl (Or.inl rfl)) sgs_nil)))))
  (ss_cons (ss_if (st_eq hr.units (se_V 3) se_str)
  (ss_one (ss_ret (se_T (sa_cons (se_d (d_whole T) hr (by decide) (takes_of rfl rfl rfl rfl) (sa_cons (se_V 2) sa_nil)) (sa_cons se_int sa_nil)))))
  ss_nil)
  (ss_cons (ss_set (i := 5) (g := gF 5) (Or.inr rfl) sc_read_fraction.nd rfl (Or.inl rfl) (se_T (sa_cons (se_d (d_whole T) hr (by decide) (takes_of rfl rfl rfl rfl) (sa_cons (se_V 2) sa_nil)) (sa_cons (se_d (d_figures T) hr (by decide) (takes_of rfl rfl rfl rfl) (sa_cons (se_V 4) sa_nil)) sa_nil))))
  (ss_cons (ss_if (sw_1 (sw_or (st_lt (se_sub' T.hK (se_V 5) se_int (fun _ _ => rfl)) se_int) (sw_or1 (st_not (st_val (se_meth (M_is_number T) (hr.mono (by decide)) (takes_of rfl rfl rfl rfl) (fun _ _ _ => rfl) (se_V 0) (sa_cons (se_V 5) sa_nil)))))))
  (ss_one (ss_raise (e := .text) rfl (takes_of rfl rfl rfl rfl) T.x_NoText rfl))
  ss_nil)
  (ss_one (ss_retV 5))))))) p_read_fraction
set_option maxRecDepth 100000 in
set_option maxHeartbeats 0 in
theorem d_law_drawn (T : Txt K mg G) : DOk P w K mg base "_law_drawn" 3 G R_law_drawn :=
  d_of T.a_law_drawn sc_law_drawn (fun f fd F => F.binds (ps := ["_law_prime_here", "_law_cell"]) fun _ _ _ _ _ _ us hl => match us, hl with | [_, _], _ => rfl) (fun ds Q E h => by first | (obtain ⟨a, rfl, _⟩ := h; rfl; done) | (rcases h with ⟨a, rfl, _⟩ | ⟨a, rfl, _⟩ <;> rfl))
  (fun f cdv A outer s H F0 E hr => by
    unfold w_law_drawn
    exact (ss_cons (ss_if (st_gt (se_V 0) se_int)
  (ss_one (ss_ret (se_mod (se_mul (se_V 1) se_int) (se_V 0))))
  ss_nil)
  (ss_cons (ss_set (i := 2) (g := gF 2) (Or.inr rfl) sc_law_drawn.nd rfl (Or.inl rfl) (se_sub (se_mod (se_div (se_V 1) se_int) se_int) se_int))
  (ss_cons (ss_if (st_lt (se_mod (se_V 1) se_int) se_int)
  (ss_one (ss_set (i := 2) (g := gF 2) (Or.inr rfl) sc_law_drawn.nd rfl (Or.inl rfl) (se_sub (se_mod (se_sub (se_add (se_mul (se_div (se_V 1) se_int) se_int) (se_pow se_int se_int)) se_int) (se_sub (se_mul se_int (se_pow se_int se_int)) se_int)) (se_sub (se_pow se_int se_int) se_int))))
  ss_nil)
  (ss_one (ss_ret (se_d (d_law_lowest T) hr (by decide) (takes_of rfl rfl rfl rfl) (sa_cons (se_V 2) (sa_cons (se_add se_int (se_mod (se_mul (se_mul (se_V 1) (se_V 1)) se_int) (se_sub' T.hK (se_L (sa_cons se_int (sa_cons se_int (sa_cons se_int (sa_cons (se_sub (se_pow se_int se_int) se_int) sa_nil))))) (se_mod (se_div (se_V 1) se_int) se_int) (fun _ _ => rfl)))) sa_nil))))))))) p_law_drawn
set_option maxRecDepth 100000 in
set_option maxHeartbeats 0 in
theorem d_read_number (T : Txt K mg G) : DOk P w K mg base "read_number" 4 G R_read_number :=
  d_of T.a_read_number sc_read_number (fun f fd F => F.binds (ps := ["kind", "text"]) fun _ _ _ _ _ _ us hl => match us, hl with | [_, _], _ => rfl) (fun ds Q E h => by first | (obtain ⟨a, rfl, _⟩ := h; rfl; done) | (rcases h with ⟨a, rfl, _⟩ | ⟨a, rfl, _⟩ <;> rfl))
  (fun f cdv A outer s H F0 E hr => by
    unfold w_read_number
    exact (ss_cons (ss_if (st_not (st_val (se_isi (T := "str") T.hK T.b_isinstance T.b_str (by decide +kernel) (by decide) (se_V 1))))
  (ss_one (ss_raise (e := .text) rfl (takes_of rfl rfl rfl rfl) T.x_NoText rfl))
  ss_nil)
  (ss_cons (ss_if (st_val (se_isX (t := .cf) (ns := UX) (ks := UK) T.hK T.b_isinstance (.inr T.g_Fractions) T.i_Fractions (se_V 0)))
  (ss_one (ss_ret (se_d (d_read_fraction T) hr (by decide) (takes_of rfl rfl rfl rfl) (sa_cons (se_V 0) (sa_cons (se_V 1) sa_nil)))))
  ss_nil)
  (ss_cons (ss_set (i := 2) (g := gF 2) (Or.inr rfl) sc_read_number.nd rfl (Or.inl rfl) (se_d (d_figures T) hr (by decide) (takes_of rfl rfl rfl rfl) (sa_cons (se_V 1) sa_nil)))
  (ss_cons (ss_if (st_not (st_val (se_meth (M_is_number T) (hr.mono (by decide)) (takes_of rfl rfl rfl rfl) (fun _ _ _ => rfl) (se_V 0) (sa_cons (se_V 2) sa_nil))))
  (ss_one (ss_raise (e := .text) rfl (takes_of rfl rfl rfl rfl) T.x_NoText rfl))
  ss_nil)
  (ss_one (ss_retV 2))))))) p_read_number
set_option maxRecDepth 100000 in
set_option maxHeartbeats 0 in
theorem d_law_kind (T : Txt K mg G) : DOk P w K mg base "_law_kind" 4 G R_law_kind :=
  d_of T.a_law_kind sc_law_kind (fun f fd F => F.binds (ps := ["_law_prime_here"]) fun _ _ _ _ _ _ us hl => match us, hl with | [_], _ => rfl) (fun ds Q E h => by first | (obtain ⟨a, rfl, _⟩ := h; rfl; done) | (rcases h with ⟨a, rfl, _⟩ | ⟨a, rfl, _⟩ <;> rfl))
  (fun f cdv A outer s H F0 E hr => by
    unfold w_law_kind
    exact (ss_cons (ss_if (st_eq hr.units (se_V 0) se_int)
  (ss_one (ss_ret (se_mkFr T.mk_Fr)))
  ss_nil)
  (ss_one (ss_ret (se_mkRs (mk_Rs T) hr (by decide) (takes_of rfl rfl rfl rfl) (se_V 0)))))) p_law_kind
set_option maxRecDepth 100000 in
set_option maxHeartbeats 0 in
theorem d_law_right (T : Txt K mg G) : DOk P w K mg base "_law_right" 5 G R_law_right :=
  d_of T.a_law_right sc_law_right (fun f fd F => F.binds (ps := ["_law_kind_here", "_law_prime_here", "_law_text"]) fun _ _ _ _ _ _ us hl => match us, hl with | [_, _, _], _ => rfl) (fun ds Q E h => by first | (obtain ⟨a, rfl, _⟩ := h; rfl; done) | (rcases h with ⟨a, rfl, _⟩ | ⟨a, rfl, _⟩ <;> rfl))
  (fun f cdv A outer s H F0 E hr => by
    unfold w_law_right
    exact (ss_cons (ss_set (i := 3) (g := gF 3) (Or.inr rfl) sc_law_right.nd rfl (Or.inl rfl) (se_d (d_law_told T) hr (by decide) (takes_of rfl rfl rfl rfl) (sa_cons (se_V 1) (sa_cons (se_V 2) sa_nil))))
  (ss_cons (ss_set (i := 4) (g := gF 4) (Or.inr rfl) sc_law_right.nd rfl (Or.inl rfl) se_non)
  (ss_cons (ss_set (i := 5) (g := gF 5) (Or.inr rfl) sc_law_right.nd rfl (Or.inl rfl) se_non)
  (ss_cons (ss_try (i := 6) (j := 4) (ns := UX) T.tryF rfl rfl rfl sc_law_right.nd rfl rfl rfl (Or.inl rfl) rfl (fun W pn xe TKb POb => (ss_one (ss_set (i := 5) (g := gF 5) (Or.inr rfl) sc_law_right.nd rfl (Or.inl rfl) (se_d (d_read_number T) hr (by decide) TKb (sa_cons (se_V 0) (sa_cons (se_V 2) sa_nil)))))))
  (ss_cons (ss_if (st_notN (se_V 3) se_non)
  (ss_one (ss_ret (se_and (se_isN (se_V 4) se_non) (se_one (se_d (d_law_number_is T) hr (by decide) (takes_of rfl rfl rfl rfl) (sa_cons (se_V 1) (sa_cons (se_V 5) (sa_cons (se_V 3) sa_nil))))))))
  ss_nil)
  (ss_cons (ss_if (st_val (se_isXT2 (ts := [(.x .kind), (.x .number), (.x .turn), (.x .inverse), (.x .fit), (.x .name), (.x .row)]) (ns := UX) T.hK T.b_isinstance (by simp) (szL (by decide)) (pat_cons (t := (.x .kind)) (.inr T.g_NoKind) (pat_cons (t := (.x .number)) (.inr T.g_NoNumber) (pat_cons (t := (.x .turn)) (.inr T.g_NoTurn) (pat_cons (t := (.x .inverse)) (.inr T.g_NoInverse) (pat_cons (t := (.x .fit)) (.inr T.g_NoFit) (pat_cons (t := (.x .name)) (.inr T.g_NoName) (pat_cons (t := (.x .row)) (.inr T.g_NoRow) pat_nil))))))) (isF_cons T.j_NoKind (isF_cons T.j_NoNumber (isF_cons T.j_NoTurn (isF_cons T.j_NoInverse (isF_cons T.j_NoFit (isF_cons T.j_NoName (isF_cons T.j_NoRow (isF_nil)))))))) (se_V 4)))
  (ss_one (ss_ret se_bl))
  ss_nil)
  (ss_one (ss_ret (se_and (se_isX (t := (.x .text)) (ns := UX) (ks := UK) T.hK T.b_isinstance (.inr T.g_NoText) T.i_NoText (se_V 4)) (se_one (se_isX (t := .ve) (ns := UX) (ks := UK) T.hK T.b_isinstance (.inl ⟨rfl, rfl, T.b_ValueError⟩) T.i_ValueError (se_V 4))))))))))))) p_law_right
set_option maxRecDepth 100000 in
set_option maxHeartbeats 0 in
theorem o_law (T : Txt K mg G) {f : Addr} {fd : FuncData} (F : Fun K "law" "law" s_law f fd) : FnOk P w K mg base (L2.CX P w) 6 f fd ["_law_script"] (spOf G R_law) :=
  ok_of F sc_law (fun ds Q E h => by first | (obtain ⟨a, rfl, _⟩ := h; rfl; done) | (rcases h with ⟨a, rfl, _⟩ | ⟨a, rfl, _⟩ <;> rfl))
  (fun cdv A outer s H F0 E hr => by
    unfold w_law
    exact (ss_cons (ss_set (i := 1) (g := gF 1) (Or.inr rfl) sc_law.nd rfl (Or.inl rfl) (se_cat (se_sl T.hK (se_V 0) so_none (so_some se_int)) (se_L (sa_cons se_int sa_nil))))
  (ss_cons (ss_set (i := 2) (g := gF 2) (Or.inr rfl) sc_law.nd rfl (Or.inl rfl) (se_d (d_law_prime T) hr (by decide) (takes_of rfl rfl rfl rfl) (sa_cons (se_sub' T.hK (se_V 1) se_int (fun _ _ => rfl)) sa_nil)))
  (ss_cons (ss_set (i := 3) (g := gF 3) (Or.inr rfl) sc_law.nd rfl (Or.inl rfl) (se_d (d_law_kind T) hr (by decide) (takes_of rfl rfl rfl rfl) (sa_cons (se_V 2) sa_nil)))
  (ss_cons (ss_for (passes_of rfl) rfl (si_any T.hK (se_V 1)) (sg_F (i := 4) sc_law.nd rfl (Or.inl rfl))
  (ss_cons (ss_set (i := 5) (g := gF 5) (Or.inr rfl) sc_law.nd rfl (Or.inl rfl) (se_d (d_law_drawn T) hr (by decide) (takes_of rfl rfl rfl rfl) (sa_cons (se_V 2) (sa_cons (se_V 4) sa_nil))))
  (ss_cons (ss_set (i := 6) (g := gF 6) (Or.inr rfl) sc_law.nd rfl (Or.inl rfl) (se_d (d_law_shown T) hr (by decide) (takes_of rfl rfl rfl rfl) (sa_cons (se_V 2) (sa_cons (se_V 5) sa_nil))))
  (ss_cons (ss_set (i := 7) (g := gF 7) (Or.inr rfl) sc_law.nd rfl (Or.inl rfl) (se_d (d_show_number T) hr (by decide) (takes_of rfl rfl rfl rfl) (sa_cons (se_V 3) (sa_cons (se_V 5) sa_nil))))
  (ss_cons (ss_if (sw_1 (sw_or (st_not (st_val (se_isi (T := "str") T.hK T.b_isinstance T.b_str (by decide +kernel) (by decide) (se_V 7)))) (sw_or1 (st_ne hr.units (se_V 7) (se_V 6)))))
  (ss_one (ss_ret se_bl))
  ss_nil)
  (ss_one (ss_if (sw_1 (sw_or (st_not (st_val (se_d (d_law_right T) hr (by decide) (takes_of rfl rfl rfl rfl) (sa_cons (se_V 3) (sa_cons (se_V 2) (sa_cons (se_V 7) sa_nil)))))) (sw_or1 (st_not (st_val (se_d (d_law_right T) hr (by decide) (takes_of rfl rfl rfl rfl) (sa_cons (se_V 3) (sa_cons (se_V 2) (sa_cons (se_d (d_law_spoiled T) hr (by decide) (takes_of rfl rfl rfl rfl) (sa_cons (se_V 6) (sa_cons (se_V 4) sa_nil))) sa_nil)))))))))
  (ss_one (ss_ret se_bl))
  ss_nil)))))))
  (ss_one (ss_ret se_bl))))))) p_law
end
set_option maxRecDepth 100000 in
set_option maxHeartbeats 0 in
theorem all_mk {P : Program} {w : World} {K : PySem.W.Frag} {h : Heap} {mg : Str → Option Value} {fa C_Fractions C_FrameError C_NoFit C_NoInverse C_NoKind C_NoName C_NoNumber C_NoRow C_NoText C_NoTurn C_Rests f_is_whole f_divisor f_is_prime f_figures f_show_number f_law_whole f_law_divisor f_law_is_prime f_law_shown f_law_sign f_law_odd f_law_figures f_Fractions_is_number f_Rests_init f_Rests_is_number f_whole f_law_prime f_law_lowest f_law_spoiled f_law_told f_law_number_is f_read_fraction f_law_drawn f_read_number f_law_kind f_law_right f_law : Addr} (X : K.In h) (G : h.Ns mainGlobals mg) (hfa : mg "law" = some (.ref fa))
    {od_is_whole an_is_whole od_divisor an_divisor od_is_prime an_is_prime od_figures an_figures od_show_number an_show_number od_law_whole an_law_whole od_law_divisor an_law_divisor od_law_is_prime an_law_is_prime od_law_shown an_law_shown od_law_sign an_law_sign od_law_odd an_law_odd od_law_figures an_law_figures od_Fractions_is_number an_Fractions_is_number od_Rests_init an_Rests_init od_Rests_is_number an_Rests_is_number od_whole an_whole od_law_prime an_law_prime od_law_lowest an_law_lowest od_law_spoiled an_law_spoiled od_law_told an_law_told od_law_number_is an_law_number_is od_read_fraction an_read_fraction od_law_drawn an_law_drawn od_read_number an_read_number od_law_kind an_law_kind od_law_right an_law_right od_law an_law : Option Addr} {sl_is_whole sl_divisor sl_is_prime sl_figures sl_show_number sl_law_whole sl_law_divisor sl_law_is_prime sl_law_shown sl_law_sign sl_law_odd sl_law_figures sl_Fractions_is_number sl_Rests_init sl_Rests_is_number sl_whole sl_law_prime sl_law_lowest sl_law_spoiled sl_law_told sl_law_number_is sl_read_fraction sl_law_drawn sl_read_number sl_law_kind sl_law_right sl_law : Array (Option Value)} {oc_is_whole kV_is_whole dc_is_whole pm_is_whole cd_is_whole ct_is_whole oc_divisor kV_divisor dc_divisor pm_divisor cd_divisor ct_divisor oc_is_prime kV_is_prime dc_is_prime pm_is_prime cd_is_prime ct_is_prime oc_figures kV_figures dc_figures pm_figures cd_figures ct_figures oc_show_number kV_show_number dc_show_number pm_show_number cd_show_number ct_show_number oc_law_whole kV_law_whole dc_law_whole pm_law_whole cd_law_whole ct_law_whole oc_law_divisor kV_law_divisor dc_law_divisor pm_law_divisor cd_law_divisor ct_law_divisor oc_law_is_prime kV_law_is_prime dc_law_is_prime pm_law_is_prime cd_law_is_prime ct_law_is_prime oc_law_shown kV_law_shown dc_law_shown pm_law_shown cd_law_shown ct_law_shown oc_law_sign kV_law_sign dc_law_sign pm_law_sign cd_law_sign ct_law_sign oc_law_odd kV_law_odd dc_law_odd pm_law_odd cd_law_odd ct_law_odd oc_law_figures kV_law_figures dc_law_figures pm_law_figures cd_law_figures ct_law_figures oc_Fractions_is_number kV_Fractions_is_number dc_Fractions_is_number pm_Fractions_is_number cd_Fractions_is_number ct_Fractions_is_number oc_Rests_init kV_Rests_init dc_Rests_init pm_Rests_init cd_Rests_init ct_Rests_init oc_Rests_is_number kV_Rests_is_number dc_Rests_is_number pm_Rests_is_number cd_Rests_is_number ct_Rests_is_number oc_whole kV_whole dc_whole pm_whole cd_whole ct_whole oc_law_prime kV_law_prime dc_law_prime pm_law_prime cd_law_prime ct_law_prime oc_law_lowest kV_law_lowest dc_law_lowest pm_law_lowest cd_law_lowest ct_law_lowest oc_law_spoiled kV_law_spoiled dc_law_spoiled pm_law_spoiled cd_law_spoiled ct_law_spoiled oc_law_told kV_law_told dc_law_told pm_law_told cd_law_told ct_law_told oc_law_number_is kV_law_number_is dc_law_number_is pm_law_number_is cd_law_number_is ct_law_number_is oc_read_fraction kV_read_fraction dc_read_fraction pm_read_fraction cd_read_fraction ct_read_fraction oc_law_drawn kV_law_drawn dc_law_drawn pm_law_drawn cd_law_drawn ct_law_drawn oc_read_number kV_read_number dc_read_number pm_read_number cd_read_number ct_read_number oc_law_kind kV_law_kind dc_law_kind pm_law_kind cd_law_kind ct_law_kind oc_law_right kV_law_right dc_law_right pm_law_right cd_law_right ct_law_right oc_law kV_law dc_law pm_law cd_law ct_law : Value} {t_FIGURES t_LONGEST t_MOST : Nat}
    (n_Fractions : PySem.W.nsIn K mainGlobals "Fractions" = some (some (.ref C_Fractions)))
    (n_FrameError : PySem.W.nsIn K mainGlobals "FrameError" = some (some (.ref C_FrameError)))
    (n_NoFit : PySem.W.nsIn K mainGlobals "NoFit" = some (some (.ref C_NoFit)))
    (n_NoInverse : PySem.W.nsIn K mainGlobals "NoInverse" = some (some (.ref C_NoInverse)))
    (n_NoKind : PySem.W.nsIn K mainGlobals "NoKind" = some (some (.ref C_NoKind)))
    (n_NoName : PySem.W.nsIn K mainGlobals "NoName" = some (some (.ref C_NoName)))
    (n_NoNumber : PySem.W.nsIn K mainGlobals "NoNumber" = some (some (.ref C_NoNumber)))
    (n_NoRow : PySem.W.nsIn K mainGlobals "NoRow" = some (some (.ref C_NoRow)))
    (n_NoText : PySem.W.nsIn K mainGlobals "NoText" = some (some (.ref C_NoText)))
    (n_NoTurn : PySem.W.nsIn K mainGlobals "NoTurn" = some (some (.ref C_NoTurn)))
    (n_Rests : PySem.W.nsIn K mainGlobals "Rests" = some (some (.ref C_Rests)))
    (e_ValueError : PySem.W.nsIn K mainGlobals "ValueError" = some none)
    (e_abs : PySem.W.nsIn K mainGlobals "abs" = some none)
    (e_bool : PySem.W.nsIn K mainGlobals "bool" = some none)
    (e_int : PySem.W.nsIn K mainGlobals "int" = some none)
    (e_isinstance : PySem.W.nsIn K mainGlobals "isinstance" = some none)
    (e_len : PySem.W.nsIn K mainGlobals "len" = some none)
    (e_str : PySem.W.nsIn K mainGlobals "str" = some none)
    (e_tuple : PySem.W.nsIn K mainGlobals "tuple" = some none)
    (e_FIGURES : PySem.W.nsIn K mainGlobals "FIGURES" = some (some (.str "0123456789" t_FIGURES)))
    (e_LONGEST : PySem.W.nsIn K mainGlobals "LONGEST" = some (some (.int 60 t_LONGEST)))
    (e_MOST : PySem.W.nsIn K mainGlobals "MOST" = some (some (.int 1000000 t_MOST)))
    (gs : PySem.W.specialIn K (.builtin "object.__class__") "__get__" = some (some (.builtin "getset_descriptor.__get__")))
    (tks : PySem.W.takesIn K (.builtin "object.__class__") = some true)
    (xg_NoText : PySem.W.findIn K (.ref C_NoText) "__getattribute__" = some (some (.builtin "BaseException.__getattribute__")))
    (xk_NoText : PySem.W.findIn K (.ref C_NoText) "__getattr__" = some none)
    (xs_NoText : PySem.W.subIn K (.ref C_NoText) (.type "BaseException") = some true)
    (xd_NoText : PySem.W.hasDictIn K C_NoText = true)
    (xa_NoText : PySem.W.findIn K (.ref C_NoText) "__class__" = some (some (.builtin "object.__class__")))
    (xm_NoText : PySem.W.mroIn K C_NoText (.type "object") = some true)
    (ic_Fractions : PySem.W.isClsIn K C_Fractions = true)
    (ty_Fractions : PySem.W.typeIn K (.ref C_Fractions) = some (.type "type"))
    (q_text_Fractions : PySem.W.kitOne K (.ref C_NoText) (.ref C_Fractions) = some false)
    (ka_Fractions : PySem.W.findIn K (.ref C_Fractions) "__class__" = some (some (.builtin "object.__class__")))
    (km_Fractions : PySem.W.mroIn K C_Fractions (.type "object") = some true)
    (kq_Fractions_Fractions : PySem.W.kitOne K (.ref C_Fractions) (.ref C_Fractions) = some true)
    (ka_Rests : PySem.W.findIn K (.ref C_Rests) "__class__" = some (some (.builtin "object.__class__")))
    (km_Rests : PySem.W.mroIn K C_Rests (.type "object") = some true)
    (kq_Rests_Fractions : PySem.W.kitOne K (.ref C_Rests) (.ref C_Fractions) = some false)
    (ic_NoFit : PySem.W.isClsIn K C_NoFit = true)
    (ty_NoFit : PySem.W.typeIn K (.ref C_NoFit) = some (.type "type"))
    (q_text_NoFit : PySem.W.kitOne K (.ref C_NoText) (.ref C_NoFit) = some false)
    (kq_Fractions_NoFit : PySem.W.kitOne K (.ref C_Fractions) (.ref C_NoFit) = some false)
    (kq_Rests_NoFit : PySem.W.kitOne K (.ref C_Rests) (.ref C_NoFit) = some false)
    (ic_NoInverse : PySem.W.isClsIn K C_NoInverse = true)
    (ty_NoInverse : PySem.W.typeIn K (.ref C_NoInverse) = some (.type "type"))
    (q_text_NoInverse : PySem.W.kitOne K (.ref C_NoText) (.ref C_NoInverse) = some false)
    (kq_Fractions_NoInverse : PySem.W.kitOne K (.ref C_Fractions) (.ref C_NoInverse) = some false)
    (kq_Rests_NoInverse : PySem.W.kitOne K (.ref C_Rests) (.ref C_NoInverse) = some false)
    (ic_NoKind : PySem.W.isClsIn K C_NoKind = true)
    (ty_NoKind : PySem.W.typeIn K (.ref C_NoKind) = some (.type "type"))
    (q_text_NoKind : PySem.W.kitOne K (.ref C_NoText) (.ref C_NoKind) = some false)
    (kq_Fractions_NoKind : PySem.W.kitOne K (.ref C_Fractions) (.ref C_NoKind) = some false)
    (kq_Rests_NoKind : PySem.W.kitOne K (.ref C_Rests) (.ref C_NoKind) = some false)
    (ic_NoName : PySem.W.isClsIn K C_NoName = true)
    (ty_NoName : PySem.W.typeIn K (.ref C_NoName) = some (.type "type"))
    (q_text_NoName : PySem.W.kitOne K (.ref C_NoText) (.ref C_NoName) = some false)
    (kq_Fractions_NoName : PySem.W.kitOne K (.ref C_Fractions) (.ref C_NoName) = some false)
    (kq_Rests_NoName : PySem.W.kitOne K (.ref C_Rests) (.ref C_NoName) = some false)
    (ic_NoNumber : PySem.W.isClsIn K C_NoNumber = true)
    (ty_NoNumber : PySem.W.typeIn K (.ref C_NoNumber) = some (.type "type"))
    (q_text_NoNumber : PySem.W.kitOne K (.ref C_NoText) (.ref C_NoNumber) = some false)
    (kq_Fractions_NoNumber : PySem.W.kitOne K (.ref C_Fractions) (.ref C_NoNumber) = some false)
    (kq_Rests_NoNumber : PySem.W.kitOne K (.ref C_Rests) (.ref C_NoNumber) = some false)
    (ic_NoRow : PySem.W.isClsIn K C_NoRow = true)
    (ty_NoRow : PySem.W.typeIn K (.ref C_NoRow) = some (.type "type"))
    (q_text_NoRow : PySem.W.kitOne K (.ref C_NoText) (.ref C_NoRow) = some false)
    (kq_Fractions_NoRow : PySem.W.kitOne K (.ref C_Fractions) (.ref C_NoRow) = some false)
    (kq_Rests_NoRow : PySem.W.kitOne K (.ref C_Rests) (.ref C_NoRow) = some false)
    (ic_NoText : PySem.W.isClsIn K C_NoText = true)
    (ty_NoText : PySem.W.typeIn K (.ref C_NoText) = some (.type "type"))
    (q_text_NoText : PySem.W.kitOne K (.ref C_NoText) (.ref C_NoText) = some true)
    (kq_Fractions_NoText : PySem.W.kitOne K (.ref C_Fractions) (.ref C_NoText) = some false)
    (kq_Rests_NoText : PySem.W.kitOne K (.ref C_Rests) (.ref C_NoText) = some false)
    (ic_NoTurn : PySem.W.isClsIn K C_NoTurn = true)
    (ty_NoTurn : PySem.W.typeIn K (.ref C_NoTurn) = some (.type "type"))
    (q_text_NoTurn : PySem.W.kitOne K (.ref C_NoText) (.ref C_NoTurn) = some false)
    (kq_Fractions_NoTurn : PySem.W.kitOne K (.ref C_Fractions) (.ref C_NoTurn) = some false)
    (kq_Rests_NoTurn : PySem.W.kitOne K (.ref C_Rests) (.ref C_NoTurn) = some false)
    (q_text_ValueError : PySem.W.kitOne K (.ref C_NoText) (.type "ValueError") = some true)
    (kq_Fractions_ValueError : PySem.W.kitOne K (.ref C_Fractions) (.type "ValueError") = some false)
    (kq_Rests_ValueError : PySem.W.kitOne K (.ref C_Rests) (.type "ValueError") = some false)
    (rq_NoKind : PySem.W.excIn K C_NoKind [Value.type "ValueError", Value.type "Exception", Value.type "BaseException", Value.type "object"] "ValueError.__new__" = true)
    (rk_NoKind : PySem.W.keepIn K (.ref C_NoKind) = true)
    (rs_NoKind : PySem.W.subIn K (.ref C_NoKind) (.type "BaseException") = some true)
    (rt_NoKind : PySem.W.typeIn K (.ref C_NoKind) = some (.type "type"))
    (rq_NoText : PySem.W.excIn K C_NoText [Value.type "ValueError", Value.type "Exception", Value.type "BaseException", Value.type "object"] "ValueError.__new__" = true)
    (rk_NoText : PySem.W.keepIn K (.ref C_NoText) = true)
    (rs_NoText : PySem.W.subIn K (.ref C_NoText) (.type "BaseException") = some true)
    (rt_NoText : PySem.W.typeIn K (.ref C_NoText) = some (.type "type"))
    (fs : PySem.W.subIn K (.ref C_FrameError) (.type "BaseException") = some true)
    (fd : PySem.W.hasDictIn K C_FrameError = true)
    (ft : PySem.W.typeIn K (.ref C_FrameError) = some (.type "type"))
    (fx_text : PySem.W.subIn K (.ref C_NoText) (.ref C_FrameError) = some true)
    (pg_Fractions : PySem.W.plainGet K C_Fractions Str.empty = true)
    (hd_Fractions : PySem.W.hasDictIn K C_Fractions = true)
    (po_Fractions : PySem.W.plainOver K C_Fractions = true)
    (sa_Fractions : PySem.W.findIn K (.ref C_Fractions) "__setattr__" = some (some (.builtin "object.__setattr__")))
    (pg_Rests : PySem.W.plainGet K C_Rests Str.empty = true)
    (hd_Rests : PySem.W.hasDictIn K C_Rests = true)
    (po_Rests : PySem.W.plainOver K C_Rests = true)
    (sa_Rests : PySem.W.findIn K (.ref C_Rests) "__setattr__" = some (some (.builtin "object.__setattr__")))
    (np : PySem.W.findIn K (.ref C_Rests) "prime" = some none)
    (mf : PySem.W.makesIn K C_Fractions = true)
    (mi : PySem.W.findIn K (.ref C_Fractions) "__init__" = some (some (.builtin "object.__init__")))
    (mp : PySem.W.keepIn K (.ref C_Fractions) = true)
    (a_is_whole : PySem.W.nsIn K mainGlobals "is_whole" = some (some (.ref f_is_whole)))
    (l_is_whole : K.lookup f_is_whole = some ⟨oc_is_whole, od_is_whole, .func (PySem.W.fnOf "is_whole" "is_whole" (defArgs s_is_whole) (defBody s_is_whole) (defScope s_is_whole) .none kV_is_whole dc_is_whole pm_is_whole an_is_whole cd_is_whole ct_is_whole), sl_is_whole⟩)
    (c_is_whole : PySem.W.codeIn K cd_is_whole "is_whole" = true)
    (k_is_whole : PySem.W.keepIn K (.ref f_is_whole) = true)
    (a_divisor : PySem.W.nsIn K mainGlobals "divisor" = some (some (.ref f_divisor)))
    (l_divisor : K.lookup f_divisor = some ⟨oc_divisor, od_divisor, .func (PySem.W.fnOf "divisor" "divisor" (defArgs s_divisor) (defBody s_divisor) (defScope s_divisor) .none kV_divisor dc_divisor pm_divisor an_divisor cd_divisor ct_divisor), sl_divisor⟩)
    (c_divisor : PySem.W.codeIn K cd_divisor "divisor" = true)
    (k_divisor : PySem.W.keepIn K (.ref f_divisor) = true)
    (a_is_prime : PySem.W.nsIn K mainGlobals "is_prime" = some (some (.ref f_is_prime)))
    (l_is_prime : K.lookup f_is_prime = some ⟨oc_is_prime, od_is_prime, .func (PySem.W.fnOf "is_prime" "is_prime" (defArgs s_is_prime) (defBody s_is_prime) (defScope s_is_prime) .none kV_is_prime dc_is_prime pm_is_prime an_is_prime cd_is_prime ct_is_prime), sl_is_prime⟩)
    (c_is_prime : PySem.W.codeIn K cd_is_prime "is_prime" = true)
    (k_is_prime : PySem.W.keepIn K (.ref f_is_prime) = true)
    (a_figures : PySem.W.nsIn K mainGlobals "figures" = some (some (.ref f_figures)))
    (l_figures : K.lookup f_figures = some ⟨oc_figures, od_figures, .func (PySem.W.fnOf "figures" "figures" (defArgs s_figures) (defBody s_figures) (defScope s_figures) .none kV_figures dc_figures pm_figures an_figures cd_figures ct_figures), sl_figures⟩)
    (c_figures : PySem.W.codeIn K cd_figures "figures" = true)
    (k_figures : PySem.W.keepIn K (.ref f_figures) = true)
    (a_show_number : PySem.W.nsIn K mainGlobals "show_number" = some (some (.ref f_show_number)))
    (l_show_number : K.lookup f_show_number = some ⟨oc_show_number, od_show_number, .func (PySem.W.fnOf "show_number" "show_number" (defArgs s_show_number) (defBody s_show_number) (defScope s_show_number) .none kV_show_number dc_show_number pm_show_number an_show_number cd_show_number ct_show_number), sl_show_number⟩)
    (c_show_number : PySem.W.codeIn K cd_show_number "show_number" = true)
    (k_show_number : PySem.W.keepIn K (.ref f_show_number) = true)
    (a_law_whole : PySem.W.nsIn K mainGlobals "_law_whole" = some (some (.ref f_law_whole)))
    (l_law_whole : K.lookup f_law_whole = some ⟨oc_law_whole, od_law_whole, .func (PySem.W.fnOf "_law_whole" "_law_whole" (defArgs s_law_whole) (defBody s_law_whole) (defScope s_law_whole) .none kV_law_whole dc_law_whole pm_law_whole an_law_whole cd_law_whole ct_law_whole), sl_law_whole⟩)
    (c_law_whole : PySem.W.codeIn K cd_law_whole "_law_whole" = true)
    (k_law_whole : PySem.W.keepIn K (.ref f_law_whole) = true)
    (a_law_divisor : PySem.W.nsIn K mainGlobals "_law_divisor" = some (some (.ref f_law_divisor)))
    (l_law_divisor : K.lookup f_law_divisor = some ⟨oc_law_divisor, od_law_divisor, .func (PySem.W.fnOf "_law_divisor" "_law_divisor" (defArgs s_law_divisor) (defBody s_law_divisor) (defScope s_law_divisor) .none kV_law_divisor dc_law_divisor pm_law_divisor an_law_divisor cd_law_divisor ct_law_divisor), sl_law_divisor⟩)
    (c_law_divisor : PySem.W.codeIn K cd_law_divisor "_law_divisor" = true)
    (k_law_divisor : PySem.W.keepIn K (.ref f_law_divisor) = true)
    (a_law_is_prime : PySem.W.nsIn K mainGlobals "_law_is_prime" = some (some (.ref f_law_is_prime)))
    (l_law_is_prime : K.lookup f_law_is_prime = some ⟨oc_law_is_prime, od_law_is_prime, .func (PySem.W.fnOf "_law_is_prime" "_law_is_prime" (defArgs s_law_is_prime) (defBody s_law_is_prime) (defScope s_law_is_prime) .none kV_law_is_prime dc_law_is_prime pm_law_is_prime an_law_is_prime cd_law_is_prime ct_law_is_prime), sl_law_is_prime⟩)
    (c_law_is_prime : PySem.W.codeIn K cd_law_is_prime "_law_is_prime" = true)
    (k_law_is_prime : PySem.W.keepIn K (.ref f_law_is_prime) = true)
    (a_law_shown : PySem.W.nsIn K mainGlobals "_law_shown" = some (some (.ref f_law_shown)))
    (l_law_shown : K.lookup f_law_shown = some ⟨oc_law_shown, od_law_shown, .func (PySem.W.fnOf "_law_shown" "_law_shown" (defArgs s_law_shown) (defBody s_law_shown) (defScope s_law_shown) .none kV_law_shown dc_law_shown pm_law_shown an_law_shown cd_law_shown ct_law_shown), sl_law_shown⟩)
    (c_law_shown : PySem.W.codeIn K cd_law_shown "_law_shown" = true)
    (k_law_shown : PySem.W.keepIn K (.ref f_law_shown) = true)
    (a_law_sign : PySem.W.nsIn K mainGlobals "_law_sign" = some (some (.ref f_law_sign)))
    (l_law_sign : K.lookup f_law_sign = some ⟨oc_law_sign, od_law_sign, .func (PySem.W.fnOf "_law_sign" "_law_sign" (defArgs s_law_sign) (defBody s_law_sign) (defScope s_law_sign) .none kV_law_sign dc_law_sign pm_law_sign an_law_sign cd_law_sign ct_law_sign), sl_law_sign⟩)
    (c_law_sign : PySem.W.codeIn K cd_law_sign "_law_sign" = true)
    (k_law_sign : PySem.W.keepIn K (.ref f_law_sign) = true)
    (a_law_odd : PySem.W.nsIn K mainGlobals "_law_odd" = some (some (.ref f_law_odd)))
    (l_law_odd : K.lookup f_law_odd = some ⟨oc_law_odd, od_law_odd, .func (PySem.W.fnOf "_law_odd" "_law_odd" (defArgs s_law_odd) (defBody s_law_odd) (defScope s_law_odd) .none kV_law_odd dc_law_odd pm_law_odd an_law_odd cd_law_odd ct_law_odd), sl_law_odd⟩)
    (c_law_odd : PySem.W.codeIn K cd_law_odd "_law_odd" = true)
    (k_law_odd : PySem.W.keepIn K (.ref f_law_odd) = true)
    (a_law_figures : PySem.W.nsIn K mainGlobals "_law_figures" = some (some (.ref f_law_figures)))
    (l_law_figures : K.lookup f_law_figures = some ⟨oc_law_figures, od_law_figures, .func (PySem.W.fnOf "_law_figures" "_law_figures" (defArgs s_law_figures) (defBody s_law_figures) (defScope s_law_figures) .none kV_law_figures dc_law_figures pm_law_figures an_law_figures cd_law_figures ct_law_figures), sl_law_figures⟩)
    (c_law_figures : PySem.W.codeIn K cd_law_figures "_law_figures" = true)
    (k_law_figures : PySem.W.keepIn K (.ref f_law_figures) = true)
    (a_Fractions_is_number_Fractions : PySem.W.findIn K (.ref C_Fractions) "is_number" = some (some (.ref f_Fractions_is_number)))
    (fn_Fractions_is_number : PySem.W.isFn K (.ref f_Fractions_is_number) = true)
    (l_Fractions_is_number : K.lookup f_Fractions_is_number = some ⟨oc_Fractions_is_number, od_Fractions_is_number, .func (PySem.W.fnOf "is_number" "Fractions.is_number" (defArgs s_Fractions_is_number) (defBody s_Fractions_is_number) (defScope s_Fractions_is_number) .none kV_Fractions_is_number dc_Fractions_is_number pm_Fractions_is_number an_Fractions_is_number cd_Fractions_is_number ct_Fractions_is_number), sl_Fractions_is_number⟩)
    (c_Fractions_is_number : PySem.W.codeIn K cd_Fractions_is_number "Fractions.is_number" = true)
    (k_Fractions_is_number : PySem.W.keepIn K (.ref f_Fractions_is_number) = true)
    (a_Rests_init_Rests : PySem.W.findIn K (.ref C_Rests) "__init__" = some (some (.ref f_Rests_init)))
    (fn_Rests_init : PySem.W.isFn K (.ref f_Rests_init) = true)
    (l_Rests_init : K.lookup f_Rests_init = some ⟨oc_Rests_init, od_Rests_init, .func (PySem.W.fnOf "__init__" "Rests.__init__" (defArgs s_Rests_init) (defBody s_Rests_init) (defScope s_Rests_init) .none kV_Rests_init dc_Rests_init pm_Rests_init an_Rests_init cd_Rests_init ct_Rests_init), sl_Rests_init⟩)
    (c_Rests_init : PySem.W.codeIn K cd_Rests_init "Rests.__init__" = true)
    (k_Rests_init : PySem.W.keepIn K (.ref f_Rests_init) = true)
    (mm : PySem.W.makesIn K C_Rests = true)
    (mk : PySem.W.keepIn K (.ref C_Rests) = true)
    (a_Rests_is_number_Rests : PySem.W.findIn K (.ref C_Rests) "is_number" = some (some (.ref f_Rests_is_number)))
    (fn_Rests_is_number : PySem.W.isFn K (.ref f_Rests_is_number) = true)
    (l_Rests_is_number : K.lookup f_Rests_is_number = some ⟨oc_Rests_is_number, od_Rests_is_number, .func (PySem.W.fnOf "is_number" "Rests.is_number" (defArgs s_Rests_is_number) (defBody s_Rests_is_number) (defScope s_Rests_is_number) .none kV_Rests_is_number dc_Rests_is_number pm_Rests_is_number an_Rests_is_number cd_Rests_is_number ct_Rests_is_number), sl_Rests_is_number⟩)
    (c_Rests_is_number : PySem.W.codeIn K cd_Rests_is_number "Rests.is_number" = true)
    (k_Rests_is_number : PySem.W.keepIn K (.ref f_Rests_is_number) = true)
    (a_whole : PySem.W.nsIn K mainGlobals "whole" = some (some (.ref f_whole)))
    (l_whole : K.lookup f_whole = some ⟨oc_whole, od_whole, .func (PySem.W.fnOf "whole" "whole" (defArgs s_whole) (defBody s_whole) (defScope s_whole) .none kV_whole dc_whole pm_whole an_whole cd_whole ct_whole), sl_whole⟩)
    (c_whole : PySem.W.codeIn K cd_whole "whole" = true)
    (k_whole : PySem.W.keepIn K (.ref f_whole) = true)
    (a_law_prime : PySem.W.nsIn K mainGlobals "_law_prime" = some (some (.ref f_law_prime)))
    (l_law_prime : K.lookup f_law_prime = some ⟨oc_law_prime, od_law_prime, .func (PySem.W.fnOf "_law_prime" "_law_prime" (defArgs s_law_prime) (defBody s_law_prime) (defScope s_law_prime) .none kV_law_prime dc_law_prime pm_law_prime an_law_prime cd_law_prime ct_law_prime), sl_law_prime⟩)
    (c_law_prime : PySem.W.codeIn K cd_law_prime "_law_prime" = true)
    (k_law_prime : PySem.W.keepIn K (.ref f_law_prime) = true)
    (a_law_lowest : PySem.W.nsIn K mainGlobals "_law_lowest" = some (some (.ref f_law_lowest)))
    (l_law_lowest : K.lookup f_law_lowest = some ⟨oc_law_lowest, od_law_lowest, .func (PySem.W.fnOf "_law_lowest" "_law_lowest" (defArgs s_law_lowest) (defBody s_law_lowest) (defScope s_law_lowest) .none kV_law_lowest dc_law_lowest pm_law_lowest an_law_lowest cd_law_lowest ct_law_lowest), sl_law_lowest⟩)
    (c_law_lowest : PySem.W.codeIn K cd_law_lowest "_law_lowest" = true)
    (k_law_lowest : PySem.W.keepIn K (.ref f_law_lowest) = true)
    (a_law_spoiled : PySem.W.nsIn K mainGlobals "_law_spoiled" = some (some (.ref f_law_spoiled)))
    (l_law_spoiled : K.lookup f_law_spoiled = some ⟨oc_law_spoiled, od_law_spoiled, .func (PySem.W.fnOf "_law_spoiled" "_law_spoiled" (defArgs s_law_spoiled) (defBody s_law_spoiled) (defScope s_law_spoiled) .none kV_law_spoiled dc_law_spoiled pm_law_spoiled an_law_spoiled cd_law_spoiled ct_law_spoiled), sl_law_spoiled⟩)
    (c_law_spoiled : PySem.W.codeIn K cd_law_spoiled "_law_spoiled" = true)
    (k_law_spoiled : PySem.W.keepIn K (.ref f_law_spoiled) = true)
    (a_law_told : PySem.W.nsIn K mainGlobals "_law_told" = some (some (.ref f_law_told)))
    (l_law_told : K.lookup f_law_told = some ⟨oc_law_told, od_law_told, .func (PySem.W.fnOf "_law_told" "_law_told" (defArgs s_law_told) (defBody s_law_told) (defScope s_law_told) .none kV_law_told dc_law_told pm_law_told an_law_told cd_law_told ct_law_told), sl_law_told⟩)
    (c_law_told : PySem.W.codeIn K cd_law_told "_law_told" = true)
    (k_law_told : PySem.W.keepIn K (.ref f_law_told) = true)
    (a_law_number_is : PySem.W.nsIn K mainGlobals "_law_number_is" = some (some (.ref f_law_number_is)))
    (l_law_number_is : K.lookup f_law_number_is = some ⟨oc_law_number_is, od_law_number_is, .func (PySem.W.fnOf "_law_number_is" "_law_number_is" (defArgs s_law_number_is) (defBody s_law_number_is) (defScope s_law_number_is) .none kV_law_number_is dc_law_number_is pm_law_number_is an_law_number_is cd_law_number_is ct_law_number_is), sl_law_number_is⟩)
    (c_law_number_is : PySem.W.codeIn K cd_law_number_is "_law_number_is" = true)
    (k_law_number_is : PySem.W.keepIn K (.ref f_law_number_is) = true)
    (a_read_fraction : PySem.W.nsIn K mainGlobals "read_fraction" = some (some (.ref f_read_fraction)))
    (l_read_fraction : K.lookup f_read_fraction = some ⟨oc_read_fraction, od_read_fraction, .func (PySem.W.fnOf "read_fraction" "read_fraction" (defArgs s_read_fraction) (defBody s_read_fraction) (defScope s_read_fraction) .none kV_read_fraction dc_read_fraction pm_read_fraction an_read_fraction cd_read_fraction ct_read_fraction), sl_read_fraction⟩)
    (c_read_fraction : PySem.W.codeIn K cd_read_fraction "read_fraction" = true)
    (k_read_fraction : PySem.W.keepIn K (.ref f_read_fraction) = true)
    (a_law_drawn : PySem.W.nsIn K mainGlobals "_law_drawn" = some (some (.ref f_law_drawn)))
    (l_law_drawn : K.lookup f_law_drawn = some ⟨oc_law_drawn, od_law_drawn, .func (PySem.W.fnOf "_law_drawn" "_law_drawn" (defArgs s_law_drawn) (defBody s_law_drawn) (defScope s_law_drawn) .none kV_law_drawn dc_law_drawn pm_law_drawn an_law_drawn cd_law_drawn ct_law_drawn), sl_law_drawn⟩)
    (c_law_drawn : PySem.W.codeIn K cd_law_drawn "_law_drawn" = true)
    (k_law_drawn : PySem.W.keepIn K (.ref f_law_drawn) = true)
    (a_read_number : PySem.W.nsIn K mainGlobals "read_number" = some (some (.ref f_read_number)))
    (l_read_number : K.lookup f_read_number = some ⟨oc_read_number, od_read_number, .func (PySem.W.fnOf "read_number" "read_number" (defArgs s_read_number) (defBody s_read_number) (defScope s_read_number) .none kV_read_number dc_read_number pm_read_number an_read_number cd_read_number ct_read_number), sl_read_number⟩)
    (c_read_number : PySem.W.codeIn K cd_read_number "read_number" = true)
    (k_read_number : PySem.W.keepIn K (.ref f_read_number) = true)
    (a_law_kind : PySem.W.nsIn K mainGlobals "_law_kind" = some (some (.ref f_law_kind)))
    (l_law_kind : K.lookup f_law_kind = some ⟨oc_law_kind, od_law_kind, .func (PySem.W.fnOf "_law_kind" "_law_kind" (defArgs s_law_kind) (defBody s_law_kind) (defScope s_law_kind) .none kV_law_kind dc_law_kind pm_law_kind an_law_kind cd_law_kind ct_law_kind), sl_law_kind⟩)
    (c_law_kind : PySem.W.codeIn K cd_law_kind "_law_kind" = true)
    (k_law_kind : PySem.W.keepIn K (.ref f_law_kind) = true)
    (a_law_right : PySem.W.nsIn K mainGlobals "_law_right" = some (some (.ref f_law_right)))
    (l_law_right : K.lookup f_law_right = some ⟨oc_law_right, od_law_right, .func (PySem.W.fnOf "_law_right" "_law_right" (defArgs s_law_right) (defBody s_law_right) (defScope s_law_right) .none kV_law_right dc_law_right pm_law_right an_law_right cd_law_right ct_law_right), sl_law_right⟩)
    (c_law_right : PySem.W.codeIn K cd_law_right "_law_right" = true)
    (k_law_right : PySem.W.keepIn K (.ref f_law_right) = true)
    (a_law : PySem.W.nsIn K mainGlobals "law" = some (some (.ref f_law)))
    (l_law : K.lookup f_law = some ⟨oc_law, od_law, .func (PySem.W.fnOf "law" "law" (defArgs s_law) (defBody s_law) (defScope s_law) .none kV_law dc_law pm_law an_law cd_law ct_law), sl_law⟩)
    (c_law : PySem.W.codeIn K cd_law "law" = true)
    (k_law : PySem.W.keepIn K (.ref f_law) = true) :
    ∃ (fd : FuncData) (G : Gx), G.K = K ∧ (∀ (s : Shared) (u : Value), BindsTo s fd ⟨[u], []⟩ [("_law_script", u)]) ∧ ∀ base : Heap, K.In base → base.Ns mainGlobals mg → FnOk P w K mg base (L2.CX P w) 6 fa fd ["_law_script"] (spOf G R_law) := by
  have T : Txt K mg ⟨K, C_Fractions, C_Rests, 0, fun n => match n with | .kind => C_NoKind | .number => C_NoNumber | .fit => C_NoFit | .turn => C_NoTurn | .inverse => C_NoInverse | .text => C_NoText | .name => C_NoName | .row => C_NoRow, 0, C_FrameError⟩ := {
    hK := rfl,
    b_ValueError := PySem.W.mg_none_of X G e_ValueError,
    b_abs := PySem.W.mg_none_of X G e_abs,
    b_bool := PySem.W.mg_none_of X G e_bool,
    b_int := PySem.W.mg_none_of X G e_int,
    b_isinstance := PySem.W.mg_none_of X G e_isinstance,
    b_len := PySem.W.mg_none_of X G e_len,
    b_str := PySem.W.mg_none_of X G e_str,
    b_tuple := PySem.W.mg_none_of X G e_tuple,
    c_FIGURES := ⟨_, PySem.W.mg_of X G e_FIGURES⟩,
    c_LONGEST := ⟨_, PySem.W.mg_of X G e_LONGEST⟩,
    c_MOST := ⟨_, PySem.W.mg_of X G e_MOST⟩,
    g_Fractions := PySem.W.mg_of X G n_Fractions,
    g_FrameError := PySem.W.mg_of X G n_FrameError,
    g_NoFit := PySem.W.mg_of X G n_NoFit,
    g_NoInverse := PySem.W.mg_of X G n_NoInverse,
    g_NoKind := PySem.W.mg_of X G n_NoKind,
    g_NoName := PySem.W.mg_of X G n_NoName,
    g_NoNumber := PySem.W.mg_of X G n_NoNumber,
    g_NoRow := PySem.W.mg_of X G n_NoRow,
    g_NoText := PySem.W.mg_of X G n_NoText,
    g_NoTurn := PySem.W.mg_of X G n_NoTurn,
    i_Fractions := ⟨kit_own ic_Fractions ty_Fractions, (mem2 ⟨q_text_Fractions, ⟨xg_NoText, xk_NoText, xs_NoText, xd_NoText, xa_NoText, gs, tks, xm_NoText⟩⟩ mem0), (kf_01 (⟨kq_Fractions_Fractions, ⟨pg_Fractions, hd_Fractions, po_Fractions, sa_Fractions⟩, ka_Fractions, gs, tks, km_Fractions⟩) (⟨kq_Rests_Fractions, ⟨pg_Rests, hd_Rests, po_Rests, sa_Rests⟩, ka_Rests, gs, tks, km_Rests⟩))⟩,
    i_NoFit := ⟨kit_own ic_NoFit ty_NoFit, (mem2 ⟨q_text_NoFit, ⟨xg_NoText, xk_NoText, xs_NoText, xd_NoText, xa_NoText, gs, tks, xm_NoText⟩⟩ mem0), (kf_01 (⟨kq_Fractions_NoFit, ⟨pg_Fractions, hd_Fractions, po_Fractions, sa_Fractions⟩, ka_Fractions, gs, tks, km_Fractions⟩) (⟨kq_Rests_NoFit, ⟨pg_Rests, hd_Rests, po_Rests, sa_Rests⟩, ka_Rests, gs, tks, km_Rests⟩))⟩,
    j_NoFit := ⟨kit_own ic_NoFit ty_NoFit, (mem2 ⟨q_text_NoFit, ⟨xg_NoText, xk_NoText, xs_NoText, xd_NoText, xa_NoText, gs, tks, xm_NoText⟩⟩ mem0), (fun i hi => nomatch hi)⟩,
    i_NoInverse := ⟨kit_own ic_NoInverse ty_NoInverse, (mem2 ⟨q_text_NoInverse, ⟨xg_NoText, xk_NoText, xs_NoText, xd_NoText, xa_NoText, gs, tks, xm_NoText⟩⟩ mem0), (kf_01 (⟨kq_Fractions_NoInverse, ⟨pg_Fractions, hd_Fractions, po_Fractions, sa_Fractions⟩, ka_Fractions, gs, tks, km_Fractions⟩) (⟨kq_Rests_NoInverse, ⟨pg_Rests, hd_Rests, po_Rests, sa_Rests⟩, ka_Rests, gs, tks, km_Rests⟩))⟩,
    j_NoInverse := ⟨kit_own ic_NoInverse ty_NoInverse, (mem2 ⟨q_text_NoInverse, ⟨xg_NoText, xk_NoText, xs_NoText, xd_NoText, xa_NoText, gs, tks, xm_NoText⟩⟩ mem0), (fun i hi => nomatch hi)⟩,
    i_NoKind := ⟨kit_own ic_NoKind ty_NoKind, (mem2 ⟨q_text_NoKind, ⟨xg_NoText, xk_NoText, xs_NoText, xd_NoText, xa_NoText, gs, tks, xm_NoText⟩⟩ mem0), (kf_01 (⟨kq_Fractions_NoKind, ⟨pg_Fractions, hd_Fractions, po_Fractions, sa_Fractions⟩, ka_Fractions, gs, tks, km_Fractions⟩) (⟨kq_Rests_NoKind, ⟨pg_Rests, hd_Rests, po_Rests, sa_Rests⟩, ka_Rests, gs, tks, km_Rests⟩))⟩,
    j_NoKind := ⟨kit_own ic_NoKind ty_NoKind, (mem2 ⟨q_text_NoKind, ⟨xg_NoText, xk_NoText, xs_NoText, xd_NoText, xa_NoText, gs, tks, xm_NoText⟩⟩ mem0), (fun i hi => nomatch hi)⟩,
    i_NoName := ⟨kit_own ic_NoName ty_NoName, (mem2 ⟨q_text_NoName, ⟨xg_NoText, xk_NoText, xs_NoText, xd_NoText, xa_NoText, gs, tks, xm_NoText⟩⟩ mem0), (kf_01 (⟨kq_Fractions_NoName, ⟨pg_Fractions, hd_Fractions, po_Fractions, sa_Fractions⟩, ka_Fractions, gs, tks, km_Fractions⟩) (⟨kq_Rests_NoName, ⟨pg_Rests, hd_Rests, po_Rests, sa_Rests⟩, ka_Rests, gs, tks, km_Rests⟩))⟩,
    j_NoName := ⟨kit_own ic_NoName ty_NoName, (mem2 ⟨q_text_NoName, ⟨xg_NoText, xk_NoText, xs_NoText, xd_NoText, xa_NoText, gs, tks, xm_NoText⟩⟩ mem0), (fun i hi => nomatch hi)⟩,
    i_NoNumber := ⟨kit_own ic_NoNumber ty_NoNumber, (mem2 ⟨q_text_NoNumber, ⟨xg_NoText, xk_NoText, xs_NoText, xd_NoText, xa_NoText, gs, tks, xm_NoText⟩⟩ mem0), (kf_01 (⟨kq_Fractions_NoNumber, ⟨pg_Fractions, hd_Fractions, po_Fractions, sa_Fractions⟩, ka_Fractions, gs, tks, km_Fractions⟩) (⟨kq_Rests_NoNumber, ⟨pg_Rests, hd_Rests, po_Rests, sa_Rests⟩, ka_Rests, gs, tks, km_Rests⟩))⟩,
    j_NoNumber := ⟨kit_own ic_NoNumber ty_NoNumber, (mem2 ⟨q_text_NoNumber, ⟨xg_NoText, xk_NoText, xs_NoText, xd_NoText, xa_NoText, gs, tks, xm_NoText⟩⟩ mem0), (fun i hi => nomatch hi)⟩,
    i_NoRow := ⟨kit_own ic_NoRow ty_NoRow, (mem2 ⟨q_text_NoRow, ⟨xg_NoText, xk_NoText, xs_NoText, xd_NoText, xa_NoText, gs, tks, xm_NoText⟩⟩ mem0), (kf_01 (⟨kq_Fractions_NoRow, ⟨pg_Fractions, hd_Fractions, po_Fractions, sa_Fractions⟩, ka_Fractions, gs, tks, km_Fractions⟩) (⟨kq_Rests_NoRow, ⟨pg_Rests, hd_Rests, po_Rests, sa_Rests⟩, ka_Rests, gs, tks, km_Rests⟩))⟩,
    j_NoRow := ⟨kit_own ic_NoRow ty_NoRow, (mem2 ⟨q_text_NoRow, ⟨xg_NoText, xk_NoText, xs_NoText, xd_NoText, xa_NoText, gs, tks, xm_NoText⟩⟩ mem0), (fun i hi => nomatch hi)⟩,
    i_NoText := ⟨kit_own ic_NoText ty_NoText, (mem2 ⟨q_text_NoText, ⟨xg_NoText, xk_NoText, xs_NoText, xd_NoText, xa_NoText, gs, tks, xm_NoText⟩⟩ mem0), (kf_01 (⟨kq_Fractions_NoText, ⟨pg_Fractions, hd_Fractions, po_Fractions, sa_Fractions⟩, ka_Fractions, gs, tks, km_Fractions⟩) (⟨kq_Rests_NoText, ⟨pg_Rests, hd_Rests, po_Rests, sa_Rests⟩, ka_Rests, gs, tks, km_Rests⟩))⟩,
    i_NoTurn := ⟨kit_own ic_NoTurn ty_NoTurn, (mem2 ⟨q_text_NoTurn, ⟨xg_NoText, xk_NoText, xs_NoText, xd_NoText, xa_NoText, gs, tks, xm_NoText⟩⟩ mem0), (kf_01 (⟨kq_Fractions_NoTurn, ⟨pg_Fractions, hd_Fractions, po_Fractions, sa_Fractions⟩, ka_Fractions, gs, tks, km_Fractions⟩) (⟨kq_Rests_NoTurn, ⟨pg_Rests, hd_Rests, po_Rests, sa_Rests⟩, ka_Rests, gs, tks, km_Rests⟩))⟩,
    j_NoTurn := ⟨kit_own ic_NoTurn ty_NoTurn, (mem2 ⟨q_text_NoTurn, ⟨xg_NoText, xk_NoText, xs_NoText, xd_NoText, xa_NoText, gs, tks, xm_NoText⟩⟩ mem0), (fun i hi => nomatch hi)⟩,
    i_ValueError := ⟨kit_ve, (mem2 ⟨q_text_ValueError, ⟨xg_NoText, xk_NoText, xs_NoText, xd_NoText, xa_NoText, gs, tks, xm_NoText⟩⟩ mem0), (kf_01 (⟨kq_Fractions_ValueError, ⟨pg_Fractions, hd_Fractions, po_Fractions, sa_Fractions⟩, ka_Fractions, gs, tks, km_Fractions⟩) (⟨kq_Rests_ValueError, ⟨pg_Rests, hd_Rests, po_Rests, sa_Rests⟩, ka_Rests, gs, tks, km_Rests⟩))⟩,
    x_NoKind := ⟨rq_NoKind, PySem.W.mg_of X G n_NoKind, rk_NoKind, rs_NoKind, rt_NoKind⟩,
    x_NoText := ⟨rq_NoText, PySem.W.mg_of X G n_NoText, rk_NoText, rs_NoText, rt_NoText⟩,
    tryF := ⟨PySem.W.mg_of X G n_FrameError, (mem2 (PySem.W.exm_ref fs fd ft fx_text) mem0)⟩,
    clF := ⟨pg_Fractions, hd_Fractions, po_Fractions, sa_Fractions⟩,
    clR := ⟨pg_Rests, hd_Rests, po_Rests, sa_Rests⟩,
    noPrime := np,
    mk_Fr := ⟨mf, mi, mp, PySem.W.mg_of X G n_Fractions⟩,
    mk_Rs := ⟨_, _, ⟨mm, a_Rests_init_Rests, fn_Rests_init, mk⟩, fun_mk (st := s_Rests_init) l_Rests_init c_Rests_init k_Rests_init, PySem.W.mg_of X G n_Rests⟩,
    a_is_whole := ⟨_, _, fun_mk (st := s_is_whole) l_is_whole c_is_whole k_is_whole, PySem.W.mg_of X G a_is_whole⟩,
    a_divisor := ⟨_, _, fun_mk (st := s_divisor) l_divisor c_divisor k_divisor, PySem.W.mg_of X G a_divisor⟩,
    a_is_prime := ⟨_, _, fun_mk (st := s_is_prime) l_is_prime c_is_prime k_is_prime, PySem.W.mg_of X G a_is_prime⟩,
    a_figures := ⟨_, _, fun_mk (st := s_figures) l_figures c_figures k_figures, PySem.W.mg_of X G a_figures⟩,
    a_show_number := ⟨_, _, fun_mk (st := s_show_number) l_show_number c_show_number k_show_number, PySem.W.mg_of X G a_show_number⟩,
    a_law_whole := ⟨_, _, fun_mk (st := s_law_whole) l_law_whole c_law_whole k_law_whole, PySem.W.mg_of X G a_law_whole⟩,
    a_law_divisor := ⟨_, _, fun_mk (st := s_law_divisor) l_law_divisor c_law_divisor k_law_divisor, PySem.W.mg_of X G a_law_divisor⟩,
    a_law_is_prime := ⟨_, _, fun_mk (st := s_law_is_prime) l_law_is_prime c_law_is_prime k_law_is_prime, PySem.W.mg_of X G a_law_is_prime⟩,
    a_law_shown := ⟨_, _, fun_mk (st := s_law_shown) l_law_shown c_law_shown k_law_shown, PySem.W.mg_of X G a_law_shown⟩,
    a_law_sign := ⟨_, _, fun_mk (st := s_law_sign) l_law_sign c_law_sign k_law_sign, PySem.W.mg_of X G a_law_sign⟩,
    a_law_odd := ⟨_, _, fun_mk (st := s_law_odd) l_law_odd c_law_odd k_law_odd, PySem.W.mg_of X G a_law_odd⟩,
    a_law_figures := ⟨_, _, fun_mk (st := s_law_figures) l_law_figures c_law_figures k_law_figures, PySem.W.mg_of X G a_law_figures⟩,
    a_Fractions_is_number := ⟨_, _, (mem2 ⟨a_Fractions_is_number_Fractions, fn_Fractions_is_number, k_Fractions_is_number⟩ mem0), fun_mk (st := s_Fractions_is_number) l_Fractions_is_number c_Fractions_is_number k_Fractions_is_number⟩,
    a_Rests_is_number := ⟨_, _, (mem2 ⟨a_Rests_is_number_Rests, fn_Rests_is_number, k_Rests_is_number⟩ mem0), fun_mk (st := s_Rests_is_number) l_Rests_is_number c_Rests_is_number k_Rests_is_number⟩,
    a_whole := ⟨_, _, fun_mk (st := s_whole) l_whole c_whole k_whole, PySem.W.mg_of X G a_whole⟩,
    a_law_prime := ⟨_, _, fun_mk (st := s_law_prime) l_law_prime c_law_prime k_law_prime, PySem.W.mg_of X G a_law_prime⟩,
    a_law_lowest := ⟨_, _, fun_mk (st := s_law_lowest) l_law_lowest c_law_lowest k_law_lowest, PySem.W.mg_of X G a_law_lowest⟩,
    a_law_spoiled := ⟨_, _, fun_mk (st := s_law_spoiled) l_law_spoiled c_law_spoiled k_law_spoiled, PySem.W.mg_of X G a_law_spoiled⟩,
    a_law_told := ⟨_, _, fun_mk (st := s_law_told) l_law_told c_law_told k_law_told, PySem.W.mg_of X G a_law_told⟩,
    a_law_number_is := ⟨_, _, fun_mk (st := s_law_number_is) l_law_number_is c_law_number_is k_law_number_is, PySem.W.mg_of X G a_law_number_is⟩,
    a_read_fraction := ⟨_, _, fun_mk (st := s_read_fraction) l_read_fraction c_read_fraction k_read_fraction, PySem.W.mg_of X G a_read_fraction⟩,
    a_law_drawn := ⟨_, _, fun_mk (st := s_law_drawn) l_law_drawn c_law_drawn k_law_drawn, PySem.W.mg_of X G a_law_drawn⟩,
    a_read_number := ⟨_, _, fun_mk (st := s_read_number) l_read_number c_read_number k_read_number, PySem.W.mg_of X G a_read_number⟩,
    a_law_kind := ⟨_, _, fun_mk (st := s_law_kind) l_law_kind c_law_kind k_law_kind, PySem.W.mg_of X G a_law_kind⟩,
    a_law_right := ⟨_, _, fun_mk (st := s_law_right) l_law_right c_law_right k_law_right, PySem.W.mg_of X G a_law_right⟩ }
  have e := hfa.symm.trans (PySem.W.mg_of X G a_law)
  cases e
  refine ⟨PySem.W.fnOf "law" "law" (defArgs s_law) (defBody s_law) (defScope s_law) .none kV_law dc_law pm_law an_law cd_law ct_law, ⟨K, C_Fractions, C_Rests, 0, fun n => match n with | .kind => C_NoKind | .number => C_NoNumber | .fit => C_NoFit | .turn => C_NoTurn | .inverse => C_NoInverse | .text => C_NoText | .name => C_NoName | .row => C_NoRow, 0, C_FrameError⟩, rfl, fun s u => .of_eq rfl, fun base _ _ => ?_⟩
  exact o_law T (fun_mk (st := s_law) l_law c_law k_law)
end PL.K81

open PySem PySem.W PyProof.Rows
set_option maxRecDepth 100000 in
set_option maxHeartbeats 0 in
theorem PySem.Challenge.cw_turnframe_k81_numbers_as_texts_holds : PySem.Challenge.rw_turnframe_k81_numbers_as_texts.Holds := by
  w_on; o_law; k_head; (case hw => w_witness2)
  k_fill
  refine PL.walk (l := PySem.Challenge.rw_turnframe_k81_numbers_as_texts) (k := 6) (x := "_law_script") (R := PL.K81.R_law) rfl rfl ⟨rfl, by decide, by decide⟩ (fun w h Y => PySem.W.kIn_of Y) ?F PL.K81.r_law
  case F =>
    intro w mg fa h KX G hmg
    refine' PL.K81.all_mk KX G hmg ?n_Fractions ?n_FrameError ?n_NoFit ?n_NoInverse ?n_NoKind ?n_NoName ?n_NoNumber ?n_NoRow ?n_NoText ?n_NoTurn ?n_Rests ?e_ValueError ?e_abs ?e_bool ?e_int ?e_isinstance ?e_len ?e_str ?e_tuple ?e_FIGURES ?e_LONGEST ?e_MOST ?gs ?tks ?xg_NoText ?xk_NoText ?xs_NoText ?xd_NoText ?xa_NoText ?xm_NoText ?ic_Fractions ?ty_Fractions ?q_text_Fractions ?ka_Fractions ?km_Fractions ?kq_Fractions_Fractions ?ka_Rests ?km_Rests ?kq_Rests_Fractions ?ic_NoFit ?ty_NoFit ?q_text_NoFit ?kq_Fractions_NoFit ?kq_Rests_NoFit ?ic_NoInverse ?ty_NoInverse ?q_text_NoInverse ?kq_Fractions_NoInverse ?kq_Rests_NoInverse ?ic_NoKind ?ty_NoKind ?q_text_NoKind ?kq_Fractions_NoKind ?kq_Rests_NoKind ?ic_NoName ?ty_NoName ?q_text_NoName ?kq_Fractions_NoName ?kq_Rests_NoName ?ic_NoNumber ?ty_NoNumber ?q_text_NoNumber ?kq_Fractions_NoNumber ?kq_Rests_NoNumber ?ic_NoRow ?ty_NoRow ?q_text_NoRow ?kq_Fractions_NoRow ?kq_Rests_NoRow ?ic_NoText ?ty_NoText ?q_text_NoText ?kq_Fractions_NoText ?kq_Rests_NoText ?ic_NoTurn ?ty_NoTurn ?q_text_NoTurn ?kq_Fractions_NoTurn ?kq_Rests_NoTurn ?q_text_ValueError ?kq_Fractions_ValueError ?kq_Rests_ValueError ?rq_NoKind ?rk_NoKind ?rs_NoKind ?rt_NoKind ?rq_NoText ?rk_NoText ?rs_NoText ?rt_NoText ?fs ?fd ?ft ?fx_text ?pg_Fractions ?hd_Fractions ?po_Fractions ?sa_Fractions ?pg_Rests ?hd_Rests ?po_Rests ?sa_Rests ?np ?mf ?mi ?mp ?a_is_whole ?l_is_whole ?c_is_whole ?k_is_whole ?a_divisor ?l_divisor ?c_divisor ?k_divisor ?a_is_prime ?l_is_prime ?c_is_prime ?k_is_prime ?a_figures ?l_figures ?c_figures ?k_figures ?a_show_number ?l_show_number ?c_show_number ?k_show_number ?a_law_whole ?l_law_whole ?c_law_whole ?k_law_whole ?a_law_divisor ?l_law_divisor ?c_law_divisor ?k_law_divisor ?a_law_is_prime ?l_law_is_prime ?c_law_is_prime ?k_law_is_prime ?a_law_shown ?l_law_shown ?c_law_shown ?k_law_shown ?a_law_sign ?l_law_sign ?c_law_sign ?k_law_sign ?a_law_odd ?l_law_odd ?c_law_odd ?k_law_odd ?a_law_figures ?l_law_figures ?c_law_figures ?k_law_figures ?a_Fractions_is_number_Fractions ?fn_Fractions_is_number ?l_Fractions_is_number ?c_Fractions_is_number ?k_Fractions_is_number ?a_Rests_init_Rests ?fn_Rests_init ?l_Rests_init ?c_Rests_init ?k_Rests_init ?mm ?mk ?a_Rests_is_number_Rests ?fn_Rests_is_number ?l_Rests_is_number ?c_Rests_is_number ?k_Rests_is_number ?a_whole ?l_whole ?c_whole ?k_whole ?a_law_prime ?l_law_prime ?c_law_prime ?k_law_prime ?a_law_lowest ?l_law_lowest ?c_law_lowest ?k_law_lowest ?a_law_spoiled ?l_law_spoiled ?c_law_spoiled ?k_law_spoiled ?a_law_told ?l_law_told ?c_law_told ?k_law_told ?a_law_number_is ?l_law_number_is ?c_law_number_is ?k_law_number_is ?a_read_fraction ?l_read_fraction ?c_read_fraction ?k_read_fraction ?a_law_drawn ?l_law_drawn ?c_law_drawn ?k_law_drawn ?a_read_number ?l_read_number ?c_read_number ?k_read_number ?a_law_kind ?l_law_kind ?c_law_kind ?k_law_kind ?a_law_right ?l_law_right ?c_law_right ?k_law_right ?a_law ?l_law ?c_law ?k_law
    (case n_Fractions => k_is)
    (case n_FrameError => k_is)
    (case n_NoFit => k_is)
    (case n_NoInverse => k_is)
    (case n_NoKind => k_is)
    (case n_NoName => k_is)
    (case n_NoNumber => k_is)
    (case n_NoRow => k_is)
    (case n_NoText => k_is)
    (case n_NoTurn => k_is)
    (case n_Rests => k_is)
    (case e_ValueError => k_is)
    (case e_abs => k_is)
    (case e_bool => k_is)
    (case e_int => k_is)
    (case e_isinstance => k_is)
    (case e_len => k_is)
    (case e_str => k_is)
    (case e_tuple => k_is)
    (case e_FIGURES => k_is)
    (case e_LONGEST => k_is)
    (case e_MOST => k_is)
    (case gs => k_is)
    (case tks => k_is)
    (case xg_NoText => k_is)
    (case xk_NoText => k_is)
    (case xs_NoText => k_is)
    (case xd_NoText => k_is)
    (case xa_NoText => k_is)
    (case xm_NoText => k_is)
    (case ic_Fractions => k_is)
    (case ty_Fractions => k_is)
    (case q_text_Fractions => kernel_rfl)
    (case ka_Fractions => k_is)
    (case km_Fractions => k_is)
    (case kq_Fractions_Fractions => kernel_rfl)
    (case ka_Rests => k_is)
    (case km_Rests => k_is)
    (case kq_Rests_Fractions => kernel_rfl)
    (case ic_NoFit => k_is)
    (case ty_NoFit => k_is)
    (case q_text_NoFit => kernel_rfl)
    (case kq_Fractions_NoFit => kernel_rfl)
    (case kq_Rests_NoFit => kernel_rfl)
    (case ic_NoInverse => k_is)
    (case ty_NoInverse => k_is)
    (case q_text_NoInverse => kernel_rfl)
    (case kq_Fractions_NoInverse => kernel_rfl)
    (case kq_Rests_NoInverse => kernel_rfl)
    (case ic_NoKind => k_is)
    (case ty_NoKind => k_is)
    (case q_text_NoKind => kernel_rfl)
    (case kq_Fractions_NoKind => kernel_rfl)
    (case kq_Rests_NoKind => kernel_rfl)
    (case ic_NoName => k_is)
    (case ty_NoName => k_is)
    (case q_text_NoName => kernel_rfl)
    (case kq_Fractions_NoName => kernel_rfl)
    (case kq_Rests_NoName => kernel_rfl)
    (case ic_NoNumber => k_is)
    (case ty_NoNumber => k_is)
    (case q_text_NoNumber => kernel_rfl)
    (case kq_Fractions_NoNumber => kernel_rfl)
    (case kq_Rests_NoNumber => kernel_rfl)
    (case ic_NoRow => k_is)
    (case ty_NoRow => k_is)
    (case q_text_NoRow => kernel_rfl)
    (case kq_Fractions_NoRow => kernel_rfl)
    (case kq_Rests_NoRow => kernel_rfl)
    (case ic_NoText => k_is)
    (case ty_NoText => k_is)
    (case q_text_NoText => kernel_rfl)
    (case kq_Fractions_NoText => kernel_rfl)
    (case kq_Rests_NoText => kernel_rfl)
    (case ic_NoTurn => k_is)
    (case ty_NoTurn => k_is)
    (case q_text_NoTurn => kernel_rfl)
    (case kq_Fractions_NoTurn => kernel_rfl)
    (case kq_Rests_NoTurn => kernel_rfl)
    (case q_text_ValueError => kernel_rfl)
    (case kq_Fractions_ValueError => kernel_rfl)
    (case kq_Rests_ValueError => kernel_rfl)
    (case rq_NoKind => kernel_rfl)
    (case rk_NoKind => k_is)
    (case rs_NoKind => k_is)
    (case rt_NoKind => k_is)
    (case rq_NoText => kernel_rfl)
    (case rk_NoText => k_is)
    (case rs_NoText => k_is)
    (case rt_NoText => k_is)
    (case fs => k_is)
    (case fd => k_is)
    (case ft => k_is)
    (case fx_text => k_is)
    (case pg_Fractions => k_is)
    (case hd_Fractions => k_is)
    (case po_Fractions => k_is)
    (case sa_Fractions => k_is)
    (case pg_Rests => k_is)
    (case hd_Rests => k_is)
    (case po_Rests => k_is)
    (case sa_Rests => k_is)
    (case np => k_is)
    (case mf => k_is)
    (case mi => k_is)
    (case mp => k_is)
    (case a_is_whole => k_is)
    (case l_is_whole => k_is)
    (case c_is_whole => k_is)
    (case k_is_whole => k_is)
    (case a_divisor => k_is)
    (case l_divisor => k_is)
    (case c_divisor => k_is)
    (case k_divisor => k_is)
    (case a_is_prime => k_is)
    (case l_is_prime => k_is)
    (case c_is_prime => k_is)
    (case k_is_prime => k_is)
    (case a_figures => k_is)
    (case l_figures => k_is)
    (case c_figures => k_is)
    (case k_figures => k_is)
    (case a_show_number => k_is)
    (case l_show_number => k_is)
    (case c_show_number => k_is)
    (case k_show_number => k_is)
    (case a_law_whole => k_is)
    (case l_law_whole => k_is)
    (case c_law_whole => k_is)
    (case k_law_whole => k_is)
    (case a_law_divisor => k_is)
    (case l_law_divisor => k_is)
    (case c_law_divisor => k_is)
    (case k_law_divisor => k_is)
    (case a_law_is_prime => k_is)
    (case l_law_is_prime => k_is)
    (case c_law_is_prime => k_is)
    (case k_law_is_prime => k_is)
    (case a_law_shown => k_is)
    (case l_law_shown => k_is)
    (case c_law_shown => k_is)
    (case k_law_shown => k_is)
    (case a_law_sign => k_is)
    (case l_law_sign => k_is)
    (case c_law_sign => k_is)
    (case k_law_sign => k_is)
    (case a_law_odd => k_is)
    (case l_law_odd => k_is)
    (case c_law_odd => k_is)
    (case k_law_odd => k_is)
    (case a_law_figures => k_is)
    (case l_law_figures => k_is)
    (case c_law_figures => k_is)
    (case k_law_figures => k_is)
    (case a_Fractions_is_number_Fractions => k_is)
    (case fn_Fractions_is_number => k_is)
    (case l_Fractions_is_number => k_is)
    (case c_Fractions_is_number => k_is)
    (case k_Fractions_is_number => k_is)
    (case a_Rests_init_Rests => k_is)
    (case fn_Rests_init => k_is)
    (case l_Rests_init => k_is)
    (case c_Rests_init => k_is)
    (case k_Rests_init => k_is)
    (case mm => k_is)
    (case mk => k_is)
    (case a_Rests_is_number_Rests => k_is)
    (case fn_Rests_is_number => k_is)
    (case l_Rests_is_number => k_is)
    (case c_Rests_is_number => k_is)
    (case k_Rests_is_number => k_is)
    (case a_whole => k_is)
    (case l_whole => k_is)
    (case c_whole => k_is)
    (case k_whole => k_is)
    (case a_law_prime => k_is)
    (case l_law_prime => k_is)
    (case c_law_prime => k_is)
    (case k_law_prime => k_is)
    (case a_law_lowest => k_is)
    (case l_law_lowest => k_is)
    (case c_law_lowest => k_is)
    (case k_law_lowest => k_is)
    (case a_law_spoiled => k_is)
    (case l_law_spoiled => k_is)
    (case c_law_spoiled => k_is)
    (case k_law_spoiled => k_is)
    (case a_law_told => k_is)
    (case l_law_told => k_is)
    (case c_law_told => k_is)
    (case k_law_told => k_is)
    (case a_law_number_is => k_is)
    (case l_law_number_is => k_is)
    (case c_law_number_is => k_is)
    (case k_law_number_is => k_is)
    (case a_read_fraction => k_is)
    (case l_read_fraction => k_is)
    (case c_read_fraction => k_is)
    (case k_read_fraction => k_is)
    (case a_law_drawn => k_is)
    (case l_law_drawn => k_is)
    (case c_law_drawn => k_is)
    (case k_law_drawn => k_is)
    (case a_read_number => k_is)
    (case l_read_number => k_is)
    (case c_read_number => k_is)
    (case k_read_number => k_is)
    (case a_law_kind => k_is)
    (case l_law_kind => k_is)
    (case c_law_kind => k_is)
    (case k_law_kind => k_is)
    (case a_law_right => k_is)
    (case l_law_right => k_is)
    (case c_law_right => k_is)
    (case k_law_right => k_is)
    (case a_law => k_is)
    (case l_law => k_is)
    (case c_law => k_is)
    (case k_law => k_is)
#print axioms PySem.Challenge.cw_turnframe_k81_numbers_as_texts_holds
