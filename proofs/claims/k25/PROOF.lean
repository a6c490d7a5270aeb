import PyProof.Rows.All
import Wide.All
import OpenK.AllK
import Wide.FinOn
import HandS.ForMost
import HandS.Wide
import HandS.Defaults
import HandS.Deep
import HandS.IsInst
import HandS.Head0
import HandS.Head1
import HandS.Head2
import HandS.HeadEnd
import HandS.HeadHook1
import HandS.HeadHook2
import HandS.More
import KE.DataCmp
import HandS.TupMul
import PySem.Challenge.RW_slotwise_k25_one_round
set_option Elab.async false
set_option linter.all false
set_option maxRecDepth 100000
set_option maxHeartbeats 4000000
/-! Mi1: data trees in the abstract heap, owned lists, the relation between values and mirrors -/
namespace Mi
open PySem PySem.Spec PyProof.Rows L2

abbrev D := PyData
abbrev KK := PySem.W.Frag

mutual
/-- the value v bears the data tree; O: addresses that may still change -/
def Dat (K : KK) (H : Hp) (O : List Addr) : D → V → Prop
  | .none, v => v = .non
  | .bool b, v => v = .bl b
  | .int i, v => v = .int i
  | .str x, v => v = .str x
  | .list ds, v => ∃ a vs, v = .ref a ∧ SqL K H a vs ∧ a ∉ O ∧ Dats K H O ds vs
  | .tuple ds, v => ∃ a vs, v = .ref a ∧ SqT K H a vs ∧ a ∉ O ∧ Dats K H O ds vs
  | .dict _, _ => False
def Dats (K : KK) (H : Hp) (O : List Addr) : List D → List V → Prop
  | [], vs => vs = []
  | d :: ds, vs => ∃ v r, vs = v :: r ∧ Dat K H O d v ∧ Dats K H O ds r
end

/-- written objects are not tracked -/
def Good (K : KK) (H : Hp) : Prop := ∀ a o, K.lookup a = some o → H a = none

section
variable {K : KK} {H H' : Hp} {O O' : List Addr}
mutual
theorem Dat.mono (hL : ∀ a vs, a ∉ O → SqL K H a vs → SqL K H' a vs ∧ a ∉ O') (hT : ∀ a vs, a ∉ O → SqT K H a vs → SqT K H' a vs ∧ a ∉ O') :
    ∀ (d : D) (v : V), Dat K H O d v → Dat K H' O' d v
  | .none, _, h => by simpa [Dat] using h
  | .bool _, _, h => by simpa [Dat] using h
  | .int _, _, h => by simpa [Dat] using h
  | .str _, _, h => by simpa [Dat] using h
  | .list ds, v, h => by
    simp only [Dat] at h ⊢
    obtain ⟨a, vs, e, h1, h2, h3⟩ := h
    exact ⟨a, vs, e, (hL a vs h2 h1).1, (hL a vs h2 h1).2, Dats.mono hL hT ds vs h3⟩
  | .tuple ds, v, h => by
    simp only [Dat] at h ⊢
    obtain ⟨a, vs, e, h1, h2, h3⟩ := h
    exact ⟨a, vs, e, (hT a vs h2 h1).1, (hT a vs h2 h1).2, Dats.mono hL hT ds vs h3⟩
  | .dict _, _, h => by simp [Dat] at h
theorem Dats.mono (hL : ∀ a vs, a ∉ O → SqL K H a vs → SqL K H' a vs ∧ a ∉ O') (hT : ∀ a vs, a ∉ O → SqT K H a vs → SqT K H' a vs ∧ a ∉ O') :
    ∀ (ds : List D) (vs : List V), Dats K H O ds vs → Dats K H' O' ds vs
  | [], _, h => by simpa [Dats] using h
  | d :: ds, vs, h => by
    simp only [Dats] at h ⊢
    obtain ⟨v, r, e, h1, h2⟩ := h
    exact ⟨v, r, e, Dat.mono hL hT d v h1, Dats.mono hL hT ds r h2⟩
end

theorem Rd.to {a : Addr} {u : HO} (e : ∀ o, H a = some o → H' a = some o) (h : Rd H a u) : Rd H' a u := by
  rcases h with h | ⟨o, h⟩
  · exact .inl (e _ h)
  · exact .inr ⟨o, e _ h⟩
theorem sqL_to {a : Addr} {vs : List V} (e : ∀ o, H a = some o → H' a = some o) (h : SqL K H a vs) : SqL K H' a vs := by
  rcases h with h | h
  · exact .inl (Rd.to e h)
  · exact .inr h
theorem sqT_to {a : Addr} {vs : List V} (e : ∀ o, H a = some o → H' a = some o) (h : SqT K H a vs) : SqT K H' a vs := by
  rcases h with h | h
  · exact .inl (Rd.to e h)
  · exact .inr h
/-- the heap beyond O is kept, O does not grow -/
theorem Dat.to (e : ∀ a o, a ∉ O → H a = some o → H' a = some o) (s : ∀ a, a ∈ O' → a ∈ O) (d : D) (v : V) (h : Dat K H O d v) : Dat K H' O' d v :=
  Dat.mono (fun a vs n q => ⟨sqL_to (fun o z => e a o n z) q, fun z => n (s a z)⟩) (fun a vs n q => ⟨sqT_to (fun o z => e a o n z) q, fun z => n (s a z)⟩) d v h
theorem Dats.to (e : ∀ a o, a ∉ O → H a = some o → H' a = some o) (s : ∀ a, a ∈ O' → a ∈ O) (d : List D) (v : List V) (h : Dats K H O d v) : Dats K H' O' d v :=
  Dats.mono (fun a vs n q => ⟨sqL_to (fun o z => e a o n z) q, fun z => n (s a z)⟩) (fun a vs n q => ⟨sqT_to (fun o z => e a o n z) q, fun z => n (s a z)⟩) d v h
theorem sqL_ne {a p : Addr} {vs : List V} (hp : H p = none) (hk : K.lookup p = none) (h : SqL K H a vs) : a ≠ p := by
  rintro rfl
  rcases h with (h | ⟨o, h⟩) | ⟨o, _, _, h, _⟩
  · rw [hp] at h; cases h
  · rw [hp] at h; cases h
  · rw [hk] at h; cases h
theorem sqT_ne {a p : Addr} {vs : List V} (hp : H p = none) (hk : K.lookup p = none) (h : SqT K H a vs) : a ≠ p := by
  rintro rfl
  rcases h with (h | ⟨o, h⟩) | ⟨o, _, _, h, _⟩
  · rw [hp] at h; cases h
  · rw [hp] at h; cases h
  · rw [hk] at h; cases h
/-- a new object p is laid, p may be owned -/
theorem Dat.new {p : Addr} {u : HO} (hp : H p = none) (hk : K.lookup p = none) (d : D) (v : V) (h : Dat K H O d v) : Dat K (upd H p u) (p :: O) d v :=
  Dat.mono (fun a vs n q => ⟨sqL_to (fun o z => by rw [upd_ne (sqL_ne hp hk q)]; exact z) q, fun z => (List.mem_cons.mp z).elim (sqL_ne hp hk q) n⟩)
    (fun a vs n q => ⟨sqT_to (fun o z => by rw [upd_ne (sqT_ne hp hk q)]; exact z) q, fun z => (List.mem_cons.mp z).elim (sqT_ne hp hk q) n⟩) d v h
theorem Dats.new {p : Addr} {u : HO} (hp : H p = none) (hk : K.lookup p = none) (d : List D) (v : List V) (h : Dats K H O d v) : Dats K (upd H p u) (p :: O) d v :=
  Dats.mono (fun a vs n q => ⟨sqL_to (fun o z => by rw [upd_ne (sqL_ne hp hk q)]; exact z) q, fun z => (List.mem_cons.mp z).elim (sqL_ne hp hk q) n⟩)
    (fun a vs n q => ⟨sqT_to (fun o z => by rw [upd_ne (sqT_ne hp hk q)]; exact z) q, fun z => (List.mem_cons.mp z).elim (sqT_ne hp hk q) n⟩) d v h

theorem Dats.length : ∀ {ds : List D} {vs : List V}, Dats K H O ds vs → ds.length = vs.length
  | [], _, h => by simp only [Dats] at h; subst h; rfl
  | d :: ds, _, h => by
    simp only [Dats] at h
    obtain ⟨v, r, rfl, _, h2⟩ := h
    simp [Dats.length h2]
theorem Dats.get : ∀ {ds : List D} {vs : List V} {i : Nat} {d : D}, Dats K H O ds vs → ds[i]? = some d → ∃ v, vs[i]? = some v ∧ Dat K H O d v
  | [], _, _, _, _, e => by simp at e
  | d :: ds, _, i, x, h, e => by
    simp only [Dats] at h
    obtain ⟨v, r, rfl, h1, h2⟩ := h
    cases i with
    | zero => simp at e; subst e; exact ⟨v, rfl, h1⟩
    | succ i => simpa using Dats.get (i := i) h2 (by simpa using e)
theorem Dats.append : ∀ {ds es : List D} {vs us : List V}, Dats K H O ds vs → Dats K H O es us → Dats K H O (ds ++ es) (vs ++ us)
  | [], es, _, us, h, g => by simp only [Dats] at h; subst h; exact g
  | d :: ds, es, _, us, h, g => by
    simp only [Dats] at h
    obtain ⟨v, r, rfl, h1, h2⟩ := h
    exact ⟨v, r ++ us, rfl, h1, Dats.append h2 g⟩
theorem Dats.one {d : D} {v : V} (h : Dat K H O d v) : Dats K H O [d] [v] := ⟨v, [], rfl, h, rfl⟩
theorem Dats.set : ∀ {ds : List D} {vs : List V} (i : Nat) {d : D} {v : V}, Dats K H O ds vs → Dat K H O d v → Dats K H O (ds.set i d) (vs.set i v)
  | [], _, _, _, _, h, _ => by simp only [Dats] at h; subst h; rfl
  | d :: ds, _, i, x, y, h, g => by
    simp only [Dats] at h
    obtain ⟨v, r, rfl, h1, h2⟩ := h
    cases i with
    | zero => exact ⟨y, r, rfl, g, h2⟩
    | succ i => exact ⟨v, r.set i y, rfl, h1, Dats.set i h2 g⟩
theorem Dats.take : ∀ {ds : List D} {vs : List V} (n : Nat), Dats K H O ds vs → Dats K H O (ds.take n) (vs.take n)
  | [], _, n, h => by simp only [Dats] at h; subst h; simp [Dats]
  | d :: ds, _, n, h => by
    simp only [Dats] at h
    obtain ⟨v, r, rfl, h1, h2⟩ := h
    cases n with
    | zero => simp [Dats]
    | succ n => exact ⟨v, r.take n, rfl, h1, Dats.take n h2⟩
theorem Dats.drop : ∀ {ds : List D} {vs : List V} (n : Nat), Dats K H O ds vs → Dats K H O (ds.drop n) (vs.drop n)
  | [], _, n, h => by simp only [Dats] at h; subst h; simp [Dats]
  | d :: ds, _, n, h => by
    simp only [Dats] at h
    obtain ⟨v, r, rfl, h1, h2⟩ := h
    cases n with
    | zero => exact ⟨v, r, rfl, h1, h2⟩
    | succ n => simpa using Dats.drop n h2
theorem Dats.nil_iff {vs : List V} : Dats K H O [] vs ↔ vs = [] := by simp [Dats]
theorem Dats.ints : ∀ {ns : List Int} {vs : List V}, Dats K H O (ns.map PyData.int) vs → vs = ns.map V.int
  | [], _, h => by simpa [Dats] using h
  | n :: ns, _, h => by
    simp only [List.map_cons, Dats] at h
    obtain ⟨v, r, rfl, h1, h2⟩ := h
    simp only [Dat] at h1
    subst h1
    rw [Dats.ints h2]; rfl
theorem dats_ints : ∀ {ns : List Int}, Dats K H O (ns.map PyData.int) (ns.map V.int)
  | [] => rfl
  | n :: ns => ⟨_, _, rfl, rfl, dats_ints⟩
end

/-! ### values of mirrors: data, or an owned list -/
inductive W where
  | d (x : D)
  | l (xs : List D)
def vw : W → D
  | .d x => x
  | .l xs => .list xs
@[simp] theorem vw_d (x : D) : vw (.d x) = x := rfl
@[simp] theorem vw_l (xs : List D) : vw (.l xs) = .list xs := rfl

def ow : V × W → Option Addr
  | (.ref a, .l _) => some a
  | _ => none
abbrev owned (L : List (V × W)) : List Addr := L.filterMap ow
def RW (K : KK) (H : Hp) (O : List Addr) : V → W → Prop
  | v, .d x => Dat K H O x v
  | v, .l xs => ∃ a vs, v = .ref a ∧ H a = some (.lst vs) ∧ Dats K H O xs vs
structure Rels (K : KK) (H : Hp) (L : List (V × W)) : Prop where
  nd : (owned L).Nodup
  at_ : ∀ p ∈ L, RW K H (owned L) p.1 p.2

section
variable {K : KK} {H H' : Hp} {O O' : List Addr} {L L' T : List (V × W)}
theorem RW.to (e : ∀ a o, a ∉ O → H a = some o → H' a = some o) (s : ∀ a, a ∈ O' → a ∈ O) {v : V} {w : W} (k : ∀ a o, v = .ref a → (∃ xs, w = .l xs) → H a = some o → H' a = some o) (h : RW K H O v w) : RW K H' O' v w := by
  cases w with
  | d x => exact Dat.to e s x v h
  | l xs =>
    obtain ⟨a, vs, rfl, h1, h2⟩ := h
    exact ⟨a, vs, rfl, k a _ rfl ⟨_, rfl⟩ h1, Dats.to e s xs vs h2⟩
theorem Rels.perm (h : Rels K H L) (p : L.Perm L') : Rels K H L' := by
  have po : (owned L).Perm (owned L') := p.filterMap ow
  refine ⟨(po.nodup_iff).mp h.nd, fun q hq => ?_⟩
  exact RW.to (fun _ _ _ z => z) (fun a z => po.mem_iff.mpr z) (fun _ _ _ _ z => z) (h.at_ q (p.mem_iff.mpr hq))
theorem Rels.sub (h : Rels K H L) (p : L'.Sublist L) : Rels K H L' := by
  have po : (owned L').Sublist (owned L) := p.filterMap ow
  refine ⟨h.nd.sublist po, fun q hq => ?_⟩
  exact RW.to (fun _ _ _ z => z) (fun a z => po.mem z) (fun _ _ _ _ z => z) (h.at_ q (p.mem hq))
theorem Rels.tail {p : V × W} (h : Rels K H (p :: L)) : Rels K H L := h.sub (List.sublist_cons_self _ _)
/-- a further datum is held -/
theorem Rels.data {v : V} {d : D} (h : Rels K H L) (q : Dat K H (owned L) d v) : Rels K H ((v, .d d) :: L) := by
  have e : owned ((v, W.d d) :: L) = owned L := by
    unfold owned
    rw [List.filterMap_cons]
    cases v <;> rfl
  refine ⟨by rw [e]; exact h.nd, fun p hp => ?_⟩
  rw [e]
  rcases List.mem_cons.mp hp with rfl | hp
  · exact q
  · exact h.at_ p hp
theorem owned_d {v : V} {d : D} : owned ((v, W.d d) :: L) = owned L := by
  unfold owned
  rw [List.filterMap_cons]
  cases v <;> rfl
theorem owned_l {a : Addr} {xs : List D} : owned ((V.ref a, W.l xs) :: L) = a :: owned L := by
  unfold owned
  rw [List.filterMap_cons]
  rfl
theorem mem_owned {a : Addr} : a ∈ owned L ↔ ∃ xs, (V.ref a, W.l xs) ∈ L := by
  unfold owned
  rw [List.mem_filterMap]
  constructor
  · rintro ⟨⟨v, w⟩, hm, e⟩
    cases v <;> cases w <;> simp [ow] at e
    subst e
    exact ⟨_, hm⟩
  · rintro ⟨xs, hm⟩
    exact ⟨_, hm, rfl⟩
/-- all that is tracked is kept -/
theorem Rels.ext (h : Rels K H L) (e : ∀ a o, H a = some o → H' a = some o) : Rels K H' L :=
  ⟨h.nd, fun p hp => RW.to (fun a o _ z => e a o z) (fun _ z => z) (fun a o _ _ z => e a o z) (h.at_ p hp)⟩
/-- a new object that is not owned is laid -/
theorem Rels.laid {p : Addr} {u : HO} (h : Rels K H L) (hp : H p = none) : Rels K (upd H p u) L :=
  h.ext fun a o z => by rw [upd_ne (ne_of_none z hp)]; exact z
theorem Rels.newTup {p : Addr} {ds : List D} {vs : List V} (h : Rels K H L) (hp : H p = none) (hk : K.lookup p = none) (q : Dats K H (owned L) ds vs) : Rels K (upd H p (.tup vs)) ((.ref p, .d (.tuple ds)) :: L) := by
  refine (h.laid hp).data ⟨p, vs, rfl, SqT.of upd_same, fun z => ?_, ?_⟩
  · obtain ⟨xs, hm⟩ := mem_owned.mp z
    obtain ⟨a, us, e, h1, _⟩ := h.at_ _ hm
    cases e
    rw [hp] at h1; cases h1
  · exact Dats.to (fun a o _ z => by rw [upd_ne (ne_of_none z hp)]; exact z) (fun _ z => z) ds vs q
theorem Rels.newOwn {p : Addr} {ds : List D} {vs : List V} (h : Rels K H L) (hp : H p = none) (hk : K.lookup p = none) (q : Dats K H (owned L) ds vs) : Rels K (upd H p (.lst vs)) ((.ref p, .l ds) :: L) := by
  have np : p ∉ owned L := fun z => by
    obtain ⟨xs, hm⟩ := mem_owned.mp z
    obtain ⟨a, us, e, h1, _⟩ := h.at_ _ hm
    cases e
    rw [hp] at h1; cases h1
  refine ⟨by rw [owned_l]; exact List.nodup_cons.mpr ⟨np, h.nd⟩, fun x hx => ?_⟩
  rw [owned_l]
  rcases List.mem_cons.mp hx with rfl | hx
  · exact ⟨p, vs, rfl, upd_same, Dats.new hp hk ds vs q⟩
  · obtain ⟨v, w⟩ := x
    have g := h.at_ _ hx
    cases w with
    | d x => exact Dat.new hp hk x v g
    | l xs =>
      obtain ⟨a, us, e, h1, h2⟩ := g
      exact ⟨a, us, e, by rw [upd_ne (ne_of_none h1 hp)]; exact h1, Dats.new hp hk xs us h2⟩
/-- an owned list is written -/
theorem Rels.write {a : Addr} {xs ys : List D} {us : List V} (h : Rels K H ((.ref a, .l xs) :: L)) (q : Dats K H (owned ((.ref a, .l xs) :: L)) ys us) : Rels K (upd H a (.lst us)) ((.ref a, .l ys) :: L) := by
  have nd := h.nd
  rw [owned_l] at nd q
  have na : a ∉ owned L := (List.nodup_cons.mp nd).1
  have k : ∀ b o, b ∉ a :: owned L → H b = some o → upd H a (.lst us) b = some o := fun b o n z => by
    rw [upd_ne (fun e => n (by rw [e]; exact List.mem_cons_self))]; exact z
  refine ⟨by rw [owned_l]; exact nd, fun x hx0 => ?_⟩
  rw [owned_l]
  rcases List.mem_cons.mp hx0 with rfl | hx
  · exact ⟨a, us, rfl, upd_same, Dats.to k (fun _ z => z) ys us q⟩
  · have g := h.at_ x (List.mem_cons_of_mem _ hx)
    rw [owned_l] at g
    obtain ⟨v, w⟩ := x
    refine RW.to k (fun _ z => z) (fun b o e ⟨zs, e2⟩ z => ?_) g
    rw [upd_ne]
    · exact z
    · rintro rfl
      have e1 : v = V.ref b := e
      have e3 : w = W.l zs := e2
      subst e1 e3
      exact na (mem_owned.mpr ⟨zs, hx⟩)
/-- an owned list is frozen -/
theorem Rels.freeze {v : V} {xs : List D} (h : Rels K H ((v, .l xs) :: L)) : Rels K H ((v, .d (.list xs)) :: L) := by
  obtain ⟨a, vs, e, h1, h2⟩ := h.at_ _ List.mem_cons_self
  have e' : v = .ref a := e
  subst e'
  have nd := h.nd
  rw [owned_l] at nd h2
  refine h.tail.data ⟨a, vs, rfl, SqL.of h1, (List.nodup_cons.mp nd).1, Dats.to (fun _ _ _ z => z) (fun b z => List.mem_cons_of_mem _ z) xs vs h2⟩
theorem Rels.fz {v : V} {w : W} (h : Rels K H ((v, w) :: L)) : Rels K H ((v, .d (vw w)) :: L) := by
  cases w with
  | d x => exact h
  | l xs => exact h.freeze

/-- v is held with the view d -/
def Vw (L : List (V × W)) (v : V) (d : D) : Prop := ∃ w, (v, w) ∈ L ∧ vw w = d
theorem Vw.cons {p : V × W} {v : V} {d : D} (h : Vw L v d) : Vw (p :: L) v d := let ⟨w, a, b⟩ := h; ⟨w, List.mem_cons_of_mem _ a, b⟩
theorem Vw.sub {v : V} {d : D} (h : Vw L v d) (s : ∀ p ∈ L, p ∈ L') : Vw L' v d := let ⟨w, a, b⟩ := h; ⟨w, s _ a, b⟩
/-- what a view tells of an int .. -/
theorem Vw.int {v : V} {i : Int} (h : Rels K H L) (q : Vw L v (.int i)) : v = .int i := by
  obtain ⟨w, hm, e⟩ := q
  have g := h.at_ _ hm
  cases w with
  | d x => simp only [vw] at e; subst e; simpa [RW, Dat] using g
  | l xs => simp [vw] at e
theorem Vw.bool {v : V} {i : Bool} (h : Rels K H L) (q : Vw L v (.bool i)) : v = .bl i := by
  obtain ⟨w, hm, e⟩ := q
  have g := h.at_ _ hm
  cases w with
  | d x => simp only [vw] at e; subst e; simpa [RW, Dat] using g
  | l xs => simp [vw] at e
theorem Vw.str {v : V} {i : Str} (h : Rels K H L) (q : Vw L v (.str i)) : v = .str i := by
  obtain ⟨w, hm, e⟩ := q
  have g := h.at_ _ hm
  cases w with
  | d x => simp only [vw] at e; subst e; simpa [RW, Dat] using g
  | l xs => simp [vw] at e
theorem Vw.none {v : V} (h : Rels K H L) (q : Vw L v .none) : v = .non := by
  obtain ⟨w, hm, e⟩ := q
  have g := h.at_ _ hm
  cases w with
  | d x => simp only [vw] at e; subst e; simpa [RW, Dat] using g
  | l xs => simp [vw] at e
theorem Vw.list {v : V} {ds : List D} (h : Rels K H L) (q : Vw L v (.list ds)) : ∃ a vs, v = .ref a ∧ SqL K H a vs ∧ Dats K H (owned L) ds vs := by
  obtain ⟨w, hm, e⟩ := q
  have g := h.at_ _ hm
  cases w with
  | d x =>
    simp only [vw] at e; subst e
    simp only [RW, Dat] at g
    obtain ⟨a, vs, e, h1, _, h2⟩ := g
    exact ⟨a, vs, e, h1, h2⟩
  | l xs =>
    simp only [vw, PyData.list.injEq] at e; subst e
    obtain ⟨a, vs, e, h1, h2⟩ := g
    exact ⟨a, vs, e, SqL.of h1, h2⟩
theorem Vw.tuple {v : V} {ds : List D} (h : Rels K H L) (q : Vw L v (.tuple ds)) : ∃ a vs, v = .ref a ∧ SqT K H a vs ∧ a ∉ owned L ∧ Dats K H (owned L) ds vs := by
  obtain ⟨w, hm, e⟩ := q
  have g := h.at_ _ hm
  cases w with
  | d x =>
    simp only [vw] at e; subst e
    simpa only [RW, Dat] using g
  | l xs => simp [vw] at e
mutual
theorem Dat.dp : ∀ (d : D) (v : V), Dat K H O d v → Dp K H v d
  | .none, _, h => by simp only [Dat] at h; subst h; exact .non
  | .bool _, _, h => by simp only [Dat] at h; subst h; exact .bl _
  | .int _, _, h => by simp only [Dat] at h; subst h; exact .int _
  | .str _, _, h => by simp only [Dat] at h; subst h; exact .str _
  | .list ds, v, h => by
    simp only [Dat] at h
    obtain ⟨a, vs, rfl, h1, h2, h3⟩ := h
    exact .lst h1 (Dats.dp ds vs h3)
  | .tuple ds, v, h => by
    simp only [Dat] at h
    obtain ⟨a, vs, rfl, h1, h2, h3⟩ := h
    exact .tup h1 (Dats.dp ds vs h3)
  | .dict _, _, h => by simp [Dat] at h
theorem Dats.dp : ∀ (ds : List D) (vs : List V), Dats K H O ds vs → DpAll K H vs ds
  | [], _, h => by simp only [Dats] at h; subst h; exact .nil
  | d :: ds, _, h => by
    simp only [Dats] at h
    obtain ⟨v, r, rfl, h1, h2⟩ := h
    exact .cons (Dat.dp d v h1) (Dats.dp ds r h2)
end
theorem Vw.dp {v : V} {d : D} (h : Rels K H L) (q : Vw L v d) : Dp K H v d := by
  obtain ⟨w, hm, rfl⟩ := q
  have g := h.at_ _ hm
  cases w with
  | d x => exact Dat.dp x v g
  | l xs =>
    obtain ⟨a, vs, e, h1, h2⟩ := g
    have e' : v = .ref a := e
    subst e'
    exact .lst (SqL.of h1) (Dats.dp xs vs h2)
end
end Mi
set_option Elab.async false
set_option linter.all false
set_option maxRecDepth 100000
set_option maxHeartbeats 4000000
/-! Mi2: frames of mirrors, readings of mirrors, expressions -/
namespace Mi
open PySem PySem.Spec PyProof.Rows L2

abbrev Env := List (Option W)
structure Exn where
  cls : Nat
  args : List D
inductive Res (α : Type) where
  | ok (a : α) (e : Env)
  | ex (x : Exn) (e : Env)
  | no
def bnd {α β : Type} : Res α → (α → Env → Res β) → Res β
  | .ok a e, f => f a e
  | .ex x e, _ => .ex x e
  | .no, _ => .no
@[simp] theorem bnd_ok {α β : Type} (a : α) (e : Env) (f : α → Env → Res β) : bnd (.ok a e) f = f a e := rfl
@[simp] theorem bnd_no {α β : Type} (f : α → Env → Res β) : bnd (.no : Res α) f = .no := rfl
@[simp] theorem bnd_ex {α β : Type} (x : Exn) (e : Env) (f : α → Env → Res β) : bnd (.ex x e : Res α) f = .ex x e := rfl
theorem bnd_eq_ok {α β : Type} {r : Res α} {f : α → Env → Res β} {b : β} {e : Env} (h : bnd r f = .ok b e) : ∃ a e1, r = .ok a e1 ∧ f a e1 = .ok b e := by
  cases r with
  | ok a e1 => exact ⟨a, e1, rfl, h⟩
  | ex x e1 => cases h
  | no => cases h
def ofO {α : Type} : Option α → Env → Res α
  | some a, e => .ok a e
  | none, _ => .no
@[simp] theorem ofO_some {α : Type} (a : α) (e : Env) : ofO (some a) e = .ok a e := rfl
@[simp] theorem ofO_none {α : Type} (e : Env) : ofO (none : Option α) e = .no := rfl
theorem ofO_eq_ok {α : Type} {o : Option α} {e e' : Env} {a : α} (h : ofO o e = .ok a e') : o = some a ∧ e' = e := by
  cases o with
  | none => cases h
  | some b => cases h; exact ⟨rfl, rfl⟩

abbrev ME := Env → Res W
abbrev MT := Env → Res Bool

def pc : Option V → Option W → List (V × W)
  | some v, some x => [(v, x)]
  | _, _ => []
def pr : L2.St → Env → List (V × W)
  | s :: σ, w :: e => pc s w ++ pr σ e
  | _, _ => []
theorem pr_mem : ∀ {σ : L2.St} {env : Env} {i : Nat} {v : V} {w : W}, σ[i]? = some (some v) → env.getD i none = some w → (v, w) ∈ pr σ env
  | [], _, _, _, _, h, _ => by simp at h
  | _ :: _, [], _, _, _, _, h => by simp at h
  | s :: σ, x :: e, 0, v, w, h, g => by
    simp at h g
    subst h g
    simp [pr, pc]
  | s :: σ, x :: e, i + 1, v, w, h, g => by
    simp at h g
    exact List.mem_append_right _ (pr_mem (i := i) h (by simpa using g))
theorem pr_set : ∀ {σ : L2.St} {env : Env} {i : Nat}, i < σ.length → σ.length = env.length → ∃ A B, pr σ env = A ++ (pc (σ.getD i none) (env.getD i none) ++ B) ∧ ∀ s x, pr (σ.set i s) (env.set i x) = A ++ (pc s x ++ B)
  | [], _, _, h, _ => by simp at h
  | _ :: _, [], _, _, h => by simp at h
  | s :: σ, x :: e, 0, _, _ => ⟨[], pr σ e, by simp [pr], fun s x => by simp [pr]⟩
  | s :: σ, x :: e, i + 1, h, g => by
    obtain ⟨A, B, h1, h2⟩ := pr_set (σ := σ) (env := e) (i := i) (by simpa using h) (by simpa using g)
    refine ⟨pc s x ++ A, B, ?_, fun s' x' => ?_⟩
    · simp [pr, h1]
    · simp [pr, h2]

/-- the state: what the slots and the held values bear -/
structure SR (K : KK) (P : List Nat) (p0 : L2.St) (T : List (V × W)) (σ : L2.St) (env : Env) (H : Hp) : Prop where
  rels : Rels K H (pr σ env ++ T)
  len : σ.length = env.length
  len0 : p0.length = σ.length
  cov : ∀ i w, env.getD i none = some w → ∃ v, σ[i]? = some (some v)
  par : ∀ i ∈ P, σ[i]? = p0[i]? ∧ ∃ xs, env.getD i none = some (.l xs)

section
variable {K : KK} {P : List Nat} {p0 : L2.St} {T T' : List (V × W)} {σ : L2.St} {env env' : Env} {H H' : Hp}
theorem SR.push {v : V} {w : W} (h : SR K P p0 T σ env H) (r : Rels K H' ((v, w) :: (pr σ env ++ T))) : SR K P p0 ((v, w) :: T) σ env H' :=
  ⟨r.perm List.perm_middle.symm, h.len, h.len0, h.cov, h.par⟩
theorem SR.top {p : V × W} (h : SR K P p0 (p :: T) σ env H) : Rels K H (p :: (pr σ env ++ T)) := h.rels.perm List.perm_middle
theorem SR.re (h : SR K P p0 T σ env H) (r : Rels K H' (pr σ env ++ T')) : SR K P p0 T' σ env H' := ⟨r, h.len, h.len0, h.cov, h.par⟩
theorem SR.drop {p : V × W} (h : SR K P p0 (p :: T) σ env H) : SR K P p0 T σ env H := h.re h.top.tail
theorem SR.sub (h : SR K P p0 T σ env H) (s : T'.Sublist T) : SR K P p0 T' σ env H := h.re (h.rels.sub (List.Sublist.append_left s _))
theorem SR.permT (h : SR K P p0 T σ env H) (s : T.Perm T') : SR K P p0 T' σ env H := h.re (h.rels.perm (List.Perm.append_left _ s))
theorem SR.fz {v : V} {w : W} (h : SR K P p0 ((v, w) :: T) σ env H) : SR K P p0 ((v, .d (vw w)) :: T) σ env H := SR.push h.drop h.top.fz
theorem SR.lt (h : SR K P p0 T σ env H) {i : Nat} {w : W} (e : env.getD i none = some w) : i < σ.length := by
  rw [h.len]
  by_cases hi : i < env.length
  · exact hi
  · rw [List.getD_eq_getElem?_getD, List.getElem?_eq_none (by omega)] at e
    cases e
end
theorem set_getD {env : Env} {i j : Nat} {x : Option W} : (env.set i x).getD j none = if i = j ∧ i < env.length then x else env.getD j none := by
  simp only [List.getD_eq_getElem?_getD, List.getElem?_set]
  by_cases h : i = j
  · subst h
    by_cases g : i < env.length
    · simp [g]
    · simp [g]
  · simp [h]

section
variable {K : KK} {P : List Nat} {p0 : L2.St} {T T' : List (V × W)} {σ : L2.St} {env env' : Env} {H H' : Hp}
/-- the slot's content is another one; the address (σ) stays -/
theorem SR.slot (h : SR K P p0 T σ env H) {i : Nat} {v : V} {w w' : W} (hv : σ[i]? = some (some v)) (hw : env.getD i none = some w) (hP : i ∈ P → ∃ xs, w' = .l xs)
    (r : ∀ L, (pr σ env ++ T).Perm ((v, w) :: L) → Rels K H ((v, w) :: L) → Rels K H' ((v, w') :: L)) : SR K P p0 T σ (env.set i (some w')) H' := by
  have hi := h.lt hw
  obtain ⟨A, B, h1, h2⟩ := pr_set hi h.len
  have hs : σ.getD i none = some v := by rw [List.getD_eq_getElem?_getD, hv]; rfl
  have e2 : σ.set i (some v) = σ := by
    apply List.ext_getElem?
    intro j
    rw [List.getElem?_set]
    by_cases hj : i = j
    · subst hj; rw [if_pos rfl, if_pos hi, hv]
    · rw [if_neg hj]
  have h3 := h2 (some v) (some w')
  rw [e2] at h3
  rw [hs, hw] at h1
  have q := h.rels
  rw [h1] at q
  refine ⟨?_, by rw [List.length_set]; exact h.len, h.len0, fun j x e => ?_, fun j hj => ?_⟩
  · rw [h3]
    have q1 : Rels K H ((v, w) :: (A ++ B ++ T)) := q.perm (by
      simp only [pc, List.append_assoc, List.singleton_append]
      exact List.perm_middle)
    refine (r _ ?_ q1).perm ?_
    · rw [h1]
      simp only [pc, List.append_assoc, List.singleton_append]
      exact List.perm_middle
    simp only [pc, List.append_assoc, List.singleton_append]
    exact List.perm_middle.symm
  · rw [set_getD] at e
    split at e
    · rename_i z
      rw [← z.1]
      exact ⟨v, hv⟩
    · exact h.cov j x e
  · refine ⟨(h.par j hj).1, ?_⟩
    rw [set_getD]
    split
    · rename_i z
      obtain ⟨xs, e⟩ := hP (z.1 ▸ hj)
      exact ⟨xs, by rw [e]⟩
    · exact (h.par j hj).2
/-- a slot is stored -/
theorem SR.store {v : V} {w : W} (h : SR K P p0 ((v, w) :: T) σ env H) {i : Nat} (hi : i < σ.length) (hP : i ∉ P) : SR K P p0 T (σ.set i (some v)) (env.set i (some w)) H := by
  obtain ⟨A, B, h1, h2⟩ := pr_set hi h.len
  refine ⟨?_, by simp [h.len], by simp [h.len0], fun j x e => ?_, fun j hj => ?_⟩
  · rw [h2]
    have q := h.top
    rw [h1] at q
    refine (q.sub (L' := (v, w) :: (A ++ (B ++ T))) ?_).perm ?_
    · refine List.Sublist.cons_cons _ ?_
      rw [List.append_assoc, List.append_assoc]
      exact List.Sublist.append_left (List.sublist_append_right _ _) _
    · simp only [pc, List.append_assoc, List.singleton_append]
      exact List.perm_middle.symm
  · rw [set_getD] at e
    split at e
    · rename_i z
      rw [← z.1]
      exact ⟨v, by rw [List.getElem?_set_self hi]⟩
    · rename_i z
      obtain ⟨u, hu⟩ := h.cov j x e
      have ne : i ≠ j := fun q => z ⟨q, by rw [← h.len]; exact hi⟩
      exact ⟨u, by rw [List.getElem?_set_ne ne]; exact hu⟩
  · have ne : i ≠ j := fun q => hP (q ▸ hj)
    rw [List.getElem?_set_ne ne, set_getD, if_neg (fun q => ne q.1)]
    exact h.par j hj
/-- a slot is forgotten -/
theorem SR.clear (h : SR K P p0 T σ env H) {i : Nat} (hi : i < σ.length) (hP : i ∉ P) : SR K P p0 T (σ.set i none) (env.set i none) H := by
  obtain ⟨A, B, h1, h2⟩ := pr_set hi h.len
  refine ⟨?_, by simp [h.len], by simp [h.len0], fun j x e => ?_, fun j hj => ?_⟩
  · rw [h2]
    have q := h.rels
    rw [h1] at q
    refine q.sub ?_
    simp only [pc, List.nil_append]
    exact List.Sublist.append_right (List.Sublist.append_left (List.sublist_append_right _ _) _) _
  · rw [set_getD] at e
    split at e
    · cases e
    · rename_i z
      obtain ⟨u, hu⟩ := h.cov j x e
      have ne : i ≠ j := fun q => z ⟨q, by rw [← h.len]; exact hi⟩
      exact ⟨u, by rw [List.getElem?_set_ne ne]; exact hu⟩
  · have ne : i ≠ j := fun q => hP (q ▸ hj)
    rw [List.getElem?_set_ne ne, set_getD, if_neg (fun q => ne q.1)]
    exact h.par j hj
theorem SR.val (h : SR K P p0 T σ env H) {i : Nat} {v : V} {w : W} (hv : σ[i]? = some (some v)) (hw : env.getD i none = some w) : RW K H (owned (pr σ env ++ T)) v w :=
  h.rels.at_ (v, w) (List.mem_append_left _ (pr_mem hv hw))
end

/-! ### operands: a name that is only looked at, or a value -/
inductive Opd where
  | vr (i : Nat)
  | ex (m : ME)
def Opd.run : Opd → Env → Res (Nat ⊕ W)
  | .vr i, e => match e.getD i none with
    | some _ => .ok (.inl i) e
    | none => .no
  | .ex m, e => bnd (m e) fun w e' => .ok (.inr w) e'
def gv (e : Env) : Nat ⊕ W → Option D
  | .inl i => (e.getD i none).map vw
  | .inr w => some (vw w)
def held (T : List (V × W)) (v : V) : Nat ⊕ W → List (V × W)
  | .inl _ => T
  | .inr w => (v, w) :: T
def Own (σ : L2.St) (v : V) : Nat ⊕ W → Prop
  | .inl i => σ[i]? = some (some v)
  | .inr _ => True

/-! ### readings -/
def tE (K : KK) (P : List Nat) (m : ME) : TE := fun σ H Q => ∃ p0 T env w env', SR K P p0 T σ env H ∧ Good K H ∧ m env = .ok w env' ∧
  ∀ v H', SR K P p0 ((v, w) :: T) σ env' H' → Good K H' → Q v H'
def tD (K : KK) (P : List Nat) (o : Opd) : TE := fun σ H Q => ∃ p0 T env r env', SR K P p0 T σ env H ∧ Good K H ∧ o.run env = .ok r env' ∧
  ∀ v H', Own σ v r → SR K P p0 (held T v r) σ env' H' → Good K H' → Q v H'
def tM (K : KK) (P : List Nat) (m : MT) : TT := fun σ H Q => ∃ p0 T env b env', SR K P p0 T σ env H ∧ Good K H ∧ m env = .ok b env' ∧
  ∀ H', SR K P p0 T σ env' H' → Good K H' → Q b H'

section
variable {X : Cx} {P : List Nat} {e : Expr}
theorem inv_good {pins : List (Addr × Obj)} {σ : L2.St} {H : Hp} {s : Shared} (I : Inv X pins σ H s) : Good X.K H := fun a o h => (I.bs a o (I.mod.kin a o h)).2
theorem mkE {t : TE} {m : ME} (h : PE X e t)
    (k : ∀ (p0 : L2.St) (T : List (V × W)) (σ : L2.St) (env : Env) (H : Hp) (w : W) (env' : Env) (Q : VK), SR X.K P p0 T σ env H → Good X.K H → m env = .ok w env' →
      (∀ v H', (Good X.K H' → SR X.K P p0 ((v, w) :: T) σ env' H') → Q v H') → t σ H Q) : PE X e (tE X.K P m) := by
  refine ⟨fun pins s σ H Q I hq => ?_⟩
  obtain ⟨p0, T, env, w, env', sr, g, hm, hQ⟩ := hq
  refine thn (h.run pins s σ H (fun v H' => Good X.K H' → Q v H') I (k p0 T σ env H w env' _ sr g hm fun v H' q g' => hQ v H' (q g') g')) ?_
  rintro u s' ⟨v, H', I', r, q⟩
  exact ⟨v, H', I', r, q (inv_good I')⟩
theorem mkT {t : TT} {m : MT} (h : PT X e t)
    (k : ∀ (p0 : L2.St) (T : List (V × W)) (σ : L2.St) (env : Env) (H : Hp) (b : Bool) (env' : Env) (Q : Bool → Hp → Prop), SR X.K P p0 T σ env H → Good X.K H → m env = .ok b env' →
      (∀ H', (Good X.K H' → SR X.K P p0 T σ env' H') → Q b H') → t σ H Q) : PT X e (tM X.K P m) := by
  refine ⟨fun pins s σ H Q I hq => ?_⟩
  obtain ⟨p0, T, env, w, env', sr, g, hm, hQ⟩ := hq
  refine thn (h.run pins s σ H (fun v H' => Good X.K H' → Q v H') I (k p0 T σ env H w env' _ sr g hm fun H' q g' => hQ H' (q g') g')) ?_
  rintro u s' ⟨H', I', q⟩
  exact ⟨H', I', q (inv_good I')⟩
theorem mkW {t : TT} {m : MT} (h : PW X e t)
    (k : ∀ (p0 : L2.St) (T : List (V × W)) (σ : L2.St) (env : Env) (H : Hp) (b : Bool) (env' : Env) (Q : Bool → Hp → Prop), SR X.K P p0 T σ env H → Good X.K H → m env = .ok b env' →
      (∀ H', (Good X.K H' → SR X.K P p0 T σ env' H') → Q b H') → t σ H Q) : PW X e (tM X.K P m) := by
  refine ⟨fun wh pins s σ H Q I hq => ?_⟩
  obtain ⟨p0, T, env, w, env', sr, g, hm, hQ⟩ := hq
  refine thn (h.run wh pins s σ H (fun v H' => Good X.K H' → Q v H') I (k p0 T σ env H w env' _ sr g hm fun H' q g' => hQ H' (q g') g')) ?_
  rintro u s' ⟨H', I', q⟩
  exact ⟨H', I', q (inv_good I')⟩

/-! ### names, constants -/
def eC (d : D) : ME := fun e => .ok (.d d) e
@[simp] theorem eC_run (d : D) (e : Env) : eC d e = .ok (.d d) e := rfl
def eV (i : Nat) : ME := fun e => match e.getD i none with
  | some (.d d) => .ok (.d d) e
  | some (.l xs) => .ok (.d (.list xs)) (e.set i (some (.d (.list xs))))
  | none => .no
inductive Flat : D → V → Prop
  | none : Flat .none .non
  | bool (b : Bool) : Flat (.bool b) (.bl b)
  | int (i : Int) : Flat (.int i) (.int i)
  | str (x : Str) : Flat (.str x) (.str x)
theorem Flat.dat {K : KK} {H : Hp} {O : List Addr} {d : D} {v : V} (f : Flat d v) : Dat K H O d v := by cases f <;> rfl
theorem pe_c {d : D} {v : V} (f : Flat d v) (h : PE X e (tC v)) : PE X e (tE X.K P (eC d)) := mkE h fun p0 T σ env H w env' Q sr g hm hQ => by
  cases hm
  exact hQ _ _ fun _ => sr.push (sr.rels.data f.dat)
theorem pe_name {i : Nat} (hP : P.contains i = false) (h : PE X e (tVar i)) : PE X e (tE X.K P (eV i)) := mkE h fun p0 T σ env H w env' Q sr g hm hQ => by
  have hP' : i ∉ P := fun z => by rw [List.contains_iff_mem.mpr z] at hP; cases hP
  unfold eV at hm
  split at hm
  · rename_i d hd
    cases hm
    obtain ⟨v, hv⟩ := sr.cov i _ hd
    refine ⟨v, hv, hQ _ _ fun _ => sr.push (sr.rels.data (sr.val hv hd))⟩
  · rename_i xs hd
    cases hm
    obtain ⟨v, hv⟩ := sr.cov i _ hd
    have s2 := sr.slot hv hd (w' := .d (.list xs)) (fun z => (hP' z).elim) fun L _ q => q.freeze
    have hi := sr.lt hd
    have hd2 : (env.set i (some (W.d (.list xs)))).getD i none = some (.d (.list xs)) := by
      rw [set_getD, if_pos ⟨rfl, by rw [← sr.len]; exact hi⟩]
    refine ⟨v, hv, hQ _ _ fun _ => s2.push (s2.rels.data (s2.val hv hd2))⟩
  · cases hm
theorem pd_v {i : Nat} (h : PE X e (tVar i)) : PE X e (tD X.K P (.vr i)) := by
  refine ⟨fun pins s σ H Q I hq => ?_⟩
  obtain ⟨p0, T, env, r, env', sr, g, hm, hQ⟩ := hq
  change (match env.getD i none with | some _ => Res.ok (Sum.inl i) env | none => Res.no) = Res.ok r env' at hm
  cases hd : env.getD i none with
  | none => rw [hd] at hm; cases hm
  | some w =>
    rw [hd] at hm
    cases hm
    obtain ⟨v, hv⟩ := sr.cov i _ hd
    exact h.run pins s σ H Q I ⟨v, hv, hQ v H hv sr g⟩
theorem pd_e {m : ME} (h : PE X e (tE X.K P m)) : PE X e (tD X.K P (.ex m)) := by
  refine ⟨fun pins s σ H Q I hq => ?_⟩
  obtain ⟨p0, T, env, r, env', sr, g, hm, hQ⟩ := hq
  obtain ⟨w, e1, h1, h2⟩ := bnd_eq_ok (show bnd (m env) _ = _ from hm)
  cases h2
  exact h.run pins s σ H Q I ⟨p0, T, env, w, env', sr, g, h1, fun v H' s2 g2 => hQ v H' trivial s2 g2⟩
theorem view_of {K : KK} {p0 : L2.St} {T' : List (V × W)} {σ : L2.St} {env : Env} {H : Hp} {r : Nat ⊕ W} {v : V} {d : D} (sr : SR K P p0 T' σ env H) (o : Own σ v r) (hs : ∀ w, r = .inr w → (v, w) ∈ T') (hg : gv env r = some d) : Vw (pr σ env ++ T') v d := by
  cases r with
  | inl i =>
    simp only [gv] at hg
    cases hd : env.getD i none with
    | none => rw [hd] at hg; cases hg
    | some w =>
      rw [hd] at hg
      exact ⟨w, List.mem_append_left _ (pr_mem o hd), Option.some.inj hg⟩
  | inr w => exact ⟨w, List.mem_append_right _ (hs w rfl), Option.some.inj hg⟩

/-! ### operations on views -/
/-- r, asked of values with these views, gives a value with f's -/
def Op1 (K : KK) (r : V → Hp → VK → Prop) (f : D → Option W) : Prop := ∀ (H : Hp) (L : List (V × W)) (x : V) (dx : D) (w : W) (Q : VK), Good K H → Rels K H L → Vw L x dx → f dx = some w →
  (∀ v H', (Good K H' → Rels K H' ((v, w) :: L)) → Q v H') → r x H Q
def Op2 (K : KK) (r : R2) (f : D → D → Option W) : Prop := ∀ (H : Hp) (L : List (V × W)) (x y : V) (dx dy : D) (w : W) (Q : VK), Good K H → Rels K H L → Vw L x dx → Vw L y dy → f dx dy = some w →
  (∀ v H', (Good K H' → Rels K H' ((v, w) :: L)) → Q v H') → r x y H Q
def eO1 (f : D → Option W) (a : Opd) : ME := fun e => bnd (a.run e) fun r e1 => match gv e1 r with
  | some d => ofO (f d) e1
  | none => .no
def eO2 (f : D → D → Option W) (a b : Opd) : ME := fun e => bnd (a.run e) fun r e1 => bnd (b.run e1) fun r2 e2 => match gv e2 r with
  | some x => (match gv e2 r2 with
    | some y => ofO (f x y) e2
    | none => .no)
  | none => .no
theorem dropHeld {K : KK} {p0 : L2.St} {T : List (V × W)} {σ : L2.St} {env : Env} {H : Hp} {v : V} {w : W} {x : V} {r : Nat ⊕ W} (sr : SR K P p0 ((v, w) :: held T x r) σ env H) : SR K P p0 ((v, w) :: T) σ env H := by
  cases r with
  | inl i => exact sr
  | inr w' => exact sr.sub (List.Sublist.cons_cons _ (List.sublist_cons_self _ _))
theorem pe_o1 {r : V → Hp → VK → Prop} {f : D → Option W} {o : Opd} {ta : TE} (ht : ta = tD X.K P o) (ho : Op1 X.K r f) (h : PE X e (tUn r ta)) : PE X e (tE X.K P (eO1 f o)) := mkE h fun p0 T σ env H w env' Q sr g hm hQ => by
  subst ht
  obtain ⟨ra, e1, h1, h2⟩ := bnd_eq_ok hm
  refine ⟨p0, T, env, ra, e1, sr, g, h1, fun x H1 ox sr1 g1 => ?_⟩
  cases hg : gv e1 ra with
  | none => rw [hg] at h2; cases h2
  | some d =>
    rw [hg] at h2
    obtain ⟨h3, rfl⟩ := ofO_eq_ok h2
    exact ho H1 _ x d w _ g1 sr1.rels (view_of sr1 ox (fun w e => by subst e; exact List.mem_cons_self) hg) h3 fun v H2 q => hQ v H2 fun g2 => dropHeld (sr1.push (q g2))
theorem pe_o2 {r : R2} {f : D → D → Option W} {oa ob : Opd} {ta tb : TE} (hta : ta = tD X.K P oa) (htb : tb = tD X.K P ob) (ho : Op2 X.K r f) (h : PE X e (tOp r ta tb)) : PE X e (tE X.K P (eO2 f oa ob)) := mkE h fun p0 T σ env H w env' Q sr g hm hQ => by
  subst hta htb
  obtain ⟨ra, e1, h1, hm⟩ := bnd_eq_ok hm
  refine ⟨p0, T, env, ra, e1, sr, g, h1, fun x H1 ox sr1 g1 => ?_⟩
  obtain ⟨rb, e2, h2, hm⟩ := bnd_eq_ok hm
  refine ⟨p0, held T x ra, e1, rb, e2, sr1, g1, h2, fun y H2 oy sr2 g2 => ?_⟩
  cases hg : gv e2 ra with
  | none => rw [hg] at hm; cases hm
  | some d =>
    rw [hg] at hm
    cases hg2 : gv e2 rb with
    | none => rw [hg2] at hm; cases hm
    | some d2 =>
      rw [hg2] at hm
      obtain ⟨h3, rfl⟩ := ofO_eq_ok hm
      refine ho H2 _ x y d d2 w _ g2 sr2.rels (view_of sr2 ox (fun w e => ?_) hg) (view_of sr2 oy (fun w e => by subst e; exact List.mem_cons_self) hg2) h3 fun v H3 q => hQ v H3 fun g3 => dropHeld (dropHeld (sr2.push (q g3)))
      subst e
      cases rb with
      | inl i => exact List.mem_cons_self
      | inr w' => exact List.mem_cons_of_mem _ List.mem_cons_self

/-! ### tests -/
/-- a value that is a truth value, as a test -/
def tV (m : ME) : MT := fun e => bnd (m e) fun w e1 => match vw w with
  | .bool b => .ok b e1
  | _ => .no
theorem vw_bool {w : W} {b : Bool} (h : vw w = .bool b) : w = .d (.bool b) := by
  cases w with
  | d x => exact congrArg W.d h
  | l xs => cases h
theorem pt_v {m : ME} {t : TE} {tt : TT} (ht : ∀ σ H Q, t σ H (fun x H1 => ∃ c, x = .bl c ∧ Q c H1) → tt σ H Q) (hte : t = tE X.K P m) (h : PT X e tt) : PT X e (tM X.K P (tV m)) := mkT h fun p0 T σ env H b env' Q sr g hm hQ => by
  subst hte
  obtain ⟨w, e1, h1, h2⟩ := bnd_eq_ok hm
  split at h2
  · rename_i b' hb
    cases h2
    have hw := vw_bool hb
    subst hw
    refine ht _ _ _ ⟨p0, T, env, _, env', sr, g, h1, fun v H1 sr1 g1 => ?_⟩
    have hv : v = .bl b := sr1.top.at_ _ List.mem_cons_self
    exact ⟨b, hv, hQ H1 fun _ => sr1.drop⟩
  · cases h2
def tAnd' (a b : MT) : MT := fun e => bnd (a e) fun c e1 => if c = true then b e1 else .ok false e1
def tOr' (a b : MT) : MT := fun e => bnd (a e) fun c e1 => if c = true then .ok true e1 else b e1
def tNot' (a : MT) : MT := fun e => bnd (a e) fun c e1 => .ok (!c) e1
variable {a b : Expr} {rest : List Expr} {pos : Pos} {ma mb mc : MT}
theorem pw_andM (ha : PT X a (tM X.K P ma)) (hb : PW X (.BoolOp .And (b :: rest) pos) (tM X.K P mb)) : PW X (.BoolOp .And (a :: b :: rest) pos) (tM X.K P (tAnd' ma mb)) := mkW (pw_and ha hb) fun p0 T σ env H b env' Q sr g hm hQ => by
  obtain ⟨c, e1, h1, h2⟩ := bnd_eq_ok hm
  refine ⟨p0, T, env, c, e1, sr, g, h1, fun H1 sr1 g1 => ?_⟩
  split at h2
  · rename_i hc
    rw [if_pos hc]
    exact ⟨p0, T, e1, b, env', sr1, g1, h2, fun H2 sr2 g2 => hQ H2 fun _ => sr2⟩
  · rename_i hc
    rw [if_neg hc]
    cases h2
    exact hQ H1 fun _ => sr1
theorem pw_orM (ha : PT X a (tM X.K P ma)) (hb : PW X (.BoolOp .Or (b :: rest) pos) (tM X.K P mb)) : PW X (.BoolOp .Or (a :: b :: rest) pos) (tM X.K P (tOr' ma mb)) := mkW (pw_or ha hb) fun p0 T σ env H b env' Q sr g hm hQ => by
  obtain ⟨c, e1, h1, h2⟩ := bnd_eq_ok hm
  refine ⟨p0, T, env, c, e1, sr, g, h1, fun H1 sr1 g1 => ?_⟩
  split at h2
  · rename_i hc
    rw [if_pos hc]
    cases h2
    exact hQ H1 fun _ => sr1
  · rename_i hc
    rw [if_neg hc]
    exact ⟨p0, T, e1, b, env', sr1, g1, h2, fun H2 sr2 g2 => hQ H2 fun _ => sr2⟩
theorem pt_notM (ha : PT X a (tM X.K P ma)) : PT X (.UnaryOp .Not a pos) (tM X.K P (tNot' ma)) := mkT (pt_not ha) fun p0 T σ env H b env' Q sr g hm hQ => by
  obtain ⟨c, e1, h1, h2⟩ := bnd_eq_ok hm
  cases h2
  exact ⟨p0, T, env, c, env', sr, g, h1, fun H1 sr1 g1 => hQ H1 fun _ => sr1⟩
/-- and, or, not as values -/
def eAnd (a b : ME) : ME := fun e => bnd (a e) fun w e1 => match vw w with
  | .bool true => b e1
  | .bool false => .ok (.d (.bool false)) e1
  | _ => .no
def eOr (a b : ME) : ME := fun e => bnd (a e) fun w e1 => match vw w with
  | .bool true => .ok (.d (.bool true)) e1
  | .bool false => b e1
  | _ => .no
def eNot (a : ME) : ME := fun e => bnd (a e) fun w e1 => match vw w with
  | .bool c => .ok (.d (.bool (!c))) e1
  | _ => .no
theorem pe_andM {ma mb : ME} (ha : PE X a (tE X.K P ma)) (hb : PE X (.BoolOp .And (b :: rest) pos) (tE X.K P mb)) : PE X (.BoolOp .And (a :: b :: rest) pos) (tE X.K P (eAnd ma mb)) := mkE (pe_and ha hb) fun p0 T σ env H w env' Q sr g hm hQ => by
  obtain ⟨w1, e1, h1, h2⟩ := bnd_eq_ok hm
  split at h2
  · rename_i hb'
    have hw := vw_bool hb'
    subst hw
    refine ⟨p0, T, env, _, e1, sr, g, h1, fun v H1 sr1 g1 => ⟨true, sr1.top.at_ _ List.mem_cons_self, ?_⟩⟩
    rw [if_pos rfl]
    exact ⟨p0, T, e1, w, env', sr1.drop, g1, h2, fun v H2 sr2 g2 => hQ v H2 fun _ => sr2⟩
  · rename_i hb'
    have hw := vw_bool hb'
    subst hw
    cases h2
    refine ⟨p0, T, env, _, env', sr, g, h1, fun v H1 sr1 g1 => ⟨false, sr1.top.at_ _ List.mem_cons_self, ?_⟩⟩
    rw [if_neg (by simp)]
    have hv : v = .bl false := sr1.top.at_ _ List.mem_cons_self
    subst hv
    exact hQ _ H1 fun _ => sr1
  · cases h2
theorem pe_orM {ma mb : ME} (ha : PE X a (tE X.K P ma)) (hb : PE X (.BoolOp .Or (b :: rest) pos) (tE X.K P mb)) : PE X (.BoolOp .Or (a :: b :: rest) pos) (tE X.K P (eOr ma mb)) := mkE (pe_or ha hb) fun p0 T σ env H w env' Q sr g hm hQ => by
  obtain ⟨w1, e1, h1, h2⟩ := bnd_eq_ok hm
  split at h2
  · rename_i hb'
    have hw := vw_bool hb'
    subst hw
    cases h2
    refine ⟨p0, T, env, _, env', sr, g, h1, fun v H1 sr1 g1 => ⟨true, sr1.top.at_ _ List.mem_cons_self, ?_⟩⟩
    rw [if_pos rfl]
    have hv : v = .bl true := sr1.top.at_ _ List.mem_cons_self
    subst hv
    exact hQ _ H1 fun _ => sr1
  · rename_i hb'
    have hw := vw_bool hb'
    subst hw
    refine ⟨p0, T, env, _, e1, sr, g, h1, fun v H1 sr1 g1 => ⟨false, sr1.top.at_ _ List.mem_cons_self, ?_⟩⟩
    rw [if_neg (by simp)]
    exact ⟨p0, T, e1, w, env', sr1.drop, g1, h2, fun v H2 sr2 g2 => hQ v H2 fun _ => sr2⟩
  · cases h2
theorem pe_notM {ma : ME} (ha : PE X a (tE X.K P ma)) : PE X (.UnaryOp .Not a pos) (tE X.K P (eNot ma)) := mkE (pe_not ha) fun p0 T σ env H w env' Q sr g hm hQ => by
  obtain ⟨w1, e1, h1, h2⟩ := bnd_eq_ok hm
  split at h2
  · rename_i c hb'
    have hw := vw_bool hb'
    subst hw
    cases h2
    refine ⟨p0, T, env, _, env', sr, g, h1, fun v H1 sr1 g1 => ⟨c, sr1.top.at_ _ List.mem_cons_self, hQ _ H1 fun _ => sr1.drop.push (sr1.drop.rels.data rfl)⟩⟩
  · cases h2
/-- a if t else b -/
def eIf (t : MT) (a b : ME) : ME := fun e => bnd (t e) fun c e1 => if c = true then a e1 else b e1
theorem pe_ifM {c : Expr} {ma mb : ME} (hc : PT X c (tM X.K P mc)) (ha : PE X a (tE X.K P ma)) (hb : PE X b (tE X.K P mb)) : PE X (.IfExp c a b pos) (tE X.K P (eIf mc ma mb)) := mkE (pe_ifExp hc ha hb) fun p0 T σ env H w env' Q sr g hm hQ => by
  obtain ⟨k, e1, h1, h2⟩ := bnd_eq_ok hm
  refine ⟨p0, T, env, k, e1, sr, g, h1, fun H1 sr1 g1 => ?_⟩
  split at h2
  · rename_i hk
    rw [if_pos hk]
    exact ⟨p0, T, e1, w, env', sr1, g1, h2, fun v H2 sr2 g2 => hQ v H2 fun _ => sr2⟩
  · rename_i hk
    rw [if_neg hk]
    exact ⟨p0, T, e1, w, env', sr1, g1, h2, fun v H2 sr2 g2 => hQ v H2 fun _ => sr2⟩
end
end Mi
set_option Elab.async false
set_option linter.all false
set_option maxRecDepth 100000
set_option maxHeartbeats 4000000
/-! Mi3: argument lists, displays, statements, loops -/
namespace Mi
open PySem PySem.Spec PyProof.Rows L2

/-! ### lists of operands -/
def evL : List Opd → Env → Res (List (Nat ⊕ W))
  | [], e => .ok [] e
  | o :: os, e => bnd (o.run e) fun r e1 => bnd (evL os e1) fun rs e2 => .ok (r :: rs) e2
def gvL (e : Env) : List (Nat ⊕ W) → Option (List D)
  | [] => some []
  | r :: rs => match gv e r with
    | some d => (match gvL e rs with
      | some ds => some (d :: ds)
      | none => none)
    | none => none
def heldL (T : List (V × W)) : List V → List (Nat ⊕ W) → List (V × W)
  | v :: vs, r :: rs => heldL (held T v r) vs rs
  | _, _ => T
def OwnL (σ : L2.St) : List V → List (Nat ⊕ W) → Prop
  | [], [] => True
  | v :: vs, r :: rs => Own σ v r ∧ OwnL σ vs rs
  | _, _ => False
def Vws (L : List (V × W)) : List V → List D → Prop
  | [], [] => True
  | v :: vs, d :: ds => Vw L v d ∧ Vws L vs ds
  | _, _ => False
def tAL (K : KK) (P : List Nat) (os : List Opd) : TA := fun σ H Q => ∃ p0 T env rs env', SR K P p0 T σ env H ∧ Good K H ∧ evL os env = .ok rs env' ∧
  ∀ vs H', OwnL σ vs rs → SR K P p0 (heldL T vs rs) σ env' H' → Good K H' → Q vs H'
/-- arguments of a def of the text: a list handed on, or a value -/
inductive Arg where
  | rf (i : Nat)
  | vl (m : ME)
def evG : List Arg → Env → Res (List (Nat ⊕ D))
  | [], e => .ok [] e
  | .rf i :: as, e => match e.getD i none with
    | some _ => bnd (evG as e) fun rs e2 => .ok (.inl i :: rs) e2
    | none => .no
  | .vl m :: as, e => bnd (m e) fun w e1 => bnd (evG as e1) fun rs e2 => .ok (.inr (vw w) :: rs) e2
/-- what is known of the values: a slot's, or data -/
def ARel (K : KK) (H : Hp) (O : List Addr) (σ : L2.St) : List V → List (Nat ⊕ D) → Prop
  | [], [] => True
  | v :: vs, .inl i :: rs => σ[i]? = some (some v) ∧ ARel K H O σ vs rs
  | v :: vs, .inr d :: rs => Dat K H O d v ∧ ARel K H O σ vs rs
  | _, _ => False
def tG (K : KK) (P : List Nat) (as : List Arg) : TA := fun σ H Q => ∃ p0 T env rs env', SR K P p0 T σ env H ∧ Good K H ∧ evG as env = .ok rs env' ∧
  ∀ vs H', ARel K H' (owned (pr σ env' ++ T)) σ vs rs → SR K P p0 T σ env' H' → Good K H' → Q vs H'
section
variable {X : Cx} {P : List Nat} {e : Expr} {es : List Expr}
theorem mkA {t : TA} {os : List Opd} (h : PA X es t)
    (k : ∀ (p0 : L2.St) (T : List (V × W)) (σ : L2.St) (env : Env) (H : Hp) rs (env' : Env) (Q : List V → Hp → Prop), SR X.K P p0 T σ env H → Good X.K H → evL os env = .ok rs env' →
      (∀ vs H', (Good X.K H' → OwnL σ vs rs ∧ SR X.K P p0 (heldL T vs rs) σ env' H') → Q vs H') → t σ H Q) : PA X es (tAL X.K P os) := by
  refine ⟨fun pos pins s σ H Q I hq => ?_⟩
  obtain ⟨p0, T, env, w, env', sr, g, hm, hQ⟩ := hq
  refine thn (h.run pos pins s σ H (fun v H' => Good X.K H' → Q v H') I (k p0 T σ env H w env' _ sr g hm fun v H' q g' => hQ v H' (q g').1 (q g').2 g')) ?_
  rintro u s' ⟨v, H', I', r, q⟩
  exact ⟨v, H', I', r, q (inv_good I')⟩
theorem pa_nilM : PA X [] (tAL X.K P []) := mkA pa_nil fun p0 T σ env H rs env' Q sr g hm hQ => by
  cases hm
  exact hQ [] H fun _ => ⟨trivial, sr⟩
theorem pa_consM {o : Opd} {os : List Opd} (he : PE X e (tD X.K P o)) (hr : PA X es (tAL X.K P os)) (hs : starEach (e :: es) X.env = (false, eval e X.env) :: starEach es X.env := by rfl) : PA X (e :: es) (tAL X.K P (o :: os)) :=
  mkA (pa_cons he hr hs) fun p0 T σ env H rs env' Q sr g hm hQ => by
    obtain ⟨r, e1, h1, hm⟩ := bnd_eq_ok hm
    obtain ⟨rs', e2, h2, hm⟩ := bnd_eq_ok hm
    cases hm
    exact ⟨p0, T, env, r, e1, sr, g, h1, fun v H1 ox sr1 g1 => ⟨p0, held T v r, e1, rs', _, sr1, g1, h2, fun vs H2 oy sr2 g2 => hQ (v :: vs) H2 fun _ => ⟨⟨ox, oy⟩, sr2⟩⟩⟩
theorem heldL_sub : ∀ {vs : List V} {rs : List (Nat ⊕ W)} {T : List (V × W)}, T.Sublist (heldL T vs rs)
  | [], _, T => List.Sublist.refl _
  | _ :: _, [], T => List.Sublist.refl _
  | v :: vs, .inl i :: rs, T => heldL_sub (vs := vs) (rs := rs)
  | v :: vs, .inr w :: rs, T => (List.sublist_cons_self _ _).trans (heldL_sub (vs := vs) (rs := rs) (T := (v, w) :: T))
theorem views_of {K : KK} {p0 : L2.St} {σ : L2.St} {env : Env} {H : Hp} : ∀ {vs : List V} {rs : List (Nat ⊕ W)} {ds : List D} {T T' : List (V × W)}, SR K P p0 T' σ env H → OwnL σ vs rs → (∀ p ∈ heldL T vs rs, p ∈ T') → gvL env rs = some ds → Vws (pr σ env ++ T') vs ds
  | [], [], ds, _, _, _, _, _, h => by
    simp only [gvL, Option.some.injEq] at h
    subst h
    trivial
  | [], _ :: _, _, _, _, _, o, _, _ => o.elim
  | _ :: _, [], _, _, _, _, o, _, _ => o.elim
  | v :: vs, r :: rs, ds, T, T', sr, o, hs, h => by
    unfold gvL at h
    cases hg : gv env r with
    | none => rw [hg] at h; cases h
    | some d =>
      rw [hg] at h
      cases hg2 : gvL env rs with
      | none => rw [hg2] at h; cases h
      | some ds' =>
        rw [hg2] at h
        cases h
        refine ⟨view_of sr o.1 (fun w e => ?_) hg, views_of (T := held T v r) sr o.2 hs hg2⟩
        subst e
        exact hs _ ((heldL_sub (vs := vs) (rs := rs)).mem List.mem_cons_self)
/-- a built-in by its arguments' views -/
def OpC (K : KK) (r : List V → Hp → VK → Prop) (f : List D → Option W) : Prop := ∀ (H : Hp) (L : List (V × W)) (vs : List V) (ds : List D) (w : W) (Q : VK), Good K H → Rels K H L → Vws L vs ds → f ds = some w →
  (∀ v H', (Good K H' → Rels K H' ((v, w) :: L)) → Q v H') → r vs H Q
def eB (f : List D → Option W) (os : List Opd) : ME := fun e => bnd (evL os e) fun rs e1 => match gvL e1 rs with
  | some ds => ofO (f ds) e1
  | none => .no
theorem pe_oc {r : List V → Hp → VK → Prop} {f : List D → Option W} {os : List Opd} {ta : TA} (hta : ta = tAL X.K P os) (ho : OpC X.K r f) (h : PE X e (tCB r ta)) : PE X e (tE X.K P (eB f os)) := mkE h fun p0 T σ env H w env' Q sr g hm hQ => by
  subst hta
  obtain ⟨rs, e1, h1, h2⟩ := bnd_eq_ok hm
  refine ⟨p0, T, env, rs, e1, sr, g, h1, fun vs H1 ox sr1 g1 => ?_⟩
  cases hg : gvL e1 rs with
  | none => rw [hg] at h2; cases h2
  | some ds =>
    rw [hg] at h2
    obtain ⟨h3, rfl⟩ := ofO_eq_ok h2
    refine ho H1 _ vs ds w _ g1 sr1.rels (views_of sr1 ox (fun _ z => z) hg) h3 fun v H2 q => hQ v H2 fun g2 => ?_
    exact (sr1.push (q g2)).sub (List.Sublist.cons_cons _ heldL_sub)

/-! ### values for a def, a display -/
theorem mkG {t : TA} {as : List Arg} (h : PA X es t)
    (k : ∀ (p0 : L2.St) (T : List (V × W)) (σ : L2.St) (env : Env) (H : Hp) rs (env' : Env) (Q : List V → Hp → Prop), SR X.K P p0 T σ env H → Good X.K H → evG as env = .ok rs env' →
      (∀ vs H', (Good X.K H' → ARel X.K H' (owned (pr σ env' ++ T)) σ vs rs ∧ SR X.K P p0 T σ env' H') → Q vs H') → t σ H Q) : PA X es (tG X.K P as) := by
  refine ⟨fun pos pins s σ H Q I hq => ?_⟩
  obtain ⟨p0, T, env, w, env', sr, g, hm, hQ⟩ := hq
  refine thn (h.run pos pins s σ H (fun v H' => Good X.K H' → Q v H') I (k p0 T σ env H w env' _ sr g hm fun v H' q g' => hQ v H' (q g').1 (q g').2 g')) ?_
  rintro u s' ⟨v, H', I', r, q⟩
  exact ⟨v, H', I', r, q (inv_good I')⟩
theorem pg_nilM : PA X [] (tG X.K P []) := mkG pa_nil fun p0 T σ env H rs env' Q sr g hm hQ => by
  cases hm
  exact hQ [] H fun _ => ⟨trivial, sr⟩
theorem ARel.to {K : KK} {H H' : Hp} {O O' : List Addr} {σ : L2.St} (e : ∀ a o, a ∉ O → H a = some o → H' a = some o) (s : ∀ a, a ∈ O' → a ∈ O) : ∀ {vs : List V} {rs : List (Nat ⊕ D)}, ARel K H O σ vs rs → ARel K H' O' σ vs rs
  | [], [], h => h
  | [], _ :: _, h => by simp [ARel] at h
  | _ :: _, [], h => by simp [ARel] at h
  | v :: vs, .inl i :: rs, h => ⟨h.1, ARel.to e s h.2⟩
  | v :: vs, .inr d :: rs, h => ⟨Dat.to e s d v h.1, ARel.to e s h.2⟩
theorem pg_valM {m : ME} {as : List Arg} (he : PE X e (tE X.K P m)) (hr : PA X es (tG X.K P as)) (hs : starEach (e :: es) X.env = (false, eval e X.env) :: starEach es X.env := by rfl) : PA X (e :: es) (tG X.K P (.vl m :: as)) :=
  mkG (pa_cons he hr hs) fun p0 T σ env H rs env' Q sr g hm hQ => by
    obtain ⟨w, e1, h1, hm⟩ := bnd_eq_ok hm
    obtain ⟨rs', e2, h2, hm⟩ := bnd_eq_ok hm
    cases hm
    refine ⟨p0, T, env, w, e1, sr, g, h1, fun v H1 sr1 g1 => ⟨p0, (v, .d (vw w)) :: T, e1, rs', _, sr1.fz, g1, h2, fun vs H2 ar sr2 g2 => hQ (v :: vs) H2 fun _ => ⟨⟨?_, ?_⟩, sr2.drop⟩⟩⟩
    · have q := sr2.top.at_ _ List.mem_cons_self
      rw [owned_d] at q
      exact q
    · refine ar.to (fun _ _ _ z => z) fun a z => ?_
      have pp : (pr σ env' ++ (v, W.d (vw w)) :: T).Perm ((v, W.d (vw w)) :: (pr σ env' ++ T)) := List.perm_middle
      refine (pp.filterMap ow).mem_iff.mpr ?_
      show a ∈ owned ((v, W.d (vw w)) :: (pr σ env' ++ T))
      rw [owned_d]
      exact z
theorem pg_refM {i : Nat} {as : List Arg} (he : PE X e (tVar i)) (hr : PA X es (tG X.K P as)) (hs : starEach (e :: es) X.env = (false, eval e X.env) :: starEach es X.env := by rfl) : PA X (e :: es) (tG X.K P (.rf i :: as)) :=
  mkG (pa_cons he hr hs) fun p0 T σ env H rs env' Q sr g hm hQ => by
    change (match env.getD i none with | some _ => bnd (evG as env) (fun rs e2 => Res.ok (Sum.inl i :: rs) e2) | none => Res.no) = _ at hm
    cases hd : env.getD i none with
    | none => rw [hd] at hm; cases hm
    | some w =>
    rw [hd] at hm
    obtain ⟨rs', e2, h2, hm⟩ := bnd_eq_ok hm
    cases hm
    obtain ⟨v, hv⟩ := sr.cov i w hd
    exact ⟨v, hv, p0, T, env, rs', _, sr, g, h2, fun vs H2 ar sr2 g2 => hQ (v :: vs) H2 fun _ => ⟨⟨hv, ar⟩, sr2⟩⟩
end
end Mi
set_option Elab.async false
set_option linter.all false
set_option maxRecDepth 100000
set_option maxHeartbeats 4000000
/-! Mi4: displays, owned lists written, statements, loops, comprehensions -/
namespace Mi
open PySem PySem.Spec PyProof.Rows L2

/-! ### displays -/
def evT : List ME → Env → Res (List D)
  | [], e => .ok [] e
  | m :: ms, e => bnd (m e) fun w e1 => bnd (evT ms e1) fun ds e2 => .ok (vw w :: ds) e2
def tF (K : KK) (P : List Nat) (ms : List ME) : TA := fun σ H Q => ∃ p0 T env ds env', SR K P p0 T σ env H ∧ Good K H ∧ evT ms env = .ok ds env' ∧
  ∀ vs H', Dats K H' (owned (pr σ env' ++ T)) ds vs → SR K P p0 T σ env' H' → Good K H' → Q vs H'
theorem evT_len : ∀ {ms : List ME} {env env' : Env} {ds : List D}, evT ms env = .ok ds env' → ds.length = ms.length
  | [], _, _, _, h => by cases h; rfl
  | m :: ms, _, _, _, h => by
    obtain ⟨w, e1, _, h⟩ := bnd_eq_ok h
    obtain ⟨ds, e2, h2, h⟩ := bnd_eq_ok h
    cases h
    simp [evT_len h2]
section
variable {X : Cx} {P : List Nat} {e : Expr} {es : List Expr}
theorem mkF {t : TA} {as : List ME} (h : PA X es t)
    (k : ∀ (p0 : L2.St) (T : List (V × W)) (σ : L2.St) (env : Env) (H : Hp) rs (env' : Env) (Q : List V → Hp → Prop), SR X.K P p0 T σ env H → Good X.K H → evT as env = .ok rs env' →
      (∀ vs H', (Good X.K H' → Dats X.K H' (owned (pr σ env' ++ T)) rs vs ∧ SR X.K P p0 T σ env' H') → Q vs H') → t σ H Q) : PA X es (tF X.K P as) := by
  refine ⟨fun pos pins s σ H Q I hq => ?_⟩
  obtain ⟨p0, T, env, w, env', sr, g, hm, hQ⟩ := hq
  refine thn (h.run pos pins s σ H (fun v H' => Good X.K H' → Q v H') I (k p0 T σ env H w env' _ sr g hm fun v H' q g' => hQ v H' (q g').1 (q g').2 g')) ?_
  rintro u s' ⟨v, H', I', r, q⟩
  exact ⟨v, H', I', r, q (inv_good I')⟩
theorem pf_nil : PA X [] (tF X.K P []) := mkF pa_nil fun p0 T σ env H rs env' Q sr g hm hQ => by
  cases hm
  exact hQ [] H fun _ => ⟨rfl, sr⟩
theorem ownedMid {A T : List (V × W)} {v : V} {d : D} {a : Addr} (z : a ∈ owned (A ++ T)) : a ∈ owned (A ++ (v, W.d d) :: T) := by
  have pp : (A ++ (v, W.d d) :: T).Perm ((v, W.d d) :: (A ++ T)) := List.perm_middle
  refine (pp.filterMap ow).mem_iff.mpr ?_
  show a ∈ owned ((v, W.d d) :: (A ++ T))
  rw [owned_d]
  exact z
theorem pf_cons {m : ME} {as : List ME} (he : PE X e (tE X.K P m)) (hr : PA X es (tF X.K P as)) (hs : starEach (e :: es) X.env = (false, eval e X.env) :: starEach es X.env := by rfl) : PA X (e :: es) (tF X.K P (m :: as)) :=
  mkF (pa_cons he hr hs) fun p0 T σ env H rs env' Q sr g hm hQ => by
    obtain ⟨w, e1, h1, hm⟩ := bnd_eq_ok hm
    obtain ⟨rs', e2, h2, hm⟩ := bnd_eq_ok hm
    cases hm
    refine ⟨p0, T, env, w, e1, sr, g, h1, fun v H1 sr1 g1 => ⟨p0, (v, .d (vw w)) :: T, e1, rs', _, sr1.fz, g1, h2, fun vs H2 ar sr2 g2 => hQ (v :: vs) H2 fun _ => ⟨⟨v, vs, rfl, ?_, ?_⟩, sr2.drop⟩⟩⟩
    · have q := sr2.top.at_ _ List.mem_cons_self
      rw [owned_d] at q
      exact q
    · exact ar.to (fun _ _ _ z => z) fun a z => ownedMid z
def eTup (ms : List ME) : ME := fun e => bnd (evT ms e) fun ds e1 => .ok (.d (.tuple ds)) e1
def eLst (ms : List ME) : ME := fun e => bnd (evT ms e) fun ds e1 => .ok (.l ds) e1
theorem pe_tupM {ms : List ME} {x1} {pos : Pos} (h : PA X es (tF X.K P ms)) (hl : ms.length ≤ 10000 := by first | decide | simp) : PE X (.Tuple es x1 pos) (tE X.K P (eTup ms)) := mkE (pe_tup h) fun p0 T σ env H w env' Q sr g hm hQ => by
  obtain ⟨ds, e1, h1, hm⟩ := bnd_eq_ok hm
  cases hm
  refine ⟨p0, T, env, ds, _, sr, g, h1, fun vs H1 ds1 sr1 g1 => ⟨?_, fun p hp => hQ _ _ fun g2 => ?_⟩⟩
  · rw [← ds1.length, evT_len h1, sizeLine_eq]; omega
  · have hk : X.K.lookup p = none := by
      cases q : X.K.lookup p with
      | none => rfl
      | some o => have := g2 p o q; rw [upd_same] at this; cases this
    exact sr1.push (sr1.rels.newTup hp hk ds1)
theorem pe_lstM {ms : List ME} {pos : Pos} (h : PA X es (tF X.K P ms)) (hl : ms.length ≤ 10000 := by first | decide | simp) : PE X (.List es pos) (tE X.K P (eLst ms)) := mkE (pe_lst h) fun p0 T σ env H w env' Q sr g hm hQ => by
  obtain ⟨ds, e1, h1, hm⟩ := bnd_eq_ok hm
  cases hm
  refine ⟨p0, T, env, ds, _, sr, g, h1, fun vs H1 ds1 sr1 g1 => ⟨?_, fun p hp => hQ _ _ fun g2 => ?_⟩⟩
  · rw [← ds1.length, evT_len h1, sizeLine_eq]; omega
  · have hk : X.K.lookup p = none := by
      cases q : X.K.lookup p with
      | none => rfl
      | some o => have := g2 p o q; rw [upd_same] at this; cases this
    exact sr1.push (sr1.rels.newOwn hp hk ds1)

/-! ### owned lists written by a method -/
/-- a method of the list xs with data: its value, the new content -/
def OpM (K : KK) (r : V → List V → Hp → VK → Prop) (f : List D → List D → Option (W × List D)) : Prop := ∀ (H : Hp) (L : List (V × W)) (a : Addr) (xs ds ys : List D) (vs : List V) (w : W) (Q : VK),
  Good K H → Rels K H ((.ref a, .l xs) :: L) → Dats K H (owned ((.ref a, .l xs) :: L)) ds vs → f xs ds = some (w, ys) → (∀ v H', (Good K H' → Rels K H' ((v, w) :: (.ref a, .l ys) :: L)) → Q v H') → r (.ref a) vs H Q
def isL : Option W → Bool
  | some (.l _) => true
  | _ => false
def eMu (f : List D → List D → Option (W × List D)) (i : Nat) (ms : List ME) : ME := fun e =>
  if isL (e.getD i none) = true then bnd (evT ms e) fun ds e1 => match e1.getD i none with
    | some (.l xs) => (match f xs ds with
      | some (w, ys) => .ok w (e1.set i (some (.l ys)))
      | none => .no)
    | _ => .no
  else .no
theorem SR.front {K : KK} {p0 : L2.St} {T : List (V × W)} {σ : L2.St} {env : Env} {H : Hp} (h : SR K P p0 T σ env H) {i : Nat} {v : V} {w : W} (hv : σ[i]? = some (some v)) (hw : env.getD i none = some w) :
    ∃ R, (pr σ env ++ T).Perm ((v, w) :: R) ∧ ∀ w', (pr σ (env.set i (some w')) ++ T).Perm ((v, w') :: R) := by
  have hi := h.lt hw
  obtain ⟨A, B, h1, h2⟩ := pr_set hi h.len
  have hs : σ.getD i none = some v := by rw [List.getD_eq_getElem?_getD, hv]; rfl
  have e2 : σ.set i (some v) = σ := by
    apply List.ext_getElem?
    intro j
    rw [List.getElem?_set]
    by_cases hj : i = j
    · subst hj; rw [if_pos rfl, if_pos hi, hv]
    · rw [if_neg hj]
  refine ⟨A ++ B ++ T, ?_, fun w' => ?_⟩
  · rw [h1, hs, hw]
    simp only [pc, List.append_assoc, List.singleton_append]
    exact List.perm_middle
  · have h3 := h2 (some v) (some w')
    rw [e2] at h3
    rw [h3]
    simp only [pc, List.append_assoc, List.singleton_append]
    exact List.perm_middle
theorem pe_mu {f : List D → List D → Option (W × List D)} {i : Nat} {ms : List ME} {ta : TA} {te : TE} {Ty : String} {r : V → List V → Hp → VK → Prop} (hte : te = tVar i) (hta : ta = tF X.K P ms) (hTy : Ty = "list") (ho : OpM X.K r f)
    (h : PE X e (tBM X.K Ty r te ta)) : PE X e (tE X.K P (eMu f i ms)) := mkE h fun p0 T σ env H w env' Q sr g hm hQ => by
  subst hte hta hTy
  unfold eMu at hm
  split at hm
  · rename_i hL
    obtain ⟨ds, e1, h1, hm⟩ := bnd_eq_ok hm
    cases hd : env.getD i none with
    | none => rw [hd] at hL; cases hL
    | some w0 =>
    cases w0 with
    | d x => rw [hd] at hL; cases hL
    | l xs0 =>
    obtain ⟨v, hv⟩ := sr.cov i _ hd
    obtain ⟨a, us, rfl, ha, _⟩ := sr.val hv hd
    refine ⟨.ref a, hv, Or.inl ⟨rfl, _, SqL.of ha⟩, p0, T, env, ds, e1, sr, g, h1, fun vs H1 ds1 sr1 g1 => ?_⟩
    cases hd1 : e1.getD i none with
    | none => rw [hd1] at hm; cases hm
    | some w1 =>
    cases w1 with
    | d x => rw [hd1] at hm; cases hm
    | l xs =>
    rw [hd1] at hm
    change (match f xs ds with | some (w, ys) => Res.ok w (e1.set i (some (.l ys))) | none => Res.no) = _ at hm
    cases hf : f xs ds with
    | none => rw [hf] at hm; cases hm
    | some p =>
    obtain ⟨w', ys⟩ := p
    rw [hf] at hm
    cases hm
    obtain ⟨R, q1, q2⟩ := sr1.front hv hd1
    refine ho H1 R a xs ds ys vs w _ g1 (sr1.rels.perm q1) ?_ hf fun u H2 q => hQ u H2 fun g2 => ?_
    · exact ds1.to (fun _ _ _ z => z) fun b z => (q1.filterMap ow).mem_iff.mpr z
    · have q' := q g2
      have s2 : SR X.K P p0 T σ (e1.set i (some (.l ys))) H2 := by
        refine ⟨q'.tail.perm (q2 _).symm, by rw [List.length_set]; exact sr1.len, sr1.len0, fun j x hj => ?_, fun j hj => ⟨(sr1.par j hj).1, ?_⟩⟩
        · rw [set_getD] at hj
          split at hj
          · rename_i z
            rw [← z.1]
            exact ⟨_, hv⟩
          · exact sr1.cov j x hj
        · rw [set_getD]
          split
          · exact ⟨ys, rfl⟩
          · exact (sr1.par j hj).2
      exact s2.push (q'.perm (List.Perm.cons _ (q2 _).symm))
  · cases hm
end

/-! ### statements -/
inductive Out where
  | nx
  | bk
  | ct
  | rt (w : W)
abbrev MS := Env → Res Out
def PostS (K : KK) (P : List Nat) (p0 : L2.St) (T : List (V × W)) (env : Env) (D : Ends) : Out → Prop
  | .nx => ∀ σ H, SR K P p0 T σ env H → Good K H → D.nx σ H
  | .bk => ∀ σ H, SR K P p0 T σ env H → Good K H → D.bk σ H
  | .ct => ∀ σ H, SR K P p0 T σ env H → Good K H → D.ct σ H
  | .rt w => ∀ v σ H, SR K P p0 ((v, w) :: T) σ env H → Good K H → D.rt v H
def PostG (K : KK) (P : List Nat) (p0 : L2.St) (T : List (V × W)) (env : Env) (D : Ends) : Out → Prop
  | .nx => ∀ σ H, (Good K H → SR K P p0 T σ env H) → D.nx σ H
  | .bk => ∀ σ H, (Good K H → SR K P p0 T σ env H) → D.bk σ H
  | .ct => ∀ σ H, (Good K H → SR K P p0 T σ env H) → D.ct σ H
  | .rt w => ∀ v σ H, (Good K H → SR K P p0 ((v, w) :: T) σ env H) → D.rt v H
def tS (K : KK) (P : List Nat) (m : MS) : TS := fun D σ H => ∃ p0 T env o env', SR K P p0 T σ env H ∧ Good K H ∧ m env = .ok o env' ∧ PostS K P p0 T env' D o
/-- the ends under Good -/
def gEnds (K : KK) (D : Ends) : Ends := ⟨fun σ H => Good K H → D.nx σ H, fun v H => Good K H → D.rt v H, fun σ H => Good K H → D.bk σ H, fun σ H => Good K H → D.ct σ H⟩
theorem PostS.g {K : KK} {P : List Nat} {p0 : L2.St} {T : List (V × W)} {env : Env} {D : Ends} {o : Out} (h : PostS K P p0 T env D o) : PostG K P p0 T env (gEnds K D) o := by
  cases o with
  | nx => exact fun σ H q g => h σ H (q g) g
  | bk => exact fun σ H q g => h σ H (q g) g
  | ct => exact fun σ H q g => h σ H (q g) g
  | rt w => exact fun v σ H q g => h v σ H (q g) g
theorem PostG.s {K : KK} {P : List Nat} {p0 : L2.St} {T : List (V × W)} {env : Env} {D : Ends} {o : Out} (h : PostG K P p0 T env D o) : PostS K P p0 T env D o := by
  cases o with
  | nx => exact fun σ H q _ => h σ H fun _ => q
  | bk => exact fun σ H q _ => h σ H fun _ => q
  | ct => exact fun σ H q _ => h σ H fun _ => q
  | rt w => exact fun v σ H q _ => h v σ H fun _ => q
section
variable {X : Cx} {P : List Nat} {st : Stmt} {sts : List Stmt} {e : Expr} {pos : Pos}
theorem sp_g {pins : List (Addr × Obj)} {D : Ends} {f : Flow} {s' : Shared} (h : SP X pins (gEnds X.K D) f s') : SP X pins D f s' := by
  cases f with
  | next => obtain ⟨σ', H', I, q⟩ := h; exact ⟨σ', H', I, q (inv_good I)⟩
  | brk => obtain ⟨σ', H', I, q⟩ := h; exact ⟨σ', H', I, q (inv_good I)⟩
  | cont => obtain ⟨σ', H', I, q⟩ := h; exact ⟨σ', H', I, q (inv_good I)⟩
  | ret u => obtain ⟨v, σ', H', I, r, q⟩ := h; exact ⟨v, σ', H', I, r, q (inv_good I)⟩
theorem mkS {t : TS} {m : MS} (h : PS X st t)
    (k : ∀ (p0 : L2.St) (T : List (V × W)) (σ : L2.St) (env : Env) (H : Hp) (o : Out) (env' : Env) (D : Ends), SR X.K P p0 T σ env H → Good X.K H → σ.length = X.N.length → m env = .ok o env' → PostG X.K P p0 T env' D o → t D σ H) : PS X st (tS X.K P m) := by
  refine ⟨fun pins s σ H D I hq => ?_⟩
  obtain ⟨p0, T, env, o, env', sr, g, hm, hQ⟩ := hq
  exact thn (h.run pins s σ H (gEnds X.K D) I (k p0 T σ env H o env' _ sr g I.len hm hQ.g)) fun f s' q => sp_g q
theorem mkSs {t : TS} {m : MS} (h : PSs X sts t)
    (k : ∀ (p0 : L2.St) (T : List (V × W)) (σ : L2.St) (env : Env) (H : Hp) (o : Out) (env' : Env) (D : Ends), SR X.K P p0 T σ env H → Good X.K H → σ.length = X.N.length → m env = .ok o env' → PostG X.K P p0 T env' D o → t D σ H) : PSs X sts (tS X.K P m) := by
  refine ⟨fun pins s σ H D I hq => ?_⟩
  obtain ⟨p0, T, env, o, env', sr, g, hm, hQ⟩ := hq
  exact thn (h.run pins s σ H (gEnds X.K D) I (k p0 T σ env H o env' _ sr g I.len hm hQ.g)) fun f s' q => sp_g q
def sNx : MS := fun e => .ok .nx e
def sBk : MS := fun e => .ok .bk e
def sCt : MS := fun e => .ok .ct e
def sSeq (a b : MS) : MS := fun e => bnd (a e) fun o e1 => match o with
  | .nx => b e1
  | o => .ok o e1
def sE (m : ME) : MS := fun e => bnd (m e) fun _ e1 => .ok .nx e1
def sSet (i : Nat) (m : ME) : MS := fun e => bnd (m e) fun w e1 => .ok .nx (e1.set i (some w))
def sRet (m : ME) : MS := fun e => bnd (m e) fun w e1 => .ok (.rt (.d (vw w))) e1
def sRetO (m : ME) : MS := fun e => bnd (m e) fun w e1 => .ok (.rt w) e1
def sRetN : MS := fun e => .ok (.rt (.d .none)) e
def sIf (t : MT) (a b : MS) : MS := fun e => bnd (t e) fun c e1 => if c = true then a e1 else b e1
/-- x[i] = v of an owned list -/
def sPut (i : Nat) (mi mv : ME) : MS := fun e => bnd (mv e) fun w e1 => if isL (e1.getD i none) = true then bnd (mi e1) fun wi e2 => match vw wi with
  | .int k => (match e2.getD i none with
    | some (.l xs) => (match ixN xs.length k with
      | some j => .ok .nx (e2.set i (some (.l (xs.set j (vw w)))))
      | none => .no)
    | _ => .no)
  | _ => .no
  else .no
theorem pss_nilM : PSs X [] (tS X.K P sNx) := mkSs pss_nil fun p0 T σ env H o env' D sr g _ hm hQ => by
  cases hm
  exact hQ σ H fun _ => sr
theorem ps_passM : PS X (.Pass pos) (tS X.K P sNx) := mkS ps_pass fun p0 T σ env H o env' D sr g _ hm hQ => by
  cases hm
  exact hQ σ H fun _ => sr
theorem ps_breakM : PS X (.Break pos) (tS X.K P sBk) := mkS ps_break fun p0 T σ env H o env' D sr g _ hm hQ => by
  cases hm
  exact hQ σ H fun _ => sr
theorem ps_contM : PS X (.Continue pos) (tS X.K P sCt) := mkS ps_continue fun p0 T σ env H o env' D sr g _ hm hQ => by
  cases hm
  exact hQ σ H fun _ => sr
theorem pss_consM {a b : MS} (h1 : PS X st (tS X.K P a)) (h2 : PSs X sts (tS X.K P b)) : PSs X (st :: sts) (tS X.K P (sSeq a b)) := mkSs (pss_cons h1 h2) fun p0 T σ env H o env' D sr g _ hm hQ => by
  obtain ⟨o1, e1, h3, hm⟩ := bnd_eq_ok hm
  refine ⟨p0, T, env, o1, e1, sr, g, h3, ?_⟩
  cases o1 with
  | nx => exact fun σ1 H1 sr1 g1 => ⟨p0, T, e1, o, env', sr1, g1, hm, hQ.s⟩
  | bk => cases hm; exact hQ.s
  | ct => cases hm; exact hQ.s
  | rt w => cases hm; exact hQ.s
theorem pss_oneM {a : MS} (h1 : PS X st (tS X.K P a)) : PSs X [st] (tS X.K P a) := pss_one h1
theorem ps_exprM {m : ME} (he : PE X e (tE X.K P m)) (hs : swapsWith e none pos.line X.env = pure false := by rfl) : PS X (.Expr e pos) (tS X.K P (sE m)) := mkS (ps_expr he hs) fun p0 T σ env H o env' D sr g _ hm hQ => by
  obtain ⟨w, e1, h1, hm⟩ := bnd_eq_ok hm
  cases hm
  exact ⟨p0, T, env, w, _, sr, g, h1, fun v H1 sr1 g1 => hQ σ H1 fun _ => sr1.drop⟩
theorem ps_setM {i : Nat} {x : Str} {m : ME} {pos' : Pos} (hN : X.N.Nodup) (hP : P.contains i = false) (hi : X.N[i]? = some x) (hx : Loc X.env.scope x) (he : PE X e (tE X.K P m)) (hs : swapsWith e (some (.Name x pos')) pos.line X.env = pure false := by rfl)
    (hf : X.fn x = true ∨ X.env.scope.names.lookup x = some .local := by first | exact .inl rfl | exact .inr rfl | assumption) : PS X (.Assign [.Name x pos'] e pos) (tS X.K P (sSet i m)) := mkS (ps_set hN hi hx he hs hf) fun p0 T σ env H o env' D sr g hl hm hQ => by
  have hP' : i ∉ P := fun z => by rw [List.contains_iff_mem.mpr z] at hP; cases hP
  obtain ⟨w, e1, h1, hm⟩ := bnd_eq_ok hm
  cases hm
  exact ⟨p0, T, env, w, _, sr, g, h1, fun v H1 sr1 g1 => hQ _ H1 fun _ => sr1.store (by rw [hl]; exact (List.getElem?_eq_some_iff.mp hi).1) hP'⟩
theorem ps_retM {m : ME} (he : PE X e (tE X.K P m)) : PS X (.Return (some e) pos) (tS X.K P (sRet m)) := mkS (ps_ret he) fun p0 T σ env H o env' D sr g hl hm hQ => by
  obtain ⟨w, e1, h1, hm⟩ := bnd_eq_ok hm
  cases hm
  exact ⟨p0, T, env, w, _, sr, g, h1, fun v H1 sr1 g1 => hQ v σ H1 fun _ => sr1.fz⟩
theorem ps_retOM {m : ME} (he : PE X e (tE X.K P m)) : PS X (.Return (some e) pos) (tS X.K P (sRetO m)) := mkS (ps_ret he) fun p0 T σ env H o env' D sr g hl hm hQ => by
  obtain ⟨w, e1, h1, hm⟩ := bnd_eq_ok hm
  cases hm
  exact ⟨p0, T, env, w, _, sr, g, h1, fun v H1 sr1 g1 => hQ v σ H1 fun _ => sr1⟩
theorem ps_retNM : PS X (.Return none pos) (tS X.K P sRetN) := mkS ps_retN fun p0 T σ env H o env' D sr g hl hm hQ => by
  cases hm
  exact hQ .non σ H fun _ => sr.push (sr.rels.data rfl)
theorem ps_ifM {c : Expr} {a b : List Stmt} {mc : MT} {ma mb : MS} (hc : PT X c (tM X.K P mc)) (ha : PSs X a (tS X.K P ma)) (hb : PSs X b (tS X.K P mb)) : PS X (.If c a b pos) (tS X.K P (sIf mc ma mb)) := mkS (ps_if hc ha hb) fun p0 T σ env H o env' D sr g hl hm hQ => by
  obtain ⟨k, e1, h1, hm⟩ := bnd_eq_ok hm
  refine ⟨p0, T, env, k, e1, sr, g, h1, fun H1 sr1 g1 => ?_⟩
  split at hm
  · rename_i hk
    rw [if_pos hk]
    exact ⟨p0, T, e1, o, env', sr1, g1, hm, hQ.s⟩
  · rename_i hk
    rw [if_neg hk]
    exact ⟨p0, T, e1, o, env', sr1, g1, hm, hQ.s⟩
theorem vw_int {w : W} {k : Int} (h : vw w = .int k) : w = .d (.int k) := by
  cases w with
  | d x => exact congrArg W.d h
  | l xs => cases h
theorem isL_some {o : Option W} (h : isL o = true) : ∃ xs, o = some (.l xs) := by
  cases o with
  | none => cases h
  | some w => cases w with
    | d x => cases h
    | l xs => exact ⟨xs, rfl⟩
theorem ps_putM {i : Nat} {x : Str} {mi mv : ME} {ei : Expr} {p1 p2 : Pos} {tv : TE} (htv : tv = tVar i)
    (h : PS X (.Assign [.Subscript (.Name x p1) ei p2] e pos) (tAsg (tE X.K P mv) (gSub tv (tE X.K P mi) rSetL))) : PS X (.Assign [.Subscript (.Name x p1) ei p2] e pos) (tS X.K P (sPut i mi mv)) := mkS h fun p0 T σ env H o env' D sr g hl hm hQ => by
  subst htv
  obtain ⟨w, e1, h1, hm⟩ := bnd_eq_ok hm
  split at hm
  · rename_i hL
    obtain ⟨xs0, hd0⟩ := isL_some hL
    obtain ⟨wi, e2, h2, hm⟩ := bnd_eq_ok hm
    split at hm
    · rename_i k hk
      have := vw_int hk
      subst this
      split at hm
      · rename_i xs hd
        split at hm
        · rename_i j hj
          cases hm
          refine ⟨p0, T, env, w, e1, sr, g, h1, fun v H1 sr1 g1 => ?_⟩
          have sr1 := sr1.fz
          obtain ⟨u, hu⟩ := sr1.cov i _ hd0
          refine ⟨u, hu, p0, _, e1, _, e2, sr1, g1, h2, fun iv H2 sr2 g2 => ?_⟩
          have hiv : iv = .int k := sr2.top.at_ _ List.mem_cons_self
          have sr2 := sr2.drop
          obtain ⟨a, us, rfl, ha, hds⟩ := sr2.val hu hd
          obtain ⟨R, q1, q2⟩ := sr2.front hu hd
          refine ⟨a, us, k, j, rfl, hiv, ha, by rw [← hds.length]; exact hj, hQ σ _ fun _ => ?_⟩
          have hdv : Dat X.K H2 (owned (pr σ e2 ++ (v, W.d (vw w)) :: T)) (vw w) v := by
            have q := sr2.rels.at_ (v, W.d (vw w)) (List.mem_append_right _ List.mem_cons_self)
            exact q
          have hw := (sr2.rels.perm q1).write (ys := xs.set j (vw w)) (us := us.set j v) ((hds.set j hdv).to (fun _ _ _ z => z) fun b z => (q1.filterMap ow).mem_iff.mpr z)
          have s2 := sr2.slot hu hd (w' := .l (xs.set j (vw w))) (fun _ => ⟨_, rfl⟩) (H' := upd H2 a (.lst (us.set j v))) fun L qp q => q.write (hds.set j hdv |>.to (fun _ _ _ z => z) fun b z => (qp.filterMap ow).mem_iff.mpr z)
          exact s2.drop
        · cases hm
      · cases hm
    · cases hm
  · cases hm
end
end Mi
set_option Elab.async false
set_option linter.all false
set_option maxRecDepth 100000
set_option maxHeartbeats 4000000
/-! Mi5: what is walked, for, while, comprehensions, targets -/
namespace Mi
open PySem PySem.Spec PyProof.Rows L2

/-! ### targets -/
abbrev Tg := D → Env → Option Env
def TgS (K : KK) (P : List Nat) (n : Nat) (vs : List Nat) (g : TG) (tg : Tg) : Prop := ∀ (p0 : L2.St) (T : List (V × W)) (σ : L2.St) (env : Env) (H : Hp) (v : V) (x : D) (env' : Env) (Q : L2.St → Hp → Prop),
  p0.length = n → SR K P p0 ((v, .d x) :: T) σ env H → tg x env = some env' → (∀ σ', wipe σ' vs = wipe σ vs → SR K P p0 T σ' env' H → Q σ' H) → g v σ H Q
def tgN (j : Nat) : Tg := fun x e => some (e.set j (some (.d x)))
def tgL : List Tg → List D → Env → Option Env
  | [], [], e => some e
  | t :: ts, x :: xs, e => (t x e).bind (tgL ts xs)
  | _, _, _ => none
def tgT (ts : List Tg) : Tg := fun x e => match x with
  | .tuple xs => tgL ts xs e
  | _ => none
/-- the slots that a target stores: for comprehensions -/
def TgsS (K : KK) (P : List Nat) (n : Nat) (ws : List Nat) (g : TGs) (ts : List Tg) : Prop := ∀ (p0 : L2.St) (T : List (V × W)) (σ : L2.St) (env : Env) (H : Hp) (vs : List V) (xs : List D) (env' : Env) (Q : L2.St → Hp → Prop),
  p0.length = n → Dats K H (owned (pr σ env ++ T)) xs vs → SR K P p0 T σ env H → (∀ d v, (v, d) ∈ vs.zip xs → (v, W.d d) ∈ T) → tgL ts xs env = some env' → (∀ σ', wipe σ' ws = wipe σ ws → SR K P p0 T σ' env' H → Q σ' H) → g vs σ H Q
section
variable {K : KK} {P : List Nat} {n : Nat}
theorem wipe_set_in {σ : L2.St} {x : Option V} {j : Nat} : ∀ {vs : List Nat}, j ∈ vs → wipe (σ.set j x) vs = wipe σ vs
  | [], h => by simp at h
  | v :: vs, h => by
    by_cases hj : j ∈ vs
    · simp only [wipe]
      rw [wipe_set_in hj]
    · have e : j = v := by
        rcases List.mem_cons.mp h with e | e
        · exact e
        · exact absurd e hj
      subst e
      simp only [wipe]
      have : ∀ (vs : List Nat), j ∉ vs → wipe (σ.set j x) vs = (wipe σ vs).set j x := by
        intro vs
        induction vs with
        | nil => intro _; rfl
        | cons u us ih =>
          intro hu
          simp only [wipe]
          rw [ih fun z => hu (List.mem_cons_of_mem _ z), List.set_comm _ _ (fun e => hu (by rw [e]; exact List.mem_cons_self))]
      rw [this vs hj, List.set_set]
theorem tgs_name {ws : List Nat} {j : Nat} (hP : P.contains j = false) (hj : j < n) (hw : j ∈ ws) : TgS K P n ws (gName j) (tgN j) := fun p0 T σ env H v x env' Q hn sr h hQ => by
  have hP' : j ∉ P := fun z => by rw [List.contains_iff_mem.mpr z] at hP; cases hP
  cases h
  exact hQ _ (wipe_set_in hw) (sr.store (by rw [← sr.len0, hn]; exact hj) hP')
theorem tgs_nil {ws : List Nat} : TgsS K P n ws gNil [] := fun p0 T σ env H vs xs env' Q hn hd sr hm h hQ => by
  cases xs with
  | nil =>
    cases h
    simp only [Dats] at hd
    exact ⟨hd, hQ σ rfl sr⟩
  | cons x xs => cases h
theorem tgs_cons {ws : List Nat} {g : TG} {gs : TGs} {t : Tg} {ts : List Tg} (h1 : TgS K P n ws g t) (h2 : TgsS K P n ws gs ts) : TgsS K P n ws (gCons g gs) (t :: ts) := fun p0 T σ env H vs xs env' Q hn hd sr hm h hQ => by
  cases xs with
  | nil => cases h
  | cons x xs =>
    simp only [Dats] at hd
    obtain ⟨v, r, rfl, hx, hr⟩ := hd
    obtain ⟨e1, h3, h4⟩ := Option.bind_eq_some_iff.mp (show (t x env).bind (tgL ts xs) = some env' from h)
    refine ⟨v, r, rfl, h1 p0 T σ env H v x e1 _ hn (sr.push (sr.rels.data hx)) h3 fun σ1 wp1 sr1 => ?_⟩
    refine h2 p0 T σ1 e1 H r xs env' Q hn ?_ sr1 (fun d u z => hm d u (List.mem_cons_of_mem _ z)) h4 (fun σ' wp' s' => hQ σ' (wp'.trans wp1) s')
    -- the items are held in T
    have all : ∀ (xs : List D) (r : List V), r.length = xs.length → (∀ d u, (u, d) ∈ r.zip xs → (u, W.d d) ∈ T) → Dats K H (owned (pr σ1 e1 ++ T)) xs r := by
      intro xs
      induction xs with
      | nil => intro r hl _; cases r with
        | nil => rfl
        | cons _ _ => simp at hl
      | cons y ys ih => intro r hl hm; cases r with
        | nil => simp at hl
        | cons u us =>
          refine ⟨u, us, rfl, ?_, ih us (by simpa using hl) fun d w z => hm d w (List.mem_cons_of_mem _ z)⟩
          exact sr1.rels.at_ (u, W.d y) (List.mem_append_right _ (hm y u List.mem_cons_self))
    exact all xs r hr.length.symm fun d u z => hm d u (List.mem_cons_of_mem _ z)
theorem heldDs : ∀ {xs : List D} {vs : List V} {T : List (V × W)} {σ : L2.St} {env : Env} {p0 : L2.St} {H : Hp}, SR K P p0 T σ env H → Dats K H (owned (pr σ env ++ T)) xs vs → SR K P p0 ((vs.zip xs).map (fun p => (p.1, W.d p.2)) ++ T) σ env H
  | [], vs, T, σ, env, p0, H, sr, hd => by simp only [Dats] at hd; subst hd; exact sr
  | x :: xs, vs, T, σ, env, p0, H, sr, hd => by
    simp only [Dats] at hd
    obtain ⟨v, r, rfl, hx, hr⟩ := hd
    have s2 := heldDs sr hr
    refine s2.push (s2.rels.data ?_)
    refine hx.to (fun _ _ _ z => z) fun a z => ?_
    have : ∀ (l : List (V × D)) (A : List (V × W)), owned (A ++ (l.map (fun p => (p.1, W.d p.2)) ++ T)) = owned (A ++ T) := by
      intro l A
      unfold owned
      rw [List.filterMap_append, List.filterMap_append, List.filterMap_append]
      congr 1
      have : (l.map (fun p => (p.1, W.d p.2))).filterMap ow = [] := by
        induction l with
        | nil => rfl
        | cons p l ih =>
          rw [List.map_cons, List.filterMap_cons]
          obtain ⟨v, d⟩ := p
          cases v <;> exact ih
      rw [this, List.nil_append]
    rw [this] at z
    exact z
theorem tgs_tup {ws : List Nat} {gs : TGs} {ts : List Tg} {k : Nat} (hk : ts.length = k) (h : TgsS K P n ws gs ts) : TgS K P n ws (gTup K k gs) (tgT ts) := fun p0 T σ env H v x env' Q hn sr hx hQ => by
  unfold tgT at hx
  split at hx
  · rename_i xs
    have q := sr.top.at_ _ List.mem_cons_self
    simp only [RW, Dat] at q
    obtain ⟨a, vs, e, hs, _, hd⟩ := q
    rw [owned_d] at hd
    have hl : ∀ (ts : List Tg) (xs : List D) (e e' : Env), tgL ts xs e = some e' → ts.length = xs.length := by
      intro ts
      induction ts with
      | nil => intro xs e e' h; cases xs with
        | nil => rfl
        | cons _ _ => cases h
      | cons t ts ih => intro xs e e' h; cases xs with
        | nil => cases h
        | cons x xs =>
          obtain ⟨e1, h3, h4⟩ := Option.bind_eq_some_iff.mp (show (t x e).bind (tgL ts xs) = some e' from h)
          simp [ih xs e1 e' h4]
    refine ⟨a, vs, e, hs, by rw [← hd.length, ← hl _ _ _ _ hx]; exact hk, ?_⟩
    have sr1 := heldDs sr.drop hd
    refine h p0 _ σ env H vs xs env' _ hn ?_ sr1 ?_ hx fun σ' wp' sr' => hQ σ' wp' (sr'.sub (List.sublist_append_right _ _))
    · refine hd.to (fun _ _ _ z => z) fun a z => ?_
      have : ∀ (l : List (V × D)) (A : List (V × W)), owned (A ++ (l.map (fun p => (p.1, W.d p.2)) ++ T)) = owned (A ++ T) := by
        intro l A
        unfold owned
        rw [List.filterMap_append, List.filterMap_append, List.filterMap_append]
        congr 1
        have : (l.map (fun p => (p.1, W.d p.2))).filterMap ow = [] := by
          induction l with
          | nil => rfl
          | cons p l ih =>
            rw [List.map_cons, List.filterMap_cons]
            obtain ⟨v, d⟩ := p
            cases v <;> exact ih
        rw [this, List.nil_append]
      rw [this] at z
      exact z
    · intro d u z
      exact List.mem_append_left _ (List.mem_map.mpr ⟨(u, d), z, rfl⟩)
  · cases hx
end

/-! ### what is walked -/
structure ItOk (K : KK) (J : It) (xs : List D) (S : List (V × W)) : Prop where
  go : ∀ (i : Nat) (H : Hp) (L : List (V × W)), i < xs.length → Rels K H L → (∀ p ∈ S, p ∈ L) → J.go i H
  stop : ∀ (H : Hp) (L : List (V × W)), Rels K H L → (∀ p ∈ S, p ∈ L) → J.stop xs.length H
  yld : ∀ (i : Nat) (H : Hp) (L : List (V × W)) (x : V) (H' : Hp) (d : D), Rels K H L → (∀ p ∈ S, p ∈ L) → xs[i]? = some d → J.yld i H x H' → (Good K H' → Good K H ∧ Rels K H' ((x, .d d) :: L))
abbrev MI := Env → Res (List D)
def tI (K : KK) (P : List Nat) (src : MI) : TI := fun σ H R => ∃ p0 T env xs env', SR K P p0 T σ env H ∧ Good K H ∧ src env = .ok xs env' ∧
  ∀ J S H', ItOk K J xs S → SR K P p0 (S ++ T) σ env' H' → Good K H' → R J H'
section
variable {X : Cx} {P : List Nat} {tg iter : Expr}
theorem mkI {wi : TI} {src : MI} (h : PI X tg iter wi)
    (k : ∀ (p0 : L2.St) (T : List (V × W)) (σ : L2.St) (env : Env) (H : Hp) (xs : List D) (env' : Env) (R : It → Hp → Prop), SR X.K P p0 T σ env H → Good X.K H → src env = .ok xs env' →
      (∀ J S H', ItOk X.K J xs S → (Good X.K H' → SR X.K P p0 (S ++ T) σ env' H') → R J H') → wi σ H R) : PI X tg iter (tI X.K P src) := by
  refine ⟨fun pins s σ H R I hq => ?_⟩
  obtain ⟨p0, T, env, xs, env', sr, g, hm, hQ⟩ := hq
  refine thn (h.run pins s σ H (fun J H' => Good X.K H' → R J H') I (k p0 T σ env H xs env' _ sr g hm fun J S H' io q g' => hQ J S H' io (q g') g')) fun v s1 h1 => ?_
  refine thn h1 fun itv s2 h2 => ?_
  obtain ⟨it, fp, tn, J, H', e1, I', h3, h4, h5, h6⟩ := h2
  exact ⟨it, fp, tn, J, H', e1, I', h3, h4, h5, h6 (inv_good I')⟩
/-- a list, by its value -/
def iSeq (m : ME) : MI := fun e => bnd (m e) fun w e1 => match vw w with
  | .list xs => .ok xs e1
  | _ => .no
def iTup' (m : ME) : MI := fun e => bnd (m e) fun w e1 => match vw w with
  | .tuple xs => .ok xs e1
  | _ => .no
theorem Dats.at {K : KK} {H : Hp} {O : List Addr} {xs : List D} {vs : List V} (h : Dats K H O xs vs) {i : Nat} {d : D} (e : xs[i]? = some d) {x : V} (hx : vs[i]? = some x) : Dat K H O d x := by
  obtain ⟨v, h1, h2⟩ := h.get e
  rw [h1] at hx; cases hx
  exact h2
theorem Dats.lt {K : KK} {H : Hp} {O : List Addr} {xs : List D} {vs : List V} (h : Dats K H O xs vs) {i : Nat} (e : i < xs.length) : ∃ x, vs[i]? = some x := by
  rw [h.length] at e
  exact ⟨vs[i], by simp [e]⟩
theorem itOk_list {K : KK} {a : Addr} {xs : List D} : ItOk K (Itl K a) xs [(.ref a, .d (.list xs))] where
  go := fun i H L hi h s => by
    obtain ⟨b, vs, e, h1, _, h2⟩ := (show ∃ b vs, V.ref a = .ref b ∧ SqL K H b vs ∧ b ∉ owned L ∧ Dats K H (owned L) xs vs from by simpa only [RW, Dat] using h.at_ _ (s _ List.mem_cons_self))
    cases e
    obtain ⟨x, hx⟩ := h2.lt hi
    exact ⟨vs, x, h1, hx⟩
  stop := fun H L h s => by
    obtain ⟨b, vs, e, h1, _, h2⟩ := (show ∃ b vs, V.ref a = .ref b ∧ SqL K H b vs ∧ b ∉ owned L ∧ Dats K H (owned L) xs vs from by simpa only [RW, Dat] using h.at_ _ (s _ List.mem_cons_self))
    cases e
    exact ⟨vs, h1, by rw [h2.length]; exact Nat.le_refl _⟩
  yld := fun i H L x H' d h s e y g => by
    obtain ⟨b, vs, e2, h1, _, h2⟩ := (show ∃ b vs, V.ref a = .ref b ∧ SqL K H b vs ∧ b ∉ owned L ∧ Dats K H (owned L) xs vs from by simpa only [RW, Dat] using h.at_ _ (s _ List.mem_cons_self))
    cases e2
    obtain ⟨rfl, hy⟩ := y
    exact ⟨g, h.data (h2.at e (hy vs h1))⟩
theorem itOk_tup {K : KK} {a : Addr} {xs : List D} : ItOk K (Itt K a) xs [(.ref a, .d (.tuple xs))] where
  go := fun i H L hi h s => by
    obtain ⟨b, vs, e, h1, _, h2⟩ := (show ∃ b vs, V.ref a = .ref b ∧ SqT K H b vs ∧ b ∉ owned L ∧ Dats K H (owned L) xs vs from by simpa only [RW, Dat] using h.at_ _ (s _ List.mem_cons_self))
    cases e
    obtain ⟨x, hx⟩ := h2.lt hi
    exact ⟨vs, x, h1, hx⟩
  stop := fun H L h s => by
    obtain ⟨b, vs, e, h1, _, h2⟩ := (show ∃ b vs, V.ref a = .ref b ∧ SqT K H b vs ∧ b ∉ owned L ∧ Dats K H (owned L) xs vs from by simpa only [RW, Dat] using h.at_ _ (s _ List.mem_cons_self))
    cases e
    exact ⟨vs, h1, by rw [h2.length]; exact Nat.le_refl _⟩
  yld := fun i H L x H' d h s e y g => by
    obtain ⟨b, vs, e2, h1, _, h2⟩ := (show ∃ b vs, V.ref a = .ref b ∧ SqT K H b vs ∧ b ∉ owned L ∧ Dats K H (owned L) xs vs from by simpa only [RW, Dat] using h.at_ _ (s _ List.mem_cons_self))
    cases e2
    obtain ⟨rfl, hy⟩ := y
    exact ⟨g, h.data (h2.at e (hy vs h1))⟩
theorem pi_listM {m : ME} (h : PE X iter (tE X.K P m)) (h' : ∀ te, PE X iter te → PI X tg iter (iList X.K te) := by exact fun te h => pi_list h) : PI X tg iter (tI X.K P (iSeq m)) := mkI (h' _ h) fun p0 T σ env H xs env' R sr g hm hR => by
  obtain ⟨w, e1, h1, hm⟩ := bnd_eq_ok hm
  split at hm
  · rename_i ys hw
    cases hm
    refine ⟨p0, T, env, w, _, sr, g, h1, fun v H1 sr1 g1 => ?_⟩
    have sr1 := sr1.fz
    rw [hw] at sr1
    have q := sr1.top.at_ _ List.mem_cons_self
    simp only [RW, Dat] at q
    obtain ⟨a, vs, rfl, hs, _, hd⟩ := q
    exact ⟨a, rfl, ⟨vs, hs⟩, hR _ [(.ref a, .d (.list xs))] H1 itOk_list fun _ => sr1⟩
  · cases hm
theorem pi_tupM {m : ME} (h : PE X iter (tE X.K P m)) (h' : ∀ te, PE X iter te → PI X tg iter (iTup X.K te) := by exact fun te h => pi_tup h) : PI X tg iter (tI X.K P (iTup' m)) := mkI (h' _ h) fun p0 T σ env H xs env' R sr g hm hR => by
  obtain ⟨w, e1, h1, hm⟩ := bnd_eq_ok hm
  split at hm
  · rename_i ys hw
    cases hm
    refine ⟨p0, T, env, w, _, sr, g, h1, fun v H1 sr1 g1 => ?_⟩
    have sr1 := sr1.fz
    rw [hw] at sr1
    have q := sr1.top.at_ _ List.mem_cons_self
    simp only [RW, Dat] at q
    obtain ⟨a, vs, rfl, hs, _, hd⟩ := q
    exact ⟨a, rfl, ⟨vs, hs⟩, hR _ [(.ref a, .d (.tuple xs))] H1 itOk_tup fun _ => sr1⟩
  · cases hm
/-- ranges -/
def rng (lo : Int) (n : Nat) : List D := (List.range n).map fun (i : Nat) => PyData.int (lo + (i : Int))
theorem itOk_rng {K : KK} {lo : Int} {n : Nat} : ItOk K (Itr lo n) (rng lo n) [] where
  go := fun i H L hi h s => by simpa [rng, Itr] using hi
  stop := fun H L h s => by simp [rng, Itr]
  yld := fun i H L x H' d h s e y g => by
    obtain ⟨rfl, rfl⟩ := y
    have : d = .int (lo + i) := by
      simp only [rng, List.getElem?_map] at e
      by_cases hi : i < n
      · rw [List.getElem?_range hi] at e
        cases e; rfl
      · rw [List.getElem?_eq_none (by simpa using hi)] at e
        cases e
    subst this
    exact ⟨g, h.data rfl⟩
def iR1 (a : ME) : MI := fun e => bnd (a e) fun w e1 => match vw w with
  | .int j => if -4611686018427387904 ≤ j ∧ j < 4611686018427387904 then .ok (rng 0 j.toNat) e1 else .no
  | _ => .no
def iR2 (a b : ME) : MI := fun e => bnd (a e) fun w e1 => bnd (b e1) fun w2 e2 => match vw w with
  | .int i => (match vw w2 with
    | .int j => if -4611686018427387904 ≤ i ∧ i < 4611686018427387904 ∧ -4611686018427387904 ≤ j ∧ j < 4611686018427387904 then .ok (rng i (j - i).toNat) e2 else .no
    | _ => .no)
  | _ => .no
theorem pi_r1M {m : ME} {ta : TA} (hta : ta = tF X.K P [m]) (h : PI X tg iter (iRng1 ta)) : PI X tg iter (tI X.K P (iR1 m)) := mkI h fun p0 T σ env H xs env' R sr g hm hR => by
  subst hta
  obtain ⟨w, e1, h1, hm⟩ := bnd_eq_ok hm
  split at hm
  · rename_i j hw
    split at hm
    · rename_i hj
      obtain ⟨rfl, rfl⟩ : rng 0 j.toNat = xs ∧ e1 = env' := by cases hm; exact ⟨rfl, rfl⟩
      refine ⟨p0, T, env, [.int j], e1, sr, g, by simp only [evT, h1, bnd_ok, hw], fun vs H1 hd sr1 g1 => ?_⟩
      obtain ⟨v, r, rfl, hv, rfl⟩ := hd
      have hv' : v = .int j := hv
      subst hv'
      exact ⟨j, rfl, hj.1, hj.2, hR _ [] H1 itOk_rng fun _ => sr1⟩
    · cases hm
  · cases hm
theorem pi_r2M {m m2 : ME} {ta : TA} (hta : ta = tF X.K P [m, m2]) (h : PI X tg iter (iRng2 ta)) : PI X tg iter (tI X.K P (iR2 m m2)) := mkI h fun p0 T σ env H xs env' R sr g hm hR => by
  subst hta
  obtain ⟨w, e1, h1, hm⟩ := bnd_eq_ok hm
  obtain ⟨w2, e2, h2, hm⟩ := bnd_eq_ok hm
  split at hm
  · rename_i i hw
    split at hm
    · rename_i j hw2
      split at hm
      · rename_i hj
        obtain ⟨rfl, rfl⟩ : rng i (j - i).toNat = xs ∧ e2 = env' := by cases hm; exact ⟨rfl, rfl⟩
        refine ⟨p0, T, env, [.int i, .int j], e2, sr, g, by simp only [evT, h1, h2, bnd_ok, hw, hw2], fun vs H1 hd sr1 g1 => ?_⟩
        obtain ⟨v, r, rfl, hv, v2, r2, rfl, hv2, rfl⟩ := hd
        have hv' : v = .int i := hv
        have hv2' : v2 = .int j := hv2
        subst hv' hv2'
        exact ⟨i, j, rfl, hj, hR _ [] H1 itOk_rng fun _ => sr1⟩
      · cases hm
    · cases hm
  · cases hm

/-! ### for -/
def forL (tg : Tg) (b : MS) : List D → MS
  | [], e => .ok .nx e
  | x :: xs, e => match tg x e with
    | none => .no
    | some e0 => bnd (b e0) fun o e1 => match o with
      | .nx => forL tg b xs e1
      | .ct => forL tg b xs e1
      | .bk => .ok .nx e1
      | .rt w => .ok (.rt w) e1
def sFor (src : MI) (tg : Tg) (b : MS) : MS := fun e => bnd (src e) fun xs e1 => forL tg b xs e1
theorem pg_good {target : Expr} {t : TG} (h : PG X target t) : PG X target (fun v σ H Q => Good X.K H → t v σ H Q) :=
  ⟨fun pins s σ H v u Q I r hq => h.run pins s σ H v u Q I r (hq (inv_good I))⟩
theorem ps_forM {ws : List Nat} {body : List Stmt} {pos : Pos} {src : MI} {g : TG} {t : Tg} {mb : MS} (hp : PassesOwn (model X.prog X.w) X.A X.env X.xe) (hc : X.calm = true) (hi : PI X tg iter (tI X.K P src)) (hg : PG X tg g) (hgs : TgS X.K P X.N.length ws g t) (hb : PSs X body (tS X.K P mb))
    (hs : ∀ x, foldedSetIterable iter X.env x = pure x := by intro _; rfl) : PS X (.For tg iter body [] pos) (tS X.K P (sFor src t mb)) := mkS (ps_for hp hc hi (pg_good hg) hb hs) fun p0 T σ env H o env' D sr gd hl hm hQ => by
  obtain ⟨xs, e1, h1, hm⟩ := bnd_eq_ok hm
  have hn : p0.length = X.N.length := by rw [sr.len0, hl]
  refine ⟨p0, T, env, xs, e1, sr, gd, h1, fun J S H1 io sr1 g1 => ?_⟩
  refine ⟨fun i m σ H => m = xs.length - i ∧ i ≤ xs.length ∧ ∃ ei, SR X.K P p0 (S ++ T) σ ei H ∧ Good X.K H ∧ forL t mb (xs.drop i) ei = .ok o env', ⟨xs.length, by simp, Nat.zero_le _, e1, sr1, g1, by simpa using hm⟩, ?_⟩
  rintro i m σ2 H2 ⟨rfl, hi2, ei, sr2, g2, hf⟩
  have hS : ∀ p ∈ S, p ∈ pr σ2 ei ++ (S ++ T) := fun p z => List.mem_append_right _ (List.mem_append_left _ z)
  by_cases hlt : i < xs.length
  · have hx : xs[i]? = some xs[i] := by simp [hlt]
    rw [List.drop_eq_getElem_cons hlt] at hf
    refine .inr ⟨io.go i H2 _ hlt sr2.rels hS, fun σ' H' => ∃ ei, SR X.K P p0 (S ++ T) σ' ei H' ∧ Good X.K H' ∧ forL t mb (xs.drop (i + 1)) ei = .ok o env', fun σ' H' ⟨ej, q1, q2, q3⟩ => ⟨xs.length - (i + 1), by omega, rfl, hlt, ej, q1, q2, q3⟩, fun x H' y g3 => ?_⟩
    obtain ⟨_, q⟩ := io.yld i H2 _ x H' _ sr2.rels hS hx y g3
    have sr3 : SR X.K P p0 ((x, .d xs[i]) :: (S ++ T)) σ2 ei H' := sr2.push q
    change (match t xs[i] ei with
      | none => Res.no
      | some e0 => bnd (mb e0) fun o e1 => match o with
        | .nx => forL t mb (xs.drop (i + 1)) e1
        | .ct => forL t mb (xs.drop (i + 1)) e1
        | .bk => .ok .nx e1
        | .rt w => .ok (.rt w) e1) = _ at hf
    cases ht : t xs[i] ei with
    | none => rw [ht] at hf; cases hf
    | some e0 =>
    rw [ht] at hf
    obtain ⟨ob, e2, hb2, hf⟩ := bnd_eq_ok hf
    refine hgs p0 (S ++ T) σ2 ei H' x xs[i] e0 _ hn sr3 ht fun σ3 _ sr4 => ⟨p0, S ++ T, e0, ob, e2, sr4, g3, hb2, ?_⟩
    cases ob with
    | nx => exact fun σ4 H4 q4 g4 => ⟨e2, q4, g4, hf⟩
    | ct => exact fun σ4 H4 q4 g4 => ⟨e2, q4, g4, hf⟩
    | bk => cases hf; exact fun σ4 H4 q4 g4 => hQ σ4 H4 fun _ => q4.sub (List.sublist_append_right _ _)
    | rt w => cases hf; exact fun v σ4 H4 q4 g4 => hQ v σ4 H4 fun _ => q4.sub (List.Sublist.cons_cons _ (List.sublist_append_right _ _))
  · have e : i = xs.length := by omega
    subst e
    rw [List.drop_length] at hf
    cases hf
    exact .inl ⟨io.stop H2 _ sr2.rels hS, hQ σ2 H2 fun _ => sr2.sub (List.sublist_append_right _ _)⟩

/-! ### while -/
def whL (t : MT) (b : MS) : Nat → MS
  | 0, _ => .no
  | n + 1, e => bnd (t e) fun c e1 => if c = true then bnd (b e1) fun o e2 => match o with
      | .nx => whL t b n e2
      | .ct => whL t b n e2
      | .bk => .ok .nx e2
      | .rt w => .ok (.rt w) e2
    else .ok .nx e1
def sWh (n : Nat) (t : MT) (b : MS) : MS := fun e => whL t b n e
theorem ps_whileM {c : Expr} {body : List Stmt} {pos : Pos} {n : Nat} {mc : MT} {mb : MS} (hp : PassesOwn (model X.prog X.w) X.A X.env X.xe) (hc : PT X c (tM X.K P mc)) (hb : PSs X body (tS X.K P mb)) :
    PS X (.While c body [] pos) (tS X.K P (sWh n mc mb)) := mkS (ps_while hp hc hb) fun p0 T σ env H o env' D sr gd hl hm hQ => by
  refine ⟨fun m σ H => ∃ ei, SR X.K P p0 T σ ei H ∧ Good X.K H ∧ whL mc mb m ei = .ok o env', ⟨n, env, sr, gd, hm⟩, ?_⟩
  rintro m σ2 H2 ⟨ei, sr2, g2, hf⟩
  cases m with
  | zero => cases hf
  | succ m =>
  obtain ⟨k, e1, h1, hf⟩ := bnd_eq_ok (show bnd (mc ei) _ = _ from hf)
  refine ⟨p0, T, ei, k, e1, sr2, g2, h1, fun H3 sr3 g3 => ?_⟩
  cases k with
  | true =>
    rw [if_pos rfl] at hf
    obtain ⟨ob, e2, hb2, hf⟩ := bnd_eq_ok hf
    rw [if_pos rfl]
    refine ⟨fun σ' H' => ∃ ei, SR X.K P p0 T σ' ei H' ∧ Good X.K H' ∧ whL mc mb m ei = .ok o env', fun σ' H' q => ⟨m, Nat.lt_succ_self _, q⟩, p0, T, e1, ob, e2, sr3, g3, hb2, ?_⟩
    cases ob with
    | nx => exact fun σ4 H4 q4 g4 => ⟨e2, q4, g4, hf⟩
    | ct => exact fun σ4 H4 q4 g4 => ⟨e2, q4, g4, hf⟩
    | bk => cases hf; exact fun σ4 H4 q4 g4 => hQ σ4 H4 fun _ => q4
    | rt w => cases hf; exact fun v σ4 H4 q4 g4 => hQ v σ4 H4 fun _ => q4
  | false =>
    rw [if_neg (by simp)] at hf
    cases hf
    rw [if_neg (by simp)]
    exact hQ σ2 H3 fun _ => sr3
/-- a target = a value -/
def sTg (t : Tg) (m : ME) : MS := fun e => bnd (m e) fun w e1 => match t (vw w) e1 with
  | some e2 => .ok .nx e2
  | none => .no
theorem ps_tgM {ws : List Nat} {e : Expr} {m : ME} {g : TG} {t : Tg} {pos : Pos} (hgs : TgS X.K P X.N.length ws g t) (h : PS X (.Assign [tg] e pos) (tAsg (tE X.K P m) g)) : PS X (.Assign [tg] e pos) (tS X.K P (sTg t m)) := mkS h fun p0 T σ env H o env' D sr gd hl hm hQ => by
  obtain ⟨w, e1, h1, hm⟩ := bnd_eq_ok hm
  have hn : p0.length = X.N.length := by rw [sr.len0, hl]
  refine ⟨p0, T, env, w, e1, sr, gd, h1, fun v H1 sr1 g1 => ?_⟩
  cases ht : t (vw w) e1 with
  | none => rw [ht] at hm; cases hm
  | some e2 =>
    rw [ht] at hm
    cases hm
    exact hgs p0 T σ e1 H1 v _ _ _ hn sr1.fz ht fun σ' _ q => hQ σ' H1 fun _ => q
end
end Mi
set_option Elab.async false
set_option linter.all false
set_option maxRecDepth 100000
set_option maxHeartbeats 4000000
/-! Mi6: list comprehensions -/
namespace Mi
open PySem PySem.Spec PyProof.Rows L2

def wipeE (e : Env) : List Nat → Env
  | [] => e
  | v :: vs => (wipeE e vs).set v none
def cmpL (tg : Tg) (tt : MT) (te : ME) (vs : List Nat) : List D → Env → Res (List D)
  | [], e => .ok [] e
  | x :: xs, e => match tg x e with
    | none => .no
    | some e0 => bnd (tt e0) fun b e1 => if b = true then bnd (te e1) fun w e2 => bnd (cmpL tg tt te vs xs (wipeE e2 vs)) fun ds e3 => .ok (vw w :: ds) e3
      else cmpL tg tt te vs xs (wipeE e1 vs)
def eLc (src : MI) (tg : Tg) (tt : MT) (te : ME) (vs : List Nat) : ME := fun e => bnd (src e) fun xs e1 => if xs.length < 16777216 then bnd (cmpL tg tt te vs xs (wipeE e1 vs)) fun ds e2 => .ok (.l ds) e2 else .no
def mYes : MT := fun e => .ok true e

section
variable {K : KK} {P : List Nat} {p0 : L2.St} {T : List (V × W)} {H : Hp}
theorem wipeE_len (e : Env) : ∀ vs : List Nat, (wipeE e vs).length = e.length
  | [] => rfl
  | v :: vs => by simp [wipeE, wipeE_len e vs]
theorem SR.wip {σ : L2.St} {env : Env} (h : SR K P p0 T σ env H) : ∀ (vs : List Nat), (∀ v ∈ vs, v < σ.length) → (∀ v ∈ vs, v ∉ P) → SR K P p0 T (wipe σ vs) (wipeE env vs) H
  | [], _, _ => h
  | v :: vs, h1, h2 => by
    have q := SR.wip h vs (fun x hx => h1 x (List.mem_cons_of_mem _ hx)) fun x hx => h2 x (List.mem_cons_of_mem _ hx)
    exact q.clear (by rw [wipe_length]; exact h1 v List.mem_cons_self) (h2 v List.mem_cons_self)
theorem wipe_wipe {σ : L2.St} : ∀ (ws vs : List Nat), (∀ v ∈ ws, v ∈ vs) → wipe (wipe σ ws) vs = wipe σ vs
  | [], vs, _ => rfl
  | w :: ws, vs, h => by
    simp only [wipe]
    rw [wipe_set_in (h w List.mem_cons_self)]
    exact wipe_wipe ws vs fun v hv => h v (List.mem_cons_of_mem _ hv)
theorem wipeE_none {e : Env} : ∀ {vs : List Nat} {v : Nat}, v ∈ vs → (wipeE e vs).getD v none = none
  | u :: us, v, h => by
    simp only [wipeE]
    rw [set_getD]
    split
    · rfl
    · rename_i hn
      rcases List.mem_cons.mp h with e' | e'
      · subst e'
        have : ¬ v < (wipeE e us).length := fun z => hn ⟨rfl, z⟩
        rw [List.getD_eq_getElem?_getD, List.getElem?_eq_none (by omega)]
        rfl
      · exact wipeE_none e'
theorem pr_none : ∀ {σ : L2.St} {env : Env} {i : Nat} (s : Option V), env.getD i none = none → pr (σ.set i s) env = pr σ env
  | [], _, _, _, _ => by simp
  | _ :: _, [], i, _, _ => by cases i <;> simp [pr]
  | a :: σ, x :: e, 0, s, h => by
    have hx : x = none := h
    subst hx
    simp only [List.set_cons_zero, pr]
    congr 1
    cases s <;> cases a <;> rfl
  | a :: σ, x :: e, i + 1, s, h => by
    simp only [List.set_cons_succ, pr]
    rw [pr_none (σ := σ) (env := e) (i := i) s (by simpa using h)]
theorem pr_wipe {σ : L2.St} {env : Env} : ∀ (vs : List Nat), (∀ v ∈ vs, env.getD v none = none) → pr (wipe σ vs) env = pr σ env
  | [], _ => rfl
  | v :: vs, h => by
    simp only [wipe]
    rw [pr_none none (h v List.mem_cons_self)]
    exact pr_wipe vs fun u hu => h u (List.mem_cons_of_mem _ hu)
theorem SR.unwipe {σ : L2.St} {env : Env} (vs : List Nat) (hv : ∀ v ∈ vs, v ∉ P) (h : SR K P p0 T (wipe σ vs) env H) (he : ∀ v ∈ vs, env.getD v none = none) : SR K P p0 T σ env H := by
  have hl : (wipe σ vs).length = σ.length := wipe_length σ vs
  refine ⟨?_, by rw [← hl]; exact h.len, by rw [← hl]; exact h.len0, fun i w e => ?_, fun i hi => ?_⟩
  · rw [← pr_wipe (σ := σ) vs he]; exact h.rels
  · obtain ⟨v, q⟩ := h.cov i w e
    exact ⟨v, (wipe_some q).1⟩
  · have hni : i ∉ vs := fun z => hv i z hi
    have e : (wipe σ vs)[i]? = σ[i]? := wipe_out hni
    rw [← e]
    exact h.par i hi
end

section
variable {X : Cx} {P : List Nat}
def tT (K : KK) (P : List Nat) (m : MT) : TT := tM K P m
theorem pts_yesM : PTs X [] (tM X.K P mYes) := ⟨fun pins s σ H Q I hq => by
  obtain ⟨p0, T, env, b, env', sr, g, hm, hQ⟩ := hq
  cases hm
  exact pts_nil.run pins s σ H Q I (hQ H sr g)⟩
theorem pts_oneM {c : Expr} {m : MT} (h : PT X c (tM X.K P m)) : PTs X [c] (tM X.K P m) := pts_one h

/-- the reading of a comprehension from its mirror -/
theorem lcM {src : MI} {g : TG} {t : Tg} {mt : MT} {me : ME} {vs : List Nat} (hvP : ∀ v ∈ vs, v ∉ P) (hvN : ∀ v ∈ vs, v < X.N.length) (hgs : TgS X.K P X.N.length vs g t)
    {p0 : L2.St} {T : List (V × W)} {σ : L2.St} {env : Env} {H : Hp} {w : W} {env' : Env} {Q : VK} (sr : SR X.K P p0 T σ env H) (gd : Good X.K H) (hl : p0.length = X.N.length) (hm : eLc src t mt me vs env = .ok w env')
    (hQ : ∀ v H', (Good X.K H' → SR X.K P p0 ((v, w) :: T) σ env' H') → Q v H') :
    tLc (tI X.K P src) (fun v σ H Q => Good X.K H → g v σ H Q) (tM X.K P mt) (tE X.K P me) vs σ H Q := by
  obtain ⟨xs, e1, h1, hm⟩ := bnd_eq_ok hm
  split at hm
  rotate_left
  · cases hm
  rename_i hsz
  obtain ⟨ds, e2, h2, hm⟩ := bnd_eq_ok hm
  cases hm
  refine ⟨p0, T, env, xs, e1, sr, gd, h1, fun J S H1 io sr1 g1 Da hDa => ?_⟩
  have hσ : σ.length = X.N.length := by rw [← hl, sr.len0]
  have sr1w := sr1.wip vs (fun v hv => by rw [hσ]; exact hvN v hv) hvP
  refine ⟨fun i m H => m = xs.length - i ∧ i ≤ xs.length ∧ ∃ ei acc rest, acc ++ rest = ds ∧ acc.length ≤ i ∧ (∀ v ∈ vs, ei.getD v none = none) ∧ Rels X.K H (pr (wipe σ vs) ei ++ (S ++ T)) ∧
      (Good X.K H → SR X.K P p0 ((.ref Da, .l acc) :: (S ++ T)) (wipe σ vs) ei H) ∧ cmpL t mt me vs (xs.drop i) ei = .ok rest env', ⟨xs.length, by simp, Nat.zero_le _, wipeE e1 vs, [], ds, rfl, Nat.le_refl _, fun v hv => wipeE_none hv, ?_, fun g2 => ?_, by simpa using h2⟩, ?_⟩
  · exact sr1w.rels.laid hDa
  · have hk : X.K.lookup Da = none := by
      cases q : X.K.lookup Da with
      | none => rfl
      | some o => have := g2 Da o q; rw [upd_same] at this; cases this
    exact sr1w.push (sr1w.rels.newOwn hDa hk rfl)
  rintro i m H2 ⟨rfl, hi2, ei, acc, rest, hds, hacc, hei, rl, srg, hf⟩
  have hS : ∀ p ∈ S, p ∈ pr (wipe σ vs) ei ++ (S ++ T) := fun p z => List.mem_append_right _ (List.mem_append_left _ z)
  by_cases hlt : i < xs.length
  · have hx : xs[i]? = some xs[i] := by simp [hlt]
    rw [List.drop_eq_getElem_cons hlt] at hf
    refine .inr ⟨io.go i H2 _ hlt rl hS, fun H' => ∃ ei acc rest, acc ++ rest = ds ∧ acc.length ≤ i + 1 ∧ (∀ v ∈ vs, ei.getD v none = none) ∧ Rels X.K H' (pr (wipe σ vs) ei ++ (S ++ T)) ∧
      (Good X.K H' → SR X.K P p0 ((.ref Da, .l acc) :: (S ++ T)) (wipe σ vs) ei H') ∧ cmpL t mt me vs (xs.drop (i + 1)) ei = .ok rest env', fun H' q => ⟨xs.length - (i + 1), by omega, rfl, hlt, q⟩, fun x H' y g3 => ?_⟩
    obtain ⟨gH2, _⟩ := io.yld i H2 _ x H' _ rl hS hx y g3
    have sr2 := srg gH2
    have hS2 : ∀ p ∈ S, p ∈ pr (wipe σ vs) ei ++ ((.ref Da, .l acc) :: (S ++ T)) := fun p z => List.mem_append_right _ (List.mem_cons_of_mem _ (List.mem_append_left _ z))
    obtain ⟨_, q⟩ := io.yld i H2 _ x H' _ sr2.rels hS2 hx y g3
    have sr3 : SR X.K P p0 ((x, .d xs[i]) :: ((.ref Da, .l acc) :: (S ++ T))) (wipe σ vs) ei H' := sr2.push q
    change (match t xs[i] ei with
      | none => Res.no
      | some e0 => bnd (mt e0) fun b e1 => if b = true then bnd (me e1) fun w e2 => bnd (cmpL t mt me vs (xs.drop (i + 1)) (wipeE e2 vs)) fun ds e3 => .ok (vw w :: ds) e3
        else cmpL t mt me vs (xs.drop (i + 1)) (wipeE e1 vs)) = _ at hf
    cases ht : t xs[i] ei with
    | none => rw [ht] at hf; cases hf
    | some e0 =>
    rw [ht] at hf
    obtain ⟨b, e3, hb, hf⟩ := bnd_eq_ok hf
    have wlen : (wipe σ vs).length = X.N.length := by rw [wipe_length, hσ]
    refine hgs p0 _ (wipe σ vs) ei H' x xs[i] e0 _ hl sr3 ht fun σ2 wp sr4 => ?_
    have ww : wipe σ2 vs = wipe σ vs := wp.trans (wipe_wipe vs vs fun _ z => z)
    have l2 : σ2.length = X.N.length := by rw [← sr4.len0, hl]
    refine ⟨ww, p0, _, e0, b, e3, sr4, g3, hb, fun H3 sr5 g5 => ?_⟩
    cases b with
    | true =>
      rw [if_pos rfl] at hf ⊢
      obtain ⟨w4, e4, h4, hf⟩ := bnd_eq_ok hf
      obtain ⟨ds', e5, h5, hf⟩ := bnd_eq_ok hf
      cases hf
      refine ⟨p0, _, e3, w4, e4, sr5, g5, h4, fun y H4 sr6 g6 => ?_⟩
      have sr6 := sr6.fz
      have hacc' : ∃ us, H4 Da = some (.lst us) ∧ Dats X.K H4 (owned (pr σ2 e4 ++ ((y, W.d (vw w4)) :: (V.ref Da, W.l acc) :: (S ++ T)))) acc us := by
        obtain ⟨a, us, e, q1, q2⟩ := sr6.rels.at_ (V.ref Da, W.l acc) (List.mem_append_right _ (List.mem_cons_of_mem _ List.mem_cons_self))
        cases e
        exact ⟨us, q1, q2⟩
      obtain ⟨us, hus, hdus⟩ := hacc'
      refine ⟨us, hus, by rw [← hdus.length, sizeLine_eq]; omega, ?_⟩
      have hy : Dat X.K H4 (owned (pr σ2 e4 ++ ((y, W.d (vw w4)) :: (V.ref Da, W.l acc) :: (S ++ T)))) (vw w4) y := sr6.rels.at_ (y, W.d (vw w4)) (List.mem_append_right _ List.mem_cons_self)
      have pq : (pr σ2 e4 ++ ((y, W.d (vw w4)) :: (V.ref Da, W.l acc) :: (S ++ T))).Perm ((V.ref Da, W.l acc) :: (pr σ2 e4 ++ ((y, W.d (vw w4)) :: (S ++ T)))) := by
        refine List.Perm.trans (List.Perm.append_left _ (List.Perm.swap _ _ _)) List.perm_middle
      have wr := (sr6.rels.perm pq).write (ys := acc ++ [vw w4]) (us := us ++ [y]) ((hdus.append (Dats.one hy)).to (fun _ _ _ z => z) fun b z => (pq.filterMap ow).mem_iff.mpr z)
      have sr7 : SR X.K P p0 ((V.ref Da, W.l (acc ++ [vw w4])) :: (S ++ T)) σ2 e4 (upd H4 Da (.lst (us ++ [y]))) := by
        refine sr6.re (wr.sub ?_ |>.perm List.perm_middle.symm)
        refine List.Sublist.cons_cons _ (List.Sublist.append_left (List.sublist_cons_self _ _) _)
      have sr8 := sr7.wip vs (fun v hv => by rw [l2]; exact hvN v hv) hvP
      rw [ww] at sr8
      refine ⟨wipeE e4 vs, acc ++ [vw w4], ds', by rw [← hds]; simp, by simp; omega, fun v hv => wipeE_none hv, ?_, fun _ => sr8, h5⟩
      exact sr8.drop.rels
    | false =>
      rw [if_neg (by simp)] at hf ⊢
      have sr8 := sr5.wip vs (fun v hv => by rw [l2]; exact hvN v hv) hvP
      rw [ww] at sr8
      exact ⟨wipeE e3 vs, acc, rest, hds, by omega, fun v hv => wipeE_none hv, sr8.drop.rels, fun _ => sr8, hf⟩
  · have e : i = xs.length := by omega
    subst e
    rw [List.drop_length] at hf
    cases hf
    refine .inl ⟨io.stop H2 _ rl hS, hQ (.ref Da) H2 fun g2 => ?_⟩
    have := (srg g2).unwipe vs hvP hei
    rw [List.append_nil] at hds
    rw [← hds]
    exact this.sub (List.Sublist.cons_cons _ (List.sublist_append_right _ _))
end
end Mi
set_option Elab.async false
set_option linter.all false
set_option maxRecDepth 100000
set_option maxHeartbeats 4000000
/-! Mi7: comprehensions as expressions, defs, calls -/
namespace Mi
open PySem PySem.Spec PyProof.Rows L2

section
variable {X : Cx} {P : List Nat} {e : Expr}
theorem mkE' {t : TE} {m : ME} (h : PE X e t)
    (k : ∀ (p0 : L2.St) (T : List (V × W)) (σ : L2.St) (env : Env) (H : Hp) (w : W) (env' : Env) (Q : VK), p0.length = X.N.length → SR X.K P p0 T σ env H → Good X.K H → m env = .ok w env' →
      (∀ v H', (Good X.K H' → SR X.K P p0 ((v, w) :: T) σ env' H') → Q v H') → t σ H Q) : PE X e (tE X.K P m) := by
  refine ⟨fun pins s σ H Q I hq => ?_⟩
  obtain ⟨p0, T, env, w, env', sr, g, hm, hQ⟩ := hq
  refine thn (h.run pins s σ H (fun v H' => Good X.K H' → Q v H') I (k p0 T σ env H w env' _ (by rw [sr.len0, I.len]) sr g hm fun v H' q g' => hQ v H' (q g') g')) ?_
  rintro u s' ⟨v, H', I', r, q⟩
  exact ⟨v, H', I', r, q (inv_good I')⟩
theorem vsP {vs P : List Nat} (h : (vs.all fun v => !P.contains v) = true) : ∀ v ∈ vs, v ∉ P := fun v hv z => by
  have := List.all_eq_true.mp h v hv
  rw [List.contains_iff_mem.mpr z] at this
  cases this
theorem vsN {vs : List Nat} {n : Nat} (h : (vs.all fun v => decide (v < n)) = true) : ∀ v ∈ vs, v < n := fun v hv => of_decide_eq_true (List.all_eq_true.mp h v hv)
theorem pe_lcM {elt tg iter : Expr} {ifs : List Expr} {scope : Scope} {own : List (Str × Nat)} {pos : Pos} {src : MI} {g : TG} {t : Tg} {mt : MT} {me : ME} {vs : List Nat} (hvs : own.map (·.2) = vs) (hvP : (vs.all fun v => !P.contains v) = true) (hvN : (vs.all fun v => decide (v < X.N.length)) = true)
    (hgs : TgS X.K P X.N.length vs g t) (hc : X.calm = true) (hN : X.N.Nodup) (hi : PI X tg iter (tI X.K P src)) (ok : BlkOk X.N X.env.scope scope own)
    (hg : ∀ (s : Shared) (H : Hp) (C : Addr) (cl : List (Str × Addr)) (fp : List Addr), PG (X.blk s H scope (compEnvC scope cl C X.env) fp) tg g)
    (ht : ∀ (s : Shared) (H : Hp) (C : Addr) (cl : List (Str × Addr)) (fp : List Addr), PTs (X.blk s H scope (compEnvC scope cl C X.env) fp) ifs (tM X.K P mt))
    (he : ∀ (s : Shared) (H : Hp) (C : Addr) (cl : List (Str × Addr)) (fp : List Addr), PE (X.blk s H scope (compEnvC scope cl C X.env) fp) elt (tE X.K P me)) (hs : ∀ x, foldedSetIterable iter X.env x = pure x := by intro _; rfl) :
    PE X (.ListComp elt [⟨tg, iter, ifs, 0⟩] scope pos) (tE X.K P (eLc src t mt me vs)) := by
  subst hvs
  exact mkE' (pe_lc hc hN hi ok (fun s H C cl fp => pg_good (hg s H C cl fp)) ht he hs) fun p0 T σ env H w env' Q hl sr gd hm hQ => lcM (vsP hvP) (vsN hvN) hgs sr gd hl hm hQ
theorem ps_setLcM {i : Nat} {y : Str} {py : Pos} {elt tg iter : Expr} {ifs : List Expr} {scope : Scope} {own : List (Str × Nat)} {pos spos : Pos} {src : MI} {g : TG} {t : Tg} {mt : MT} {me : ME} {vs : List Nat} (hvs : own.map (·.2) = vs) (hvP : (vs.all fun v => !P.contains v) = true) (hvN : (vs.all fun v => decide (v < X.N.length)) = true)
    (hiP : P.contains i = false) (hgs : TgS X.K P X.N.length vs g t) (hc : X.calm = true) (hN : X.N.Nodup) (hy : X.N[i]? = some y) (hyl : X.env.scope.names.lookup y = some .local)
    (hsw : swapsWith (.ListComp elt [⟨tg, iter, ifs, 0⟩] scope pos) (some (.Name y py)) spos.line X.env = pure true) (hi : PI X tg iter (tI X.K P src)) (ok : BlkOk X.N X.env.scope scope own)
    (hg : ∀ (s : Shared) (H : Hp) (C : Addr) (cl : List (Str × Addr)) (fp : List Addr), PG (X.blk s H scope (compEnvC scope cl C X.env) fp) tg g)
    (ht : ∀ (s : Shared) (H : Hp) (C : Addr) (cl : List (Str × Addr)) (fp : List Addr), PTs (X.blk s H scope (compEnvC scope cl C X.env) fp) ifs (tM X.K P mt))
    (he : ∀ (s : Shared) (H : Hp) (C : Addr) (cl : List (Str × Addr)) (fp : List Addr), PE (X.blk s H scope (compEnvC scope cl C X.env) fp) elt (tE X.K P me)) (hs : ∀ x, foldedSetIterable iter X.env x = pure x := by intro _; rfl) :
    PS X (.Assign [.Name y py] (.ListComp elt [⟨tg, iter, ifs, 0⟩] scope pos) spos) (tS X.K P (sSet i (eLc src t mt me vs))) := by
  subst hvs
  have hiP' : i ∉ P := fun z => by rw [List.contains_iff_mem.mpr z] at hiP; cases hiP
  exact mkS (ps_setLc hc hN hy hyl hsw hi ok (fun s H C cl fp => pg_good (hg s H C cl fp)) ht he hs) fun p0 T σ env H o env' D sr gd hl hm hQ => by
    obtain ⟨w, e1, h1, hm⟩ := bnd_eq_ok hm
    cases hm
    have hl0 : p0.length = X.N.length := by rw [sr.len0, hl]
    exact lcM (Q := fun v H' => D.nx (σ.set i (some v)) H') (vsP hvP) (vsN hvN) hgs sr gd hl0 h1 fun v H' q => hQ _ H' fun g2 => (q g2).store (by rw [hl]; exact (List.getElem?_eq_some_iff.mp hy).1) hiP'
end

/-! ### what a def gives -/
inductive CRes where
  | ok (w : W) (outs : List (List D))
  | ex (x : Exn) (outs : List (List D))
  | no
abbrev Orc := Nat → List W → CRes
def takeA : List (Nat ⊕ D) → Env → Option (List W × Env)
  | [], e => some ([], e)
  | .inl i :: rs, e => match e.getD i none with
    | some (.l xs) => (match takeA rs (e.set i none) with
      | some p => some (.l xs :: p.1, p.2)
      | none => none)
    | _ => none
  | .inr d :: rs, e => match takeA rs e with
    | some p => some (.d d :: p.1, p.2)
    | none => none
def putO : List (Nat ⊕ D) → List (List D) → Env → Option Env
  | [], [], e => some e
  | .inl i :: rs, xs :: os, e => match putO rs os e with
    | some e2 => some (e2.set i (some (.l xs)))
    | none => none
  | .inr _ :: rs, os, e => putO rs os e
  | _, _, _ => none
def updW : List W → List (List D) → List W
  | [], _ => []
  | .l _ :: ws, xs :: os => .l xs :: updW ws os
  | .l x :: ws, [] => .l x :: updW ws []
  | .d d :: ws, os => .d d :: updW ws os
def eCall (C : Orc) (k : Nat) (as : List Arg) : ME := fun e => bnd (evG as e) fun rs e1 => match takeA rs e1 with
  | some p => (match C k p.1 with
    | .ok w outs => (match putO rs outs p.2 with
      | some e2 => .ok w e2
      | none => .no)
    | .ex x outs => (match putO rs outs p.2 with
      | some e2 => .ex x e2
      | none => .no)
    | .no => .no)
  | none => .no
/-- a def's promise by its mirror -/
def spF (K : KK) (n : Nat) (F : List W → CRes) : Sp := fun vs H Q _ => ∃ T ws w outs, vs.length = n ∧ vs.length = ws.length ∧ Rels K H (vs.zip ws ++ T) ∧ Good K H ∧ F ws = .ok w outs ∧
  ∀ v H', Rels K H' ((v, w) :: (vs.zip (updW ws outs) ++ T)) → Q v H'

section
variable {K : KK} {H H' : Hp} {σ : L2.St}
theorem pr_clear {e : Env} {i : Nat} {v : V} {w : W} (hv : σ[i]? = some (some v)) (hw : e.getD i none = some w) (hl : σ.length = e.length) : (pr σ e).Perm ((v, w) :: pr σ (e.set i none)) ∧ ∀ w', (pr σ ((e.set i none).set i (some w'))).Perm ((v, w') :: pr σ (e.set i none)) := by
  have hi : i < σ.length := (List.getElem?_eq_some_iff.mp hv).1
  obtain ⟨A, B, h1, h2⟩ := pr_set hi hl
  have hs : σ.getD i none = some v := by rw [List.getD_eq_getElem?_getD, hv]; rfl
  have e2 : σ.set i (some v) = σ := by
    apply List.ext_getElem?
    intro j
    rw [List.getElem?_set]
    by_cases hj : i = j
    · subst hj; rw [if_pos rfl, if_pos hi, hv]
    · rw [if_neg hj]
  have c := h2 (some v) none
  rw [e2] at c
  simp only [pc, List.nil_append] at c
  refine ⟨?_, fun w' => ?_⟩
  · rw [h1, hs, hw, c]
    simp only [pc, List.singleton_append]
    exact List.perm_middle
  · rw [List.set_set]
    have c2 := h2 (some v) (some w')
    rw [e2] at c2
    rw [c2, c]
    simp only [pc, List.singleton_append]
    exact List.perm_middle
theorem pr_fill {e : Env} {i : Nat} {v : V} {w : W} (hv : σ[i]? = some (some v)) (hw : e.getD i none = none) (hl : σ.length = e.length) : (pr σ (e.set i (some w))).Perm ((v, w) :: pr σ e) := by
  have hi : i < σ.length := (List.getElem?_eq_some_iff.mp hv).1
  obtain ⟨A, B, h1, h2⟩ := pr_set hi hl
  have hs : σ.getD i none = some v := by rw [List.getD_eq_getElem?_getD, hv]; rfl
  have e2 : σ.set i (some v) = σ := by
    apply List.ext_getElem?
    intro j
    rw [List.getElem?_set]
    by_cases hj : i = j
    · subst hj; rw [if_pos rfl, if_pos hi, hv]
    · rw [if_neg hj]
  have c := h2 (some v) (some w)
  rw [e2] at c
  rw [h1, hs, hw, c]
  simp only [pc, List.singleton_append, List.nil_append]
  exact List.perm_middle
theorem takeA_len : ∀ {rs : List (Nat ⊕ D)} {e : Env} {p : List W × Env}, takeA rs e = some p → p.2.length = e.length ∧ p.1.length = rs.length
  | [], e, p, h => by cases h; exact ⟨rfl, rfl⟩
  | .inl i :: rs, e, p, h => by
    unfold takeA at h
    split at h
    · split at h
      · rename_i q hq
        cases h
        have := takeA_len hq
        exact ⟨by simpa using this.1, by simpa using this.2⟩
      · cases h
    · cases h
  | .inr d :: rs, e, p, h => by
    unfold takeA at h
    split at h
    · rename_i q hq
      cases h
      have := takeA_len hq
      exact ⟨this.1, by simpa using this.2⟩
    · cases h
theorem ARel.len {O : List Addr} : ∀ {vs : List V} {rs : List (Nat ⊕ D)}, ARel K H O σ vs rs → vs.length = rs.length
  | [], [], _ => rfl
  | [], _ :: _, h => by simp [ARel] at h
  | _ :: _, [], h => by simp [ARel] at h
  | v :: vs, .inl i :: rs, h => by simp [ARel.len h.2]
  | v :: vs, .inr d :: rs, h => by simp [ARel.len h.2]
theorem splitA {O : List Addr} : ∀ {rs : List (Nat ⊕ D)} {vs : List V} {e : Env} {p : List W × Env} {T : List (V × W)}, takeA rs e = some p → σ.length = e.length → ARel K H O σ vs rs → (∀ a ∈ owned (pr σ e ++ T), a ∈ O) → Rels K H (pr σ e ++ T) → Rels K H (vs.zip p.1 ++ (pr σ p.2 ++ T))
  | [], [], e, p, T, h, _, _, _, r => by cases h; exact r
  | [], _ :: _, _, _, _, _, _, a, _, _ => by simp [ARel] at a
  | _ :: _, [], _, _, _, _, _, a, _, _ => by simp [ARel] at a
  | .inl i :: rs, v :: vs, e, p, T, h, hl, a, hO, r => by
    unfold takeA at h
    split at h
    · rename_i xs hx
      split at h
      · rename_i q hq
        cases h
        obtain ⟨pp, _⟩ := pr_clear a.1 hx hl
        have pp2 : (pr σ e ++ T).Perm (pr σ (e.set i none) ++ (v, W.l xs) :: T) := (pp.append_right T).trans List.perm_middle.symm
        have ih := splitA (T := (v, W.l xs) :: T) hq (by rw [List.length_set]; exact hl) a.2 (fun b z => hO b ((pp2.filterMap ow).mem_iff.mpr z)) (r.perm pp2)
        refine ih.perm ?_
        show (vs.zip q.1 ++ (pr σ q.2 ++ (v, W.l xs) :: T)).Perm ((v, W.l xs) :: (vs.zip q.1 ++ (pr σ q.2 ++ T)))
        rw [← List.append_assoc, ← List.append_assoc]
        exact List.perm_middle
      · cases h
    · cases h
  | .inr d :: rs, v :: vs, e, p, T, h, hl, a, hO, r => by
    unfold takeA at h
    split at h
    · rename_i q hq
      cases h
      have r1 : Rels K H (pr σ e ++ (v, W.d d) :: T) := (r.data (a.1.to (fun _ _ _ z => z) hO)).perm List.perm_middle.symm
      have pp2 : (pr σ e ++ (v, W.d d) :: T).Perm ((v, W.d d) :: (pr σ e ++ T)) := List.perm_middle
      have ih := splitA (T := (v, W.d d) :: T) hq hl a.2 (fun b z => hO b (by
        have := (pp2.filterMap ow).mem_iff.mp z
        have e2 : owned ((v, W.d d) :: (pr σ e ++ T)) = owned (pr σ e ++ T) := owned_d
        rw [← e2]
        exact this)) r1
      refine ih.perm ?_
      show (vs.zip q.1 ++ (pr σ q.2 ++ (v, W.d d) :: T)).Perm ((v, W.d d) :: (vs.zip q.1 ++ (pr σ q.2 ++ T)))
      rw [← List.append_assoc, ← List.append_assoc]
      exact List.perm_middle
    · cases h
theorem put_facts : ∀ {rs : List (Nat ⊕ D)} {e : Env} {p : List W × Env} {outs : List (List D)} {e2 : Env}, takeA rs e = some p → putO rs outs p.2 = some e2 → e2.length = e.length ∧ (∀ j, e.getD j none = none → e2.getD j none = none) ∧ ∀ j xs, e.getD j none = some (.l xs) → ∃ ys, e2.getD j none = some (.l ys)
  | [], e, p, outs, e2, h, g => by
    cases h
    cases outs with
    | nil => cases g; exact ⟨rfl, fun _ z => z, fun j xs z => ⟨xs, z⟩⟩
    | cons _ _ => cases g
  | .inl i :: rs, e, p, outs, e2, h, g => by
    unfold takeA at h
    split at h
    · rename_i xs hx
      split at h
      · rename_i q hq
        cases h
        cases outs with
        | nil => cases g
        | cons ys os =>
          simp only [putO] at g
          split at g
          · rename_i e3 h3
            cases g
            obtain ⟨k1, k2, k3⟩ := put_facts hq h3
            have hie : i < e.length := by
              by_cases hi : i < e.length
              · exact hi
              · rw [List.getD_eq_getElem?_getD, List.getElem?_eq_none (by omega)] at hx; cases hx
            refine ⟨by rw [List.length_set, k1, List.length_set], fun j hj => ?_, fun j zs hj => ?_⟩
            · have ne : i ≠ j := fun z => by rw [z, hj] at hx; cases hx
              rw [set_getD, if_neg fun z => ne z.1]
              exact k2 j (by rw [set_getD, if_neg fun z => ne z.1]; exact hj)
            · by_cases ne : i = j
              · subst ne
                exact ⟨ys, by rw [set_getD, if_pos ⟨rfl, by rw [k1, List.length_set]; exact hie⟩]⟩
              · rw [set_getD, if_neg fun z => ne z.1]
                exact k3 j zs (by rw [set_getD, if_neg fun z => ne z.1]; exact hj)
          · cases g
      · cases h
    · cases h
  | .inr d :: rs, e, p, outs, e2, h, g => by
    unfold takeA at h
    split at h
    · rename_i q hq
      cases h
      exact put_facts hq (show putO rs outs q.2 = some e2 by simpa only [putO] using g)
    · cases h
theorem joinA {O : List Addr} : ∀ {rs : List (Nat ⊕ D)} {vs : List V} {e : Env} {p : List W × Env} {outs : List (List D)} {e2 : Env} {T : List (V × W)}, takeA rs e = some p → σ.length = e.length → ARel K H O σ vs rs → putO rs outs p.2 = some e2 →
    Rels K H' (vs.zip (updW p.1 outs) ++ (pr σ p.2 ++ T)) → Rels K H' (pr σ e2 ++ T)
  | [], [], e, p, outs, e2, T, h, _, _, g, r => by
    cases h
    cases outs with
    | nil => cases g; exact r
    | cons _ _ => cases g
  | [], _ :: _, _, _, _, _, _, _, _, a, _, _ => by simp [ARel] at a
  | _ :: _, [], _, _, _, _, _, _, _, a, _, _ => by simp [ARel] at a
  | .inl i :: rs, v :: vs, e, p, outs, e2, T, h, hl, a, g, r => by
    unfold takeA at h
    split at h
    · rename_i xs hx
      split at h
      · rename_i q hq
        cases h
        cases outs with
        | nil => cases g
        | cons ys os =>
          simp only [putO] at g
          split at g
          · rename_i e3 h3
            cases g
            obtain ⟨k1, k2, _⟩ := put_facts hq h3
            have r1 : Rels K H' (vs.zip (updW q.1 os) ++ (pr σ q.2 ++ (v, W.l ys) :: T)) := r.perm (by
              show ((v, W.l ys) :: (vs.zip (updW q.1 os) ++ (pr σ q.2 ++ T))).Perm _
              rw [← List.append_assoc, ← List.append_assoc]
              exact List.perm_middle.symm)
            have ih := joinA (T := (v, W.l ys) :: T) hq (by rw [List.length_set]; exact hl) a.2 h3 r1
            have hn : e3.getD i none = none := k2 i (by
              rw [set_getD]
              split
              · rfl
              · rename_i z
                have : ¬ i < e.length := fun q => z ⟨rfl, q⟩
                rw [List.getD_eq_getElem?_getD, List.getElem?_eq_none (by omega)]; rfl)
            have pf := pr_fill (w := W.l ys) a.1 hn (by rw [k1, List.length_set]; exact hl)
            exact ih.perm (List.perm_middle.trans (pf.append_right T).symm)
          · cases g
      · cases h
    · cases h
  | .inr d :: rs, v :: vs, e, p, outs, e2, T, h, hl, a, g, r => by
    unfold takeA at h
    split at h
    · rename_i q hq
      cases h
      exact joinA hq hl a.2 (show putO rs outs q.2 = some e2 by simpa only [putO] using g) (Rels.tail (p := (v, W.d d)) r)
    · cases h
end

/-- a def's promise where no repr is under way -/
structure FnG (P : Program) (w : World) (K : KK) (mg : Str → Option Value) (base : Heap) (k : Nat) (f : Addr) (fd : FuncData) (ps : List Str) (sp : Sp) : Prop where
  len : ∀ vs H Q E, sp vs H Q E → vs.length = ps.length
  run : ∀ (A : Around) (outer : List PySem.Env) (s : Shared) (H : Hp) (args : Args) (us : List Value) (vs : List V) (Q : VK), A.guards = some [] → Room k A → Env0 P w K mg base A outer s H → BindsTo s fd args (ps.zip us) → Vals vs us → sp vs H Q E0 →
    codeAny (model P w) A (.call (.ref f) args) (CR CX0 outer P w H s Q E0) s

section
variable {X : Cx} {k : Nat} {f : Addr} {fd : FuncData} {ps : List Str} {sp : Sp} {dvs : List V} {ds : List Value} {x : Str} {p pos : Pos} {e : Expr} {es : List Expr} {t : TA}
theorem run_fnG {pins : List (Addr × Obj)} {σ : L2.St} {H : Hp} {s : Shared} {Q : VK} {us : List Value} {vs : List V} (F : FnG X.prog X.w X.K X.mg X.base k f fd ps sp) (hgd : X.A.guards = some []) (hr : Room k X.A) (hb : Binds X.K fd ps ds) (hd : Vals dvs ds)
    (I : L2.Inv X pins σ H s) (r : Vals vs us) (h : sp (vs ++ dvs) H Q E0) : wpAny (model X.prog X.w) X.A (call (.ref f) us) (EP X pins σ Q) X.xe s := by
  have hl : (us ++ ds).length = ps.length := by rw [← (r.append hd).length]; exact F.len _ _ _ _ h
  refine wpAny_call (codeAny_mono (F.run X.A X.stack s H ⟨us, []⟩ _ _ Q hgd hr I.env0 (hb s us I.kIn hl) (r.append hd) h) fun res s' hq => ?_)
  match res, hq with
  | .ok (.ret u), hq => exact I.after hq
theorem pe_callG (F : FnG X.prog X.w X.K X.mg X.base k f fd ps sp) (hgd : X.A.guards = some []) (hr : Room k X.A) (hg : Gl X x) (hm : X.mg x = some (.ref f)) (hk : PySem.W.keepIn X.K (.ref f) = true) (hb : Binds X.K fd ps ds) (hd : Vals dvs ds)
    (ha : PA X (e :: es) t) (hdb : (x == ("__debug__" : Str)) = false := by decide) (he : starEach (e :: es) X.env = (false, eval e X.env) :: starEach es X.env := by rfl) (hpl : (backTo pos (starEach es X.env)).any (·.1) = false := by rfl) :
    PE X (.Call (.Name x p) (e :: es) [] pos) (fun σ H Q => t σ H fun vs H1 => sp (vs ++ dvs) H1 Q E0) := by
  refine ⟨fun pins s σ H Q I h => wpAny_Call_Name_kw (ld_glob I hg hm ?_ hdb)⟩
  refine PySem.W.callWith_K (h₀ := X.base) I.ok.mod.kin hk (thn (ha.run pos pins s σ H _ I h) ?_) he hpl
  rintro us s1 ⟨vs, H1, I1, r, q⟩
  exact ⟨I1.kIn, run_fnG F hgd hr hb hd I1 r q⟩
/-- a call of a def of the text, by its mirror -/
theorem pe_callM {P : List Nat} {C : Orc} {c n : Nat} {as : List Arg} (F : FnG X.prog X.w X.K X.mg X.base k f fd ps (spF X.K n (C c))) (hn : as.length + dvs.length = n) (hgd : X.A.guards = some []) (hr : Room k X.A) (hg : Gl X x) (hm : X.mg x = some (.ref f)) (hk : PySem.W.keepIn X.K (.ref f) = true) (hb : Binds X.K fd ps ds) (hd : Vals dvs ds) (hdv : dvs = [])
    (ha : PA X (e :: es) (tG X.K P as)) (hdb : (x == ("__debug__" : Str)) = false := by decide) (he : starEach (e :: es) X.env = (false, eval e X.env) :: starEach es X.env := by rfl) (hpl : (backTo pos (starEach es X.env)).any (·.1) = false := by rfl) :
    PE X (.Call (.Name x p) (e :: es) [] pos) (tE X.K P (eCall C c as)) := by
  subst hdv
  have evlen : ∀ {as : List Arg} {env e' : Env} {rs : List (Nat ⊕ D)}, evG as env = .ok rs e' → rs.length = as.length := by
    intro as
    induction as with
    | nil => intro env e' rs h; cases h; rfl
    | cons a as ih =>
      intro env e' rs h
      cases a with
      | rf i =>
        simp only [evG] at h
        split at h
        · obtain ⟨rs', e2, h2, h⟩ := bnd_eq_ok h
          cases h
          simp [ih h2]
        · cases h
      | vl m =>
        obtain ⟨w, e1, _, h⟩ := bnd_eq_ok h
        obtain ⟨rs', e2, h2, h⟩ := bnd_eq_ok h
        cases h
        simp [ih h2]
  exact mkE (pe_callG F hgd hr hg hm hk hb hd ha hdb he hpl) fun p0 T σ env H w env' Q sr gd hm hQ => by
    obtain ⟨rs, e1, h1, hm⟩ := bnd_eq_ok hm
    refine ⟨p0, T, env, rs, e1, sr, gd, h1, fun vs H1 ar sr1 g1 => ?_⟩
    split at hm
    · rename_i q hq
      split at hm
      · rename_i w' outs hC
        split at hm
        · rename_i e2 he2
          cases hm
          have hl := takeA_len hq
          obtain ⟨k1, k2, k3⟩ := put_facts hq he2
          rw [List.append_nil]
          refine ⟨pr σ q.2 ++ T, q.1, w, outs, ?_, ?_, splitA hq sr1.len ar (fun _ z => z) sr1.rels, g1, hC, fun v H2 r => hQ v H2 fun _ => ?_⟩
          · rw [ar.len, evlen h1]; simpa using hn
          · rw [ar.len, hl.2]
          · have r2 : Rels X.K H2 (vs.zip (updW q.1 outs) ++ (pr σ q.2 ++ (v, w) :: T)) := r.perm (by
              rw [← List.append_assoc, ← List.append_assoc]
              exact List.perm_middle.symm)
            have r3 := joinA (T := (v, w) :: T) hq sr1.len ar he2 r2
            exact ⟨r3, by rw [k1]; exact sr1.len, sr1.len0, fun i x hx => by
              cases hd1 : e1.getD i none with
              | none => rw [k2 i hd1] at hx; cases hx
              | some y => exact sr1.cov i y hd1, fun i hi => ⟨(sr1.par i hi).1, by
                obtain ⟨xs, hxs⟩ := (sr1.par i hi).2
                exact k3 i xs hxs⟩⟩
        · cases hm
      · split at hm <;> cases hm
      · cases hm
    · cases hm
end
end Mi
set_option Elab.async false
set_option linter.all false
set_option maxRecDepth 100000
set_option maxHeartbeats 4000000
/-! Mi8: a def by its mirror -/
namespace Mi
open PySem PySem.Spec PyProof.Rows L2

def lpos : List W → Nat → List Nat
  | [], _ => []
  | .l _ :: ws, i => i :: lpos ws (i + 1)
  | .d _ :: ws, i => lpos ws (i + 1)
def contO (e : Env) : List Nat → Option (List (List D))
  | [] => some []
  | i :: is => match e.getD i none with
    | some (.l xs) => (match contO e is with
      | some r => some (xs :: r)
      | none => none)
    | _ => none
/-- np parameters of n names, the lists handed on at the slots P -/
def runF (np n : Nat) (P : List Nat) (m : MS) (ws : List W) : CRes :=
  if ws.length = np ∧ lpos ws 0 = P then
    match m (ws.map some ++ List.replicate (n - np) none) with
    | .ok o e => (match contO e P with
      | some outs => (match o with
        | .rt w => .ok w outs
        | .nx => .ok (.d .none) outs
        | _ => .no)
      | none => .no)
    | .ex x e => (match contO e P with
      | some outs => .ex x outs
      | none => .no)
    | .no => .no
  else .no

section
variable {K : KK} {H H' : Hp}
theorem lpos_ge : ∀ {ws : List W} {i j : Nat}, j ∈ lpos ws i → i ≤ j ∧ ∃ xs, ws[j - i]? = some (.l xs)
  | [], i, j, h => by simp [lpos] at h
  | .l xs :: ws, i, j, h => by
    simp only [lpos, List.mem_cons] at h
    rcases h with h | h
    · subst h; exact ⟨Nat.le_refl _, xs, by simp⟩
    · obtain ⟨h1, ys, h2⟩ := lpos_ge h
      refine ⟨by omega, ys, ?_⟩
      have : j - i = (j - (i + 1)) + 1 := by omega
      rw [this]
      simpa using h2
  | .d d :: ws, i, j, h => by
    simp only [lpos] at h
    obtain ⟨h1, ys, h2⟩ := lpos_ge h
    refine ⟨by omega, ys, ?_⟩
    have : j - i = (j - (i + 1)) + 1 := by omega
    rw [this]
    simpa using h2
theorem updW_mem {e' : Env} : ∀ {ws : List W} {i0 : Nat} {vs : List V} {outs : List (List D)}, contO e' (lpos ws i0) = some outs → ∀ p ∈ vs.zip (updW ws outs), (∃ d, p.2 = .d d ∧ p ∈ vs.zip ws) ∨ ∃ i xs, i ∈ lpos ws i0 ∧ vs[i - i0]? = some p.1 ∧ p.2 = .l xs ∧ e'.getD i none = some (.l xs)
  | [], i0, vs, outs, h, p, hp => by simp [updW] at hp
  | .l x :: ws, i0, [], outs, h, p, hp => by simp at hp
  | .d x :: ws, i0, [], outs, h, p, hp => by simp at hp
  | .l x :: ws, i0, v :: vs, outs, h, p, hp => by
    simp only [lpos, contO] at h
    split at h
    · rename_i xs hx
      split at h
      · rename_i r hr
        cases h
        simp only [updW, List.zip_cons_cons, List.mem_cons] at hp
        rcases hp with rfl | hp
        · exact .inr ⟨i0, xs, by simp [lpos], by simp, rfl, hx⟩
        · rcases updW_mem hr p hp with ⟨d, a, b⟩ | ⟨i, ys, a, b, c, d⟩
          · exact .inl ⟨d, a, List.mem_cons_of_mem _ b⟩
          · have := (lpos_ge a).1
            refine .inr ⟨i, ys, by simp [lpos, a], ?_, c, d⟩
            have e : i - i0 = (i - (i0 + 1)) + 1 := by omega
            rw [e]
            simpa using b
      · cases h
    · cases h
  | .d x :: ws, i0, v :: vs, outs, h, p, hp => by
    simp only [lpos] at h
    simp only [updW, List.zip_cons_cons, List.mem_cons] at hp
    rcases hp with rfl | hp
    · exact .inl ⟨x, rfl, List.mem_cons_self⟩
    · rcases updW_mem h p hp with ⟨d, a, b⟩ | ⟨i, ys, a, b, c, d⟩
      · exact .inl ⟨d, a, List.mem_cons_of_mem _ b⟩
      · have := (lpos_ge a).1
        refine .inr ⟨i, ys, by simpa [lpos] using a, ?_, c, d⟩
        have e : i - i0 = (i - (i0 + 1)) + 1 := by omega
        rw [e]
        simpa using b
theorem owned_updW {e' : Env} : ∀ {ws : List W} {i0 : Nat} {vs : List V} {outs : List (List D)}, contO e' (lpos ws i0) = some outs → owned (vs.zip (updW ws outs)) = owned (vs.zip ws)
  | [], i0, vs, outs, h => by simp [updW]
  | .l x :: ws, i0, [], outs, h => by simp
  | .d x :: ws, i0, [], outs, h => by simp
  | .l x :: ws, i0, v :: vs, outs, h => by
    simp only [lpos, contO] at h
    split at h
    · split at h
      · rename_i r hr
        cases h
        simp only [updW, List.zip_cons_cons]
        unfold owned
        rw [List.filterMap_cons, List.filterMap_cons]
        have ih := owned_updW (vs := vs) hr
        unfold owned at ih
        rw [ih]
        cases v <;> rfl
      · cases h
    · cases h
  | .d x :: ws, i0, v :: vs, outs, h => by
    simp only [lpos] at h
    simp only [updW, List.zip_cons_cons]
    unfold owned
    rw [List.filterMap_cons, List.filterMap_cons]
    have ih := owned_updW (vs := vs) h
    unfold owned at ih
    rw [ih]
theorem Rels.ofMem {L L' : List (V × W)} (h : Rels K H L) (hm : ∀ p ∈ L', p ∈ L) (nd : (owned L').Nodup) : Rels K H L' := by
  refine ⟨nd, fun p hp => RW.to (fun _ _ _ z => z) (fun a z => ?_) (fun _ _ _ _ z => z) (h.at_ p (hm p hp))⟩
  obtain ⟨xs, hx⟩ := mem_owned.mp z
  exact mem_owned.mpr ⟨xs, hm _ hx⟩
/-- the data among the arguments -/
def dPart : List (V × W) → List (V × W)
  | [] => []
  | (v, .d d) :: l => (v, .d d) :: dPart l
  | (_, .l _) :: l => dPart l
theorem mem_dPart {p : V × W} : ∀ {l : List (V × W)}, p ∈ dPart l ↔ p ∈ l ∧ ∃ d, p.2 = .d d
  | [] => by simp [dPart]
  | (v, .d d) :: l => by
    simp only [dPart, List.mem_cons, mem_dPart (l := l)]
    constructor
    · rintro (h | h)
      · exact ⟨.inl h, d, by rw [h]⟩
      · exact ⟨.inr h.1, h.2⟩
    · rintro ⟨h | h, g⟩
      · exact .inl h
      · exact .inr ⟨h, g⟩
  | (v, .l d) :: l => by
    simp only [dPart, List.mem_cons, mem_dPart (l := l)]
    constructor
    · exact fun h => ⟨.inr h.1, h.2⟩
    · rintro ⟨h | h, x, g⟩
      · rw [h] at g; cases g
      · exact ⟨h, x, g⟩
theorem Rels.dup {L : List (V × W)} (h : Rels K H L) : ∀ (A : List (V × W)), (∀ p ∈ A, p ∈ L) → Rels K H (dPart A ++ L)
  | [], _ => h
  | (v, .d d) :: A, hA => by
    have ih := Rels.dup h A fun p hp => hA p (List.mem_cons_of_mem _ hp)
    refine Rels.data ih ?_
    have q := ih.at_ (v, .d d) (List.mem_append_right _ (hA _ List.mem_cons_self))
    exact q
  | (v, .l d) :: A, hA => Rels.dup h A fun p hp => hA p (List.mem_cons_of_mem _ hp)
theorem pr_start : ∀ {vs : List V} {ws : List W} {a b : Nat}, vs.length = ws.length → a = b → pr (vs.map some ++ List.replicate a none) (ws.map some ++ List.replicate b none) = vs.zip ws
  | [], [], a, _, _, rfl => by
    simp only [List.map_nil, List.nil_append, List.zip_nil_left]
    induction a with
    | zero => rfl
    | succ a ih => simp [List.replicate_succ, pr, pc, ih]
  | [], _ :: _, _, _, h, _ => by simp at h
  | _ :: _, [], _, _, h, _ => by simp at h
  | v :: vs, w :: ws, a, b, h, e => by
    simp only [List.map_cons, List.cons_append, pr, pc, List.zip_cons_cons, List.singleton_append]
    rw [pr_start (by simpa using h) e]
    rfl
theorem map_getD {ws : List W} {n i : Nat} : (ws.map some ++ List.replicate n none).getD i none = ws[i]? := by
  rw [List.getD_eq_getElem?_getD]
  by_cases hi : i < ws.length
  · rw [List.getElem?_append_left (by simpa using hi), List.getElem?_map]
    simp [hi]
  · rw [List.getElem?_append_right (by simpa using hi), List.getElem?_eq_none (l := ws) (by omega)]
    simp only [List.getElem?_replicate]
    split <;> rfl
end

section
variable {P : Program} {w : World} {K : KK} {mg : Str → Option Value} {base : Heap} {x qual : Str} {params : Arguments} {body : List Stmt} {scope : Scope} {f : Addr} {fd : FuncData}
/-- a def of the text keeps its promise, by its body -/
theorem fnG_of {N ps : List Str} {k : Nat} {sp : Sp} {dvs : List V} {kws : List (Str × V)} (F : FunD K x qual params body scope dvs kws f fd) (S : FnScope N ps scope) (len : ∀ vs H Q E, sp vs H Q E → vs.length = ps.length)
    (hbody : ∀ (cdv : Value) (A : Around) (outer : List PySem.Env) (s : Shared) (H : Hp) (vs : List V) (Q : VK), A.guards = some [] → Room k (A.deeper (envOfC qual scope s.heap.objs.size f cdv)) → sp vs H Q E0 →
      ∃ t, PSs (cxOf CX0 P w K mg base N qual scope f cdv A outer s H E0) body t ∧ t { nx := fun _ H' => Q .non H', rt := Q } (start N vs) H) : FnG P w K mg base (k + 1) f fd ps sp := by
  obtain ⟨oc, od, dV, kV, doc, pm, an, cdv, ct, osl, hfd, lk, hcd, _, _⟩ := F.ex
  subst hfd
  constructor
  · exact len
  intro A outer s H args us vs Q hgd hr e0 hbnd hvals hpre
  have hvl := len _ _ _ _ hpre
  have KX : K.In s.heap := e0.mod.kin.keeps (fun b o e => (e0.bs b o e).1)
  have noLim : s.heap.NoLimit := e0.mod.nolimit.keeps (fun b o e => (e0.bs b o e).1)
  have kinds : ∀ y ∈ ps.zip us, scope.names.lookup y.1 = some .local ∨ (scope.names.lookup y.1 = some .cell ∧ ((cellsFrom (s.heap.objs.size + 1) scope.names []).lookup y.1).isSome = true) := by
    rintro ⟨n, v⟩ hy
    exact (S.par n (List.of_mem_zip hy).1).elim .inl fun q => .inr ⟨q, PySem.W.cellsFrom_some _ _ _ (.inl q)⟩
  refine codeAny_call_function hr.depth (KX _ _ lk) rfl S.co S.gen rfl (PySem.W.codeRec_of KX hcd) (hbnd _ _ _ _ (wpAny_newFunctionEnv_cells S.kind kinds ?_))
  intro env he s1 inC
  subst he
  refine ⟨noLim.keeps inC.toInCall.keep, codeAny_func ?_⟩
  obtain ⟨t, ht, hq⟩ := hbody cdv A outer s H vs Q hgd (hr.deeper _) hpre
  refine wpAny_mono (ht.run [] s1 _ H _ (inv_start S hr.hd e0 hvl hvals inC) hq) (fun fl s' hs => ?_) (fun _ _ z => z)
  match fl, hs with
  | .ret u, ⟨v, σ', H', J, rv, q⟩ => exact ⟨v, H', J.os, J.bare, J.base, J.hok, rv, q⟩
  | .next, ⟨σ', H', J, q⟩ => exact ⟨V.non, H', J.os, J.bare, J.base, J.hok, rfl, q⟩
  | .brk, ⟨_, _, _, q⟩ => exact q.elim
  | .cont, ⟨_, _, _, q⟩ => exact q.elim

/-- a def by the mirror of its body -/
theorem fnM {N ps : List Str} {k np n : Nat} {Pl : List Nat} {m : MS} {F : List W → CRes} {dvs : List V} {kws : List (Str × V)} (FD : FunD K x qual params body scope dvs kws f fd) (S : FnScope N ps scope) (hnp : ps.length = np) (hn : N.length = n) (hF : F = runF np n Pl m)
    (hbody : ∀ (cdv : Value) (A : Around) (outer : List PySem.Env) (s : Shared) (H : Hp), A.guards = some [] → Room k (A.deeper (envOfC qual scope s.heap.objs.size f cdv)) →
      PSs (cxOf CX0 P w K mg base N qual scope f cdv A outer s H E0) body (tS K Pl m)) : FnG P w K mg base (k + 1) f fd ps (spF K np F) := by
  subst hF hnp hn
  refine fnG_of FD S (fun vs H Q E h => ?_) fun cdv A outer s H vs Q hgd hr h => ⟨_, hbody cdv A outer s H hgd hr, ?_⟩
  · obtain ⟨_, _, _, _, e, _⟩ := h
    exact e
  obtain ⟨T, ws, wr, outs, hv, hvw, rl, gd, hrun, hQ⟩ := h
  unfold runF at hrun
  split at hrun
  rotate_left
  · cases hrun
  rename_i hc
  obtain ⟨hc1, hc2⟩ := hc
  split at hrun
  · rename_i o e' hm
    split at hrun
    · rename_i outs' ho
      have sr : SR K Pl (start N vs) (dPart (vs.zip ws) ++ T) (start N vs) (ws.map some ++ List.replicate (N.length - ps.length) none) H := by
        refine ⟨?_, ?_, rfl, fun i x hx => ?_, fun i hi => ⟨rfl, ?_⟩⟩
        · unfold L2.start
          rw [pr_start hvw (by rw [hv])]
          refine (rl.dup (vs.zip ws) fun p hp => List.mem_append_left _ hp).perm ?_
          rw [← List.append_assoc, ← List.append_assoc]
          exact List.Perm.append_right _ List.perm_append_comm
        · unfold L2.start
          simp only [List.length_append, List.length_map, List.length_replicate]
          omega
        · rw [map_getD] at hx
          have hi : i < ws.length := (List.getElem?_eq_some_iff.mp hx).1
          have hi2 : i < vs.length := by omega
          refine ⟨vs[i], ?_⟩
          unfold L2.start
          rw [List.getElem?_append_left (by simpa using hi2), List.getElem?_map]
          simp [hi2]
        · rw [map_getD]
          rw [← hc2] at hi
          obtain ⟨_, xs, hx⟩ := lpos_ge hi
          exact ⟨xs, by simpa using hx⟩
      -- the end, for a value that is held
      have fin : ∀ (σ' : L2.St) (H' : Hp) (v : V) (wv : W), SR K Pl (start N vs) ((v, wv) :: (dPart (vs.zip ws) ++ T)) σ' e' H' → Rels K H' ((v, wv) :: (vs.zip (updW ws outs') ++ T)) := fun σ' H' v wv s2 => by
        rw [← hc2] at ho
        have hst : ∀ i, i ∈ Pl → σ'[i]? = (start N vs)[i]? := fun i hi => (s2.par i hi).1
        have inPr : ∀ i xs u, i ∈ lpos ws 0 → vs[i]? = some u → e'.getD i none = some (.l xs) → (u, W.l xs) ∈ pr σ' e' := fun i xs u hi hu he => by
          have hi2 : i < vs.length := (List.getElem?_eq_some_iff.mp hu).1
          refine pr_mem (i := i) ?_ he
          rw [hst i (by rw [← hc2]; exact hi)]
          unfold L2.start
          rw [List.getElem?_append_left (by simpa using hi2), List.getElem?_map, hu]
          rfl
        refine s2.top.ofMem (fun p hp => ?_) ?_
        · rcases List.mem_cons.mp hp with rfl | hp
          · exact List.mem_cons_self
          refine List.mem_cons_of_mem _ ?_
          rcases List.mem_append.mp hp with hp | hp
          · rcases updW_mem ho p hp with ⟨d, a, b⟩ | ⟨i, xs, a, b, c, d⟩
            · exact List.mem_append_right _ (List.mem_append_left _ (mem_dPart.mpr ⟨b, d, a⟩))
            · refine List.mem_append_left _ ?_
              obtain ⟨u, x⟩ := p
              have c' : x = .l xs := c
              subst c'
              exact inPr i xs u a (by simpa using b) d
          · exact List.mem_append_right _ (List.mem_append_right _ hp)
        · have nd0 : (owned (vs.zip ws ++ T)).Nodup := rl.nd
          have e1 : owned (vs.zip (updW ws outs') ++ T) = owned (vs.zip ws ++ T) := by
            unfold owned
            rw [List.filterMap_append, List.filterMap_append]
            congr 1
            exact owned_updW ho
          have top := s2.top.nd
          cases wv with
          | d d =>
            rw [owned_d, e1]
            exact nd0
          | l xs =>
            obtain ⟨a, us, e, _⟩ := s2.top.at_ _ List.mem_cons_self
            have e' : v = .ref a := e
            subst e'
            rw [owned_l] at top ⊢
            rw [e1]
            refine List.nodup_cons.mpr ⟨fun z => (List.nodup_cons.mp top).1 ?_, nd0⟩
            rw [← e1] at z
            obtain ⟨ys, hy⟩ := mem_owned.mp z
            rcases List.mem_append.mp hy with hy | hy
            · rcases updW_mem ho _ hy with ⟨d, a, b⟩ | ⟨i, zs, a, b, c, d⟩
              · cases a
              · cases c
                exact mem_owned.mpr ⟨_, List.mem_append_left _ (inPr i _ _ a (by simpa using b) d)⟩
            · exact mem_owned.mpr ⟨_, List.mem_append_right _ (List.mem_append_right _ hy)⟩
      refine ⟨_, _, _, o, e', sr, gd, hm, ?_⟩
      cases o with
      | rt w' =>
        cases hrun
        exact fun v σ' H' s2 _ => hQ v H' (fin σ' H' v _ s2)
      | nx =>
        cases hrun
        exact fun σ' H' s2 _ => hQ .non H' (fin σ' H' .non _ (s2.push (s2.rels.data rfl)))
      | bk => cases hrun
      | ct => cases hrun
    · cases hrun
  · split at hrun <;> cases hrun
  · cases hrun
end
end Mi
set_option Elab.async false
set_option linter.all false
set_option maxRecDepth 100000
set_option maxHeartbeats 4000000
/-! Mi9: operators and built-ins on views -/
namespace Mi
open PySem PySem.Spec PyProof.Rows L2

theorem OpR.or {X : Cx} {f : Value → Value → Sem Value} {r r' : R2} (h : OpR X f r) (h' : OpR X f r') : OpR X f (fun x y H Q => r x y H Q ∨ r' x y H Q) := by
  intro pins s σ H x y v u Q I rx ry q
  rcases q with q | q
  · exact h pins s σ H x y v u Q I rx ry q
  · exact h' pins s σ H x y v u Q I rx ry q
section
variable {K : KK}
/-! ### arithmetic -/
def fAdd : D → D → Option W
  | .int i, .int j => some (.d (.int (i + j)))
  | .str i, .str j => if i.length + j.length ≤ 16777216 then some (.d (.str (i ++ j))) else none
  | .list xs, .list ys => if xs.length + ys.length ≤ 16777216 then some (.l (xs ++ ys)) else none
  | .tuple xs, .tuple ys => if xs.length + ys.length ≤ 16777216 then some (.d (.tuple (xs ++ ys))) else none
  | _, _ => none
@[simp] theorem fAdd_int (i j : Int) : fAdd (.int i) (.int j) = some (.d (.int (i + j))) := rfl
/-- ints alone -/
def fAddI : D → D → Option W
  | .int i, .int j => some (.d (.int (i + j)))
  | _, _ => none
@[simp] theorem fAddI_int (i j : Int) : fAddI (.int i) (.int j) = some (.d (.int (i + j))) := rfl
theorem op2_int {g : Int → Int → D} {C : Int → Int → Prop} {f : D → D → Option W} (hg : ∀ i j, ∃ k, g i j = .int k ∨ ∃ b, g i j = .bool b) (h : ∀ x y w, f x y = some w → ∃ i j, x = .int i ∧ y = .int j ∧ w = .d (g i j) ∧ C i j)
    {r : R2} (hr : ∀ i j H Q, C i j → (∀ v, Flat (g i j) v → Q v H) → r (.int i) (.int j) H Q) : Op2 K r f := fun H L x y dx dy w Q gd rl hx hy hf hQ => by
  obtain ⟨i, j, rfl, rfl, rfl, hc⟩ := h _ _ _ hf
  have ex := hx.int rl
  have ey := hy.int rl
  subst ex ey
  exact hr i j H Q hc fun v fv => hQ v H fun _ => rl.data fv.dat
theorem op_addI : Op2 K (rI0 fun i j => V.int (i + j)) fAddI := fun H L x y dx dy w Q gd rl hx hy hf hQ => by
  cases dx <;> cases dy <;> simp [fAddI] at hf
  subst hf
  have ex := hx.int rl
  have ey := hy.int rl
  subst ex ey
  exact ⟨_, _, rfl, rfl, hQ _ H fun _ => rl.data rfl⟩
def fSub : D → D → Option W
  | .int i, .int j => some (.d (.int (i - j)))
  | _, _ => none
@[simp] theorem fSub_int (i j : Int) : fSub (.int i) (.int j) = some (.d (.int (i - j))) := rfl
theorem op_subM : Op2 K (rI0 fun i j => V.int (i - j)) fSub := fun H L x y dx dy w Q gd rl hx hy hf hQ => by
  cases dx <;> cases dy <;> simp [fSub] at hf
  subst hf
  have ex := hx.int rl
  have ey := hy.int rl
  subst ex ey
  exact ⟨_, _, rfl, rfl, hQ _ H fun _ => rl.data rfl⟩
/-- a product: one factor small, or both below a million bits together -/
def fMul : D → D → Option W
  | .int i, .int j => if i.natAbs < 18446744073709551616 ∨ j.natAbs < 18446744073709551616 ∨ i.natAbs.log2 + j.natAbs.log2 < 1000000 then some (.d (.int (i * j))) else none
  | _, _ => none
theorem op_mulX {X : Cx} : OpR X (binaryOp .Mult) (fun x y H Q => (rI CMul fun i j => V.int (i * j)) x y H Q ∨ (rI CMulW fun i j => V.int (i * j)) x y H Q) := OpR.or op_mul op_mulW
theorem op_mulM : Op2 K (fun x y H Q => (rI CMul fun i j => V.int (i * j)) x y H Q ∨ (rI CMulW fun i j => V.int (i * j)) x y H Q) fMul := fun H L x y dx dy w Q gd rl hx hy hf hQ => by
  cases dx <;> cases dy <;> simp only [fMul] at hf <;> try cases hf
  split at hf
  · rename_i hc
    cases hf
    have ex := hx.int rl
    have ey := hy.int rl
    subst ex ey
    rcases hc with hc | hc | hc
    · exact .inl ⟨_, _, rfl, rfl, .inl ⟨by omega, by omega⟩, hQ _ H fun _ => rl.data rfl⟩
    · exact .inl ⟨_, _, rfl, rfl, .inr ⟨by omega, by omega⟩, hQ _ H fun _ => rl.data rfl⟩
    · exact .inr ⟨_, _, rfl, rfl, hc, hQ _ H fun _ => rl.data rfl⟩
  · cases hf
theorem fMul_small {i j : Int} {a b : Nat} (ha : i.natAbs < 2 ^ a) (hb : j.natAbs < 2 ^ b) (h0 : 0 < a) (h1 : 0 < b) (h : a + b ≤ 1000000) : fMul (.int i) (.int j) = some (.d (.int (i * j))) := by
  have := wide_mul ha hb h0 h1 h
  exact if_pos (.inr (.inr this))
def fMod : D → D → Option W
  | .int i, .int j => if 0 < j then some (.d (.int (i % j))) else none
  | _, _ => none
theorem op_modM : Op2 K (rI (fun _ j => 0 < j) fun i j => V.int (i % j)) fMod := fun H L x y dx dy w Q gd rl hx hy hf hQ => by
  cases dx <;> cases dy <;> simp only [fMod] at hf <;> try cases hf
  split at hf
  · rename_i hc
    cases hf
    have ex := hx.int rl
    have ey := hy.int rl
    subst ex ey
    exact ⟨_, _, rfl, rfl, hc, hQ _ H fun _ => rl.data rfl⟩
  · cases hf
def fDiv : D → D → Option W
  | .int i, .int j => if 0 < j ∧ j.natAbs.log2 < 9000 then some (.d (.int (i / j))) else none
  | _, _ => none
theorem op_divM : Op2 K (rI CDivW fun i j => V.int (i / j)) fDiv := fun H L x y dx dy w Q gd rl hx hy hf hQ => by
  cases dx <;> cases dy <;> simp only [fDiv] at hf <;> try cases hf
  split at hf
  · rename_i hc
    cases hf
    have ex := hx.int rl
    have ey := hy.int rl
    subst ex ey
    exact ⟨_, _, rfl, rfl, hc, hQ _ H fun _ => rl.data rfl⟩
  · cases hf
def fPow : D → D → Option W
  | .int i, .int j => if 0 ≤ j ∧ j ≤ 1000000 ∧ i.natAbs < 18446744073709551616 then some (.d (.int (i ^ j.toNat))) else none
  | _, _ => none
theorem op_powM : Op2 K (rI CPow fun i j => V.int (i ^ j.toNat)) fPow := fun H L x y dx dy w Q gd rl hx hy hf hQ => by
  cases dx <;> cases dy <;> simp only [fPow] at hf <;> try cases hf
  split at hf
  · rename_i hc
    cases hf
    have ex := hx.int rl
    have ey := hy.int rl
    subst ex ey
    exact ⟨_, _, rfl, rfl, hc, hQ _ H fun _ => rl.data rfl⟩
  · cases hf
def fNeg : D → Option W
  | .int i => some (.d (.int (-i)))
  | _ => none
@[simp] theorem fNeg_int (i : Int) : fNeg (.int i) = some (.d (.int (-i))) := rfl
theorem op_negM : Op1 K (rU fun i => V.int (-i)) fNeg := fun H L x dx w Q gd rl hx hf hQ => by
  cases dx <;> simp [fNeg] at hf
  subst hf
  have ex := hx.int rl
  subst ex
  exact ⟨_, rfl, hQ _ H fun _ => rl.data rfl⟩
/-- texts alone -/
def fAddS : D → D → Option W
  | .str i, .str j => if i.length + j.length ≤ 16777216 then some (.d (.str (i ++ j))) else none
  | _, _ => none
theorem op_addSM : Op2 K (fun x y H Q => ∃ i j, x = .str i ∧ y = .str j ∧ i.length + j.length ≤ sizeLine ∧ Q (.str (i ++ j)) H) fAddS := fun H L x y dx dy w Q gd rl hx hy hf hQ => by
  cases dx <;> cases dy <;> simp only [fAddS] at hf <;> try cases hf
  split at hf
  · rename_i hc
    cases hf
    have ex := hx.str rl
    have ey := hy.str rl
    subst ex ey
    exact ⟨_, _, rfl, rfl, by rw [sizeLine_eq]; exact hc, hQ _ H fun _ => rl.data rfl⟩
  · cases hf

/-! ### comparisons: f tells a truth value -/
def lB (f : D → D → Option Bool) (x y : D) : Option W := (f x y).map fun b => W.d (.bool b)
def Op2B (K : KK) (r : R2) (f : D → D → Option Bool) : Prop := ∀ (H : Hp) (L : List (V × W)) (x y : V) (dx dy : D) (b : Bool) (Q : VK), Good K H → Rels K H L → Vw L x dx → Vw L y dy → f dx dy = some b → Q (.bl b) H → r x y H Q
theorem Op2B.op {r : R2} {f : D → D → Option Bool} (h : Op2B K r f) : Op2 K r (lB f) := fun H L x y dx dy w Q gd rl hx hy hf hQ => by
  obtain ⟨b, h1, rfl⟩ := Option.map_eq_some_iff.mp hf
  exact h H L x y dx dy b Q gd rl hx hy h1 (hQ _ H fun _ => rl.data rfl)
def cCmp (p : Int → Int → Bool) : D → D → Option Bool
  | .int i, .int j => some (p i j)
  | _, _ => none
@[simp] theorem cCmp_int (p : Int → Int → Bool) (i j : Int) : cCmp p (.int i) (.int j) = some (p i j) := rfl
theorem op_cmpM {p : Int → Int → Bool} : Op2B K (rI0 fun i j => V.bl (p i j)) (cCmp p) := fun H L x y dx dy b Q gd rl hx hy hf hQ => by
  cases dx <;> cases dy <;> simp [cCmp] at hf
  subst hf
  have ex := hx.int rl
  have ey := hy.int rl
  subst ex ey
  exact ⟨_, _, rfl, rfl, hQ⟩
abbrev cLt := cCmp fun i j => decide (i < j)
abbrev cLe := cCmp fun i j => decide (i ≤ j)
abbrev cGt := cCmp fun i j => decide (j < i)
abbrev cGe := cCmp fun i j => decide (j ≤ i)
def cEq (x y : D) : Option Bool := match x, y with
  | .str a, .str b => some (a == b)
  | x, y => if SeqAt.shaped x = true ∧ SeqAt.shaped y = true then some (PyData.eqv x y) else none
def cNe (x y : D) : Option Bool := match x, y with
  | .str a, .str b => some (!(a == b))
  | x, y => if SeqAt.shaped x = true ∧ SeqAt.shaped y = true then some (!PyData.eqv x y) else none
theorem op_eqX {X : Cx} (hu : X.A.units + 64 < cLine) : OpR X (compareOp .Eq) (fun x y H Q => rEq x y H Q ∨ rEqD X.K x y H Q) := OpR.or op_eq (op_eqD hu)
theorem op_neX {X : Cx} (hu : X.A.units + 64 < cLine) : OpR X (compareOp .NotEq) (fun x y H Q => rNe x y H Q ∨ rNeD X.K x y H Q) := OpR.or op_ne (op_neD hu)
theorem op_eqM : Op2B K (fun x y H Q => rEq x y H Q ∨ rEqD K x y H Q) cEq := fun H L x y dx dy w Q gd rl hx hy hf hQ => by
  unfold cEq at hf
  split at hf
  · cases hf
    have ex := hx.str rl
    have ey := hy.str rl
    subst ex ey
    exact .inl ⟨rfl, by rw [dec_str]; exact hQ⟩
  · split at hf
    · rename_i hc
      cases hf
      exact .inr ⟨_, _, hx.dp rl, hy.dp rl, hc.1, hc.2, hQ⟩
    · cases hf
theorem op_neM : Op2B K (fun x y H Q => rNe x y H Q ∨ rNeD K x y H Q) cNe := fun H L x y dx dy w Q gd rl hx hy hf hQ => by
  unfold cNe at hf
  split at hf
  · cases hf
    have ex := hx.str rl
    have ey := hy.str rl
    subst ex ey
    exact .inl ⟨rfl, by rw [dec_str]; exact hQ⟩
  · split at hf
    · rename_i hc
      cases hf
      exact .inr ⟨_, _, hx.dp rl, hy.dp rl, hc.1, hc.2, hQ⟩
    · cases hf
@[simp] theorem cEq_str (i j : Str) : cEq (.str i) (.str j) = some (i == j) := rfl
@[simp] theorem cNe_str (i j : Str) : cNe (.str i) (.str j) = some (!(i == j)) := rfl
@[simp] theorem cEq_int (i j : Int) : cEq (.int i) (.int j) = some (i == j) := rfl
@[simp] theorem cNe_int (i j : Int) : cNe (.int i) (.int j) = some (!(i == j)) := rfl
def isNone : D → Bool
  | .none => true
  | _ => false
@[simp] theorem isNone_none : isNone .none = true := rfl
@[simp] theorem isNone_int (i : Int) : isNone (.int i) = false := rfl
@[simp] theorem isNone_str (i : Str) : isNone (.str i) = false := rfl
@[simp] theorem isNone_tuple (i : List D) : isNone (.tuple i) = false := rfl
@[simp] theorem isNone_list (i : List D) : isNone (.list i) = false := rfl
@[simp] theorem isNone_bool (i : Bool) : isNone (.bool i) = false := rfl
def cIs (x y : D) : Option Bool := match y with
  | .none => some (isNone x)
  | _ => none
def cIsNot (x y : D) : Option Bool := match y with
  | .none => some (!isNone x)
  | _ => none
@[simp] theorem cIs_none (x : D) : cIs x .none = some (isNone x) := rfl
@[simp] theorem cIsNot_none (x : D) : cIsNot x .none = some (!isNone x) := rfl
theorem isNone_v {H : Hp} {L : List (V × W)} {x : V} {dx : D} (rl : Rels K H L) (hx : Vw L x dx) : decide (x = .non) = isNone dx := by
  cases dx with
  | none => rw [hx.none rl]; rfl
  | bool b => rw [hx.bool rl]; rfl
  | int i => rw [hx.int rl]; rfl
  | str s => rw [hx.str rl]; rfl
  | list xs => obtain ⟨a, vs, e, _⟩ := hx.list rl; rw [e]; rfl
  | tuple xs => obtain ⟨a, vs, e, _⟩ := hx.tuple rl; rw [e]; rfl
  | dict kvs => have := hx.dp rl; cases this
theorem op_isM : Op2B K (fun x y H Q => y = .non ∧ Q (.bl (decide (x = .non))) H) cIs := fun H L x y dx dy w Q gd rl hx hy hf hQ => by
  cases dy <;> simp only [cIs, Option.some.injEq, reduceCtorEq] at hf
  subst hf
  refine ⟨hy.none rl, ?_⟩
  rw [isNone_v rl hx]
  exact hQ
theorem op_isNotM : Op2B K (fun x y H Q => y = .non ∧ Q (.bl (!decide (x = .non))) H) cIsNot := fun H L x y dx dy w Q gd rl hx hy hf hQ => by
  cases dy <;> simp only [cIsNot, Option.some.injEq, reduceCtorEq] at hf
  subst hf
  refine ⟨hy.none rl, ?_⟩
  rw [isNone_v rl hx]
  exact hQ
/-- in a list, data of any depth -/
def cIn (x y : D) : Option Bool := match y with
  | .list ds => if SeqAt.shaped x = true ∧ SeqAt.shaped (.list ds) = true then some (ds.any fun z => PyData.eqv z x) else none
  | _ => none
def cNotIn (x y : D) : Option Bool := match y with
  | .list ds => if SeqAt.shaped x = true ∧ SeqAt.shaped (.list ds) = true then some (!ds.any fun z => PyData.eqv z x) else none
  | _ => none
theorem op_inM : Op2B K (rInD K) cIn := fun H L x y dx dy w Q gd rl hx hy hf hQ => by
  cases dy <;> simp only [cIn] at hf <;> try cases hf
  split at hf
  · rename_i hc
    cases hf
    exact ⟨dx, _, hx.dp rl, hy.dp rl, hc.1, hc.2, hQ⟩
  · cases hf
theorem op_notInM : Op2B K (rNotInD K) cNotIn := fun H L x y dx dy w Q gd rl hx hy hf hQ => by
  cases dy <;> simp only [cNotIn] at hf <;> try cases hf
  split at hf
  · rename_i hc
    cases hf
    exact ⟨dx, _, hx.dp rl, hy.dp rl, hc.1, hc.2, hQ⟩
  · cases hf

/-! ### items -/
def fIx (x y : D) : Option W := match y with
  | .int i => (match x with
    | .list ds => (atI ds i).map W.d
    | .tuple ds => (atI ds i).map W.d
    | .str z => if z.length ≤ 16777216 then (atI z.cps.toList i).map fun c => W.d (.str ⟨#[c]⟩) else none
    | _ => none)
  | _ => none
theorem atI_dats {H : Hp} {O : List Addr} {ds : List D} {vs : List V} {i : Int} {d : D} (h : Dats K H O ds vs) (e : atI ds i = some d) : ∃ v, atI vs i = some v ∧ Dat K H O d v := by
  unfold atI at e ⊢
  rw [← h.length]
  cases hj : ixN ds.length i with
  | none => rw [hj] at e; cases e
  | some j =>
    rw [hj] at e
    obtain ⟨v, h1, h2⟩ := h.get (show ds[j]? = some d from e)
    exact ⟨v, h1, h2⟩
theorem op_ixM : Op2 K (rIx K) fIx := fun H L x y dx dy w Q gd rl hx hy hf hQ => by
  cases dy with
  | int i =>
    have ey := hy.int rl
    subst ey
    cases dx with
    | list ds =>
      obtain ⟨d, h1, rfl⟩ := Option.map_eq_some_iff.mp (show (atI ds i).map W.d = some w from hf)
      obtain ⟨a, vs, rfl, hs, hd⟩ := hx.list rl
      obtain ⟨v, h2, h3⟩ := atI_dats hd h1
      exact .inl ⟨a, vs, i, v, rfl, rfl, hs, h2, hQ v H fun _ => rl.data h3⟩
    | tuple ds =>
      obtain ⟨d, h1, rfl⟩ := Option.map_eq_some_iff.mp (show (atI ds i).map W.d = some w from hf)
      obtain ⟨a, vs, rfl, hs, _, hd⟩ := hx.tuple rl
      obtain ⟨v, h2, h3⟩ := atI_dats hd h1
      exact .inr (.inl ⟨a, vs, i, v, rfl, rfl, hs, h2, hQ v H fun _ => rl.data h3⟩)
    | str z =>
      simp only [fIx] at hf
      split at hf
      · rename_i hz
        obtain ⟨c, h1, rfl⟩ := Option.map_eq_some_iff.mp hf
        have ex := hx.str rl
        subst ex
        exact .inr (.inr ⟨z, i, c, rfl, rfl, by rw [sizeLine_eq]; exact hz, h1, hQ _ H fun _ => rl.data rfl⟩)
      · cases hf
    | none => cases hf
    | bool b => cases hf
    | int j => cases hf
    | dict kvs => cases hf
  | none => cases hf
  | bool b => cases hf
  | str z => cases hf
  | list z => cases hf
  | tuple z => cases hf
  | dict z => cases hf

/-! ### built-ins -/
theorem Vws.one {L : List (V × W)} {vs : List V} {d : D} (h : Vws L vs [d]) : ∃ v, vs = [v] ∧ Vw L v d := by
  match vs, h with
  | [v], h => exact ⟨v, rfl, h.1⟩
theorem Vws.two {L : List (V × W)} {vs : List V} {d d2 : D} (h : Vws L vs [d, d2]) : ∃ v v2, vs = [v, v2] ∧ Vw L v d ∧ Vw L v2 d2 := by
  match vs, h with
  | [v, v2], h => exact ⟨v, v2, rfl, h.1, h.2.1⟩
def bLen : List D → Option W
  | [.list xs] => some (.d (.int xs.length))
  | [.tuple xs] => some (.d (.int xs.length))
  | [.str z] => if z.length ≤ 16777216 then some (.d (.int z.length)) else none
  | _ => none
@[simp] theorem bLen_l (xs : List D) : bLen [.list xs] = some (.d (.int xs.length)) := rfl
@[simp] theorem bLen_t (xs : List D) : bLen [.tuple xs] = some (.d (.int xs.length)) := rfl
theorem oc_len : OpC K (fun xs H Q => ∃ x n, xs = [x] ∧ LenV K x H n ∧ Q (.int n) H) bLen := fun H L vs ds w Q gd rl hv hf hQ => by
  unfold bLen at hf
  split at hf
  · rename_i xs
    cases hf
    obtain ⟨v, rfl, h1⟩ := hv.one
    obtain ⟨a, us, rfl, hs, hd⟩ := h1.list rl
    refine ⟨.ref a, us.length, rfl, .inl ⟨us, hs, rfl⟩, ?_⟩
    rw [← hd.length]
    exact hQ _ H fun _ => rl.data rfl
  · rename_i xs
    cases hf
    obtain ⟨v, rfl, h1⟩ := hv.one
    obtain ⟨a, us, rfl, hs, _, hd⟩ := h1.tuple rl
    refine ⟨.ref a, us.length, rfl, .inr ⟨us, hs, rfl⟩, ?_⟩
    rw [← hd.length]
    exact hQ _ H fun _ => rl.data rfl
  · split at hf
    · rename_i hz
      cases hf
      obtain ⟨v, rfl, h1⟩ := hv.one
      have ev := h1.str rl
      subst ev
      exact ⟨_, _, rfl, ⟨by rw [sizeLine_eq]; exact hz, rfl⟩, hQ _ H fun _ => rl.data rfl⟩
    · cases hf
  · cases hf
def bAbs : List D → Option W
  | [.int i] => some (.d (.int (if i < 0 then -i else i)))
  | _ => none
@[simp] theorem bAbs_int (i : Int) : bAbs [.int i] = some (.d (.int (if i < 0 then -i else i))) := rfl
theorem oc_abs : OpC K (fun xs H Q => ∃ i, xs = [.int i] ∧ Q (.int (if i < 0 then -i else i)) H) bAbs := fun H L vs ds w Q gd rl hv hf hQ => by
  unfold bAbs at hf
  split at hf
  · cases hf
    obtain ⟨v, rfl, h1⟩ := hv.one
    have ev := h1.int rl
    subst ev
    exact ⟨_, rfl, hQ _ H fun _ => rl.data rfl⟩
  · cases hf
def bInt : List D → Option W
  | [.int i] => some (.d (.int i))
  | [.bool k] => some (.d (.int (if k then 1 else 0)))
  | _ => none
@[simp] theorem bInt_int (i : Int) : bInt [.int i] = some (.d (.int i)) := rfl
theorem oc_int : OpC K (fun xs H Q => (∃ i, xs = [.int i] ∧ Q (.int i) H) ∨ ∃ k, xs = [.bl k] ∧ Q (.int (if k then 1 else 0)) H) bInt := fun H L vs ds w Q gd rl hv hf hQ => by
  unfold bInt at hf
  split at hf
  · cases hf
    obtain ⟨v, rfl, h1⟩ := hv.one
    have ev := h1.int rl
    subst ev
    exact .inl ⟨_, rfl, hQ _ H fun _ => rl.data rfl⟩
  · cases hf
    obtain ⟨v, rfl, h1⟩ := hv.one
    have ev := h1.bool rl
    subst ev
    exact .inr ⟨_, rfl, hQ _ H fun _ => rl.data rfl⟩
  · cases hf
def bMax : List D → Option W
  | [.int i, .int j] => some (.d (.int (if j > i then j else i)))
  | _ => none
@[simp] theorem bMax_int (i j : Int) : bMax [.int i, .int j] = some (.d (.int (if j > i then j else i))) := rfl
theorem oc_max : OpC K (fun xs H Q => ∃ i j, xs = [.int i, .int j] ∧ Q (.int (if j > i then j else i)) H) bMax := fun H L vs ds w Q gd rl hv hf hQ => by
  unfold bMax at hf
  split at hf
  · cases hf
    obtain ⟨v, v2, rfl, h1, h2⟩ := hv.two
    have ev := h1.int rl
    have ev2 := h2.int rl
    subst ev ev2
    exact ⟨_, _, rfl, hQ _ H fun _ => rl.data rfl⟩
  · cases hf
def bMin : List D → Option W
  | [.int i, .int j] => some (.d (.int (if j < i then j else i)))
  | _ => none
@[simp] theorem bMin_int (i j : Int) : bMin [.int i, .int j] = some (.d (.int (if j < i then j else i))) := rfl
theorem oc_min : OpC K (fun xs H Q => ∃ i j, xs = [.int i, .int j] ∧ Q (.int (if j < i then j else i)) H) bMin := fun H L vs ds w Q gd rl hv hf hQ => by
  unfold bMin at hf
  split at hf
  · cases hf
    obtain ⟨v, v2, rfl, h1, h2⟩ := hv.two
    have ev := h1.int rl
    have ev2 := h2.int rl
    subst ev ev2
    exact ⟨_, _, rfl, hQ _ H fun _ => rl.data rfl⟩
  · cases hf
theorem newK {K : KK} {H : Hp} {p : Addr} {u : HO} (g : Good K (upd H p u)) : K.lookup p = none := by
  cases q : K.lookup p with
  | none => rfl
  | some o => have := g p o q; rw [upd_same] at this; cases this
def bList : List D → Option W
  | [.list xs] => some (.l xs)
  | [.tuple xs] => some (.l xs)
  | _ => none
@[simp] theorem bList_l (xs : List D) : bList [.list xs] = some (.l xs) := rfl
@[simp] theorem bList_t (xs : List D) : bList [.tuple xs] = some (.l xs) := rfl
theorem oc_list : OpC K (fun xs H Q => ∃ p ys, xs = [.ref p] ∧ (SqL K H p ys ∨ SqT K H p ys) ∧ ∀ l, H l = none → Q (.ref l) (upd H l (.lst ys))) bList := fun H L vs ds w Q gd rl hv hf hQ => by
  unfold bList at hf
  split at hf
  · cases hf
    obtain ⟨v, rfl, h1⟩ := hv.one
    obtain ⟨a, us, rfl, hs, hd⟩ := h1.list rl
    exact ⟨a, us, rfl, .inl hs, fun l hl => hQ _ _ fun g => rl.newOwn hl (newK g) hd⟩
  · cases hf
    obtain ⟨v, rfl, h1⟩ := hv.one
    obtain ⟨a, us, rfl, hs, _, hd⟩ := h1.tuple rl
    exact ⟨a, us, rfl, .inr hs, fun l hl => hQ _ _ fun g => rl.newOwn hl (newK g) hd⟩
  · cases hf
def bTuple : List D → Option W
  | [.list xs] => some (.d (.tuple xs))
  | [.tuple xs] => some (.d (.tuple xs))
  | _ => none
@[simp] theorem bTuple_l (xs : List D) : bTuple [.list xs] = some (.d (.tuple xs)) := rfl
@[simp] theorem bTuple_t (xs : List D) : bTuple [.tuple xs] = some (.d (.tuple xs)) := rfl
theorem oc_tuple : OpC K (fun xs H Q => ∃ p ys, xs = [.ref p] ∧ ((SqL K H p ys ∧ ∀ l, H l = none → Q (.ref l) (upd H l (.tup ys))) ∨ (SqT K H p ys ∧ Q (.ref p) H))) bTuple := fun H L vs ds w Q gd rl hv hf hQ => by
  unfold bTuple at hf
  split at hf
  · cases hf
    obtain ⟨v, rfl, h1⟩ := hv.one
    obtain ⟨a, us, rfl, hs, hd⟩ := h1.list rl
    exact ⟨a, us, rfl, .inl ⟨hs, fun l hl => hQ _ _ fun g => rl.newTup hl (newK g) hd⟩⟩
  · cases hf
    obtain ⟨v, rfl, h1⟩ := hv.one
    obtain ⟨a, us, rfl, hs, hn, hd⟩ := h1.tuple rl
    exact ⟨a, us, rfl, .inr ⟨hs, hQ _ H fun _ => rl.data ⟨a, us, rfl, hs, hn, hd⟩⟩⟩
  · cases hf
def ints? : List D → Option (List Int)
  | [] => some []
  | .int i :: ds => (ints? ds).map (i :: ·)
  | _ => none
theorem ints?_map (ns : List Int) : ints? (ns.map PyData.int) = some ns := by
  induction ns with
  | nil => rfl
  | cons n ns ih => simp [ints?, ih]
theorem ints?_eq : ∀ {ds : List D} {ns : List Int}, ints? ds = some ns → ds = ns.map PyData.int
  | [], ns, h => by cases h; rfl
  | .int i :: ds, ns, h => by
    obtain ⟨r, h1, rfl⟩ := Option.map_eq_some_iff.mp (show (ints? ds).map (i :: ·) = some ns from h)
    rw [ints?_eq h1]; rfl
  | .none :: _, _, h => by cases h
  | .bool _ :: _, _, h => by cases h
  | .str _ :: _, _, h => by cases h
  | .list _ :: _, _, h => by cases h
  | .tuple _ :: _, _, h => by cases h
  | .dict _ :: _, _, h => by cases h
def bSum : List D → Option W
  | [.list xs] => (ints? xs).map fun ns => W.d (.int ns.sum)
  | _ => none
theorem oc_sum : OpC K (rSum K) bSum := fun H L vs ds w Q gd rl hv hf hQ => by
  unfold bSum at hf
  split at hf
  · rename_i xs
    obtain ⟨ns, h1, rfl⟩ := Option.map_eq_some_iff.mp hf
    have e := ints?_eq h1
    subst e
    obtain ⟨v, rfl, h1⟩ := hv.one
    obtain ⟨a, us, rfl, hs, hd⟩ := h1.list rl
    have e2 := hd.ints
    subst e2
    exact ⟨a, ns, rfl, hs, hQ _ H fun _ => rl.data rfl⟩
  · cases hf
/-- repr of data -/
def bRepr : List D → Option W
  | [d] => if d.showable = true ∧ d.shown.length ≤ 16777216 ∧ d.depth ≤ 64 then some (.d (.str d.shown)) else none
  | _ => none
def rRepr (K : KK) : List V → Hp → VK → Prop := fun xs H Q => ∃ x d, xs = [x] ∧ Dp K H x d ∧ d.showable = true ∧ d.shown.length ≤ sizeLine ∧ d.depth ≤ 64 ∧ Q (.str d.shown) H
mutual
theorem noDict {H : Hp} : ∀ (d : D) (v : V), Dp K H v d → d.hasDict = false
  | .none, _, _ => by simp only [PyData.hasDict]
  | .bool _, _, _ => by simp only [PyData.hasDict]
  | .int _, _, _ => by simp only [PyData.hasDict]
  | .str _, _, _ => by simp only [PyData.hasDict]
  | .list ds, _, h => by
    cases h with
    | lst _ h => simp only [PyData.hasDict]; exact noDicts ds _ h
  | .tuple ds, _, h => by
    cases h with
    | tup _ h => simp only [PyData.hasDict]; exact noDicts ds _ h
  | .dict _, _, h => by cases h
theorem noDicts {H : Hp} : ∀ (ds : List D) (vs : List V), DpAll K H vs ds → PyData.hasDictAll ds = false
  | [], _, _ => by simp only [PyData.hasDictAll]
  | d :: ds, _, h => by
    cases h with
    | cons h1 h2 =>
      simp only [PyData.hasDictAll]
      rw [noDict d _ h1, noDicts ds _ h2]
      rfl
end
theorem call_repr {X : Cx} (hgd : X.A.guards = some []) (hu : X.A.units + 66 < cLine) : CallR X (.builtin "repr") (rRepr X.K) := by
  intro pins s σ H xs us Q I r h
  obtain ⟨x, d, rfl, hd, hs, hz, hdp, q⟩ := h
  obtain ⟨u, rfl, r1⟩ := vals1 r
  have refd : ∀ a, x = .ref a → wpAny (model X.prog X.w) X.A (call (.builtin "repr") [u]) (EP X pins σ Q) X.xe s := fun a e => by
    subst e
    cases (show u = Value.ref a from r1)
    obtain ⟨as, rd⟩ := Dp.reads I d _ _ hd r1
    refine repr_of_reads' rd hs (PyData.noDict_hsm (noDict d _ hd)) hgd (by omega) (fun _ _ e => e) (fun h' u tk hk => ?_) hz
    exact ⟨.str d.shown, H, I.kept hk, ⟨_, rfl⟩, q⟩
  cases hd with
  | non =>
    cases (show u = Value.none from r1)
    exact PySem.P.repr_of_none ⟨.str _, H, I.tok _, ⟨_, rfl⟩, by simpa only [PyData.shown] using q⟩
  | bl b =>
    cases (show u = Value.bool b from r1)
    exact PySem.P.repr_of_bool ⟨.str _, H, I.tok _, ⟨_, rfl⟩, by simpa only [PyData.shown] using q⟩
  | int i =>
    obtain ⟨t, rfl⟩ := r1
    exact PySem.P.repr_of_int (by simpa only [PyData.showable, decide_eq_true_eq] using hs) ⟨.str _, H, I.tok _, ⟨_, rfl⟩, by simpa only [PyData.shown] using q⟩
  | str z =>
    obtain ⟨t, rfl⟩ := r1
    exact PySem.P.repr_of_str ⟨.str _, H, I.tok _, ⟨_, rfl⟩, by simpa only [PyData.shown] using q⟩ (by simpa only [PyData.shown] using hz)
  | lst h1 h2 => exact refd _ rfl
  | tup h1 h2 => exact refd _ rfl
theorem oc_repr : OpC K (rRepr K) bRepr := fun H L vs ds w Q gd rl hv hf hQ => by
  unfold bRepr at hf
  split at hf
  · split at hf
    · rename_i hc
      cases hf
      obtain ⟨v, rfl, h1⟩ := hv.one
      exact ⟨v, _, rfl, h1.dp rl, hc.1, by rw [sizeLine_eq]; exact hc.2.1, hc.2.2, hQ _ H fun _ => rl.data rfl⟩
    · cases hf
  · cases hf

/-! ### truth -/
def truD : D → Option Bool
  | .none => some false
  | .bool b => some b
  | .int i => some (i != 0)
  | .str z => if z.length ≤ 16777216 then some ((z.length : Int) != 0) else none
  | .list xs => some !xs.isEmpty
  | .tuple xs => some !xs.isEmpty
  | .dict _ => none
def tTru (o : Opd) : MT := fun e => bnd (o.run e) fun r e1 => match gv e1 r with
  | some d => ofO (truD d) e1
  | none => .no
theorem dats_empty {H : Hp} {O : List Addr} {ds : List D} {vs : List V} (h : Dats K H O ds vs) : ds.isEmpty = vs.isEmpty := by
  have := h.length
  cases ds <;> cases vs <;> simp_all
theorem pt_truM {X : Cx} {P : List Nat} {e : Expr} {o : Opd} (ha : PE X e (tD X.K P o)) (he : ∀ whole, isTrue e X.env whole = (do let v ← whole; standAt e.pos; holding [v] (truthy v)) := by intro _; rfl) : PT X e (tM X.K P (tTru o)) := mkT (pt_truth ha he) fun p0 T σ env H b env' Q sr g hm hQ => by
  obtain ⟨r, e1, h1, h2⟩ := bnd_eq_ok hm
  refine ⟨p0, T, env, r, e1, sr, g, h1, fun x H1 ox sr1 g1 => ?_⟩
  cases hg : gv e1 r with
  | none => rw [hg] at h2; cases h2
  | some d =>
    rw [hg] at h2
    obtain ⟨h3, rfl⟩ := ofO_eq_ok h2
    have hv := view_of sr1 ox (fun w e => by subst e; exact List.mem_cons_self) hg
    have done : SR X.K P p0 T σ env' H1 := by
      cases r with
      | inl i => exact sr1
      | inr w => exact sr1.drop
    refine ⟨b, ?_, hQ H1 fun _ => done⟩
    cases d with
    | none => cases h3; rw [hv.none sr1.rels]; rfl
    | bool c => cases h3; rw [hv.bool sr1.rels]; rfl
    | int i => cases h3; rw [hv.int sr1.rels]; rfl
    | str z =>
      simp only [truD] at h3
      split at h3
      · rename_i hz
        cases h3
        rw [hv.str sr1.rels]
        exact ⟨by rw [sizeLine_eq]; exact hz, rfl⟩
      · cases h3
    | list xs =>
      cases h3
      obtain ⟨a, us, rfl, hs, hd⟩ := hv.list sr1.rels
      exact .inl ⟨us, hs, by rw [dats_empty hd]⟩
    | tuple xs =>
      cases h3
      obtain ⟨a, us, rfl, hs, _, hd⟩ := hv.tuple sr1.rels
      exact .inr (.inl ⟨us, hs, by rw [dats_empty hd]⟩)
    | dict _ => cases h3

/-! ### methods of owned lists -/
def mApp : List D → List D → Option (W × List D)
  | xs, [d] => if xs.length < 16777216 then some (.d .none, xs ++ [d]) else none
  | _, _ => none
theorem om_app : OpM K rAppend mApp := fun H L a xs ds ys vs w Q gd rl hd hf hQ => by
  unfold mApp at hf
  split at hf
  · rename_i d
    split at hf
    · rename_i hl
      cases hf
      obtain ⟨v, r, rfl, h1, rfl⟩ := hd
      obtain ⟨b, us, e, h2, h3⟩ := rl.at_ _ List.mem_cons_self
      cases e
      refine ⟨a, us, v, rfl, rfl, h2, by rw [← h3.length, sizeLine_eq]; exact hl, hQ _ _ fun _ => ?_⟩
      have := rl.write (ys := xs ++ [d]) (us := us ++ [v]) (h3.append (Dats.one h1))
      exact this.data rfl
    · cases hf
  · cases hf
end
end Mi
set_option Elab.async false
set_option linter.all false
set_option maxRecDepth 100000
set_option maxHeartbeats 4000000
/-! Mi10: the end of a law by FnG -/
namespace Mi
open PySem PySem.Spec PyProof.Rows L2

/-- the law's call at the caller's around, from its promise -/
theorem lawG {P : Program} {w : World} {K : KK} {mg mb : Str → Option Value} {k : Nat} {fa a : Addr} {fd : FuncData} {x : Str} {sp : Sp} {s1 : Shared} {vs : List Value} {ns : List Int}
    (KX : K.In s1.heap) (hns : s1.heap.Ns mainGlobals mg) (hb : s1.heap.Ns builtinsNs mb) (hbb : ∀ y : Str, y ≠ "__name__" → mb y = bootBuiltins y) (hlim : s1.heap.NoLimit) (hgen : s1.gens = #[])
    (ha : s1.heap.get? a = some { cls := .type "list", data := .seq vs.toArray }) (hi : IntsAre vs ns) (hlen : ns.length ≤ sizeLine) (hr : Room k callerA)
    (F : ∀ base : Heap, K.In base → base.Ns mainGlobals mg → FnG P w K mg base k fa fd [x] sp) (hbind : ∀ (s : Shared) (u : Value), BindsTo s fd ⟨[u], []⟩ [(x, u)])
    (hsp : ∀ H : Hp, Only H → Good K H → SqL K H a (ns.map V.int) → sp [.ref a] H (fun v _ => v = .bl true) E0) :
    codeAny (model P w) callerA (.call (.ref fa) ⟨[.ref a], []⟩) (fun r t => r = .ok (.ret (.bool true)) ∧ OldK s1.heap t.heap ∧ t.os = s1.os ∧ AllBare t.gens) s1 := by
  have rels := vals_ints hi
  have nlen := hi.length
  have main : ∀ H : Hp, Only H → Good K H → SqL K H a (ns.map V.int) → HOk P w H s1.heap → (∀ b, H b ≠ none → b = a) →
      codeAny (model P w) callerA (.call (.ref fa) ⟨[.ref a], []⟩) (fun r t => r = .ok (.ret (.bool true)) ∧ OldK s1.heap t.heap ∧ t.os = s1.os ∧ AllBare t.gens) s1 := by
    intro H only good sq hok at_
    have keepB : ∀ {b : Addr} {o : Obj}, s1.heap.get? b = some o → H b = none → (hidT s1.heap H).get? b = some o := fun e1 e2 => hidT_get e1 e2
    have notA : ∀ {b : Addr} {o : Obj} {es : Array DictEntry} {ep : Nat}, s1.heap.get? b = some o → o.data = .dict es ep → H b = none := by
      intro b o es ep e1 e2
      by_cases hz : H b = none
      · exact hz
      · have e3 := at_ b hz
        subst e3
        rw [ha] at e1
        cases e1
        exact absurd e2 (by intro z; cases z)
    have nsB : ∀ {b : Addr} {m : Str → Option Value}, s1.heap.Ns b m → (hidT s1.heap H).Ns b m := by
      rintro b m ⟨o, es, ep, e1, e2, e3⟩
      exact ⟨o, es, ep, keepB e1 (notA e1 e2), e2, e3⟩
    have KB : K.In (hidT s1.heap H) := fun b o e1 => keepB (KX b o e1) (good b o e1)
    have modB : Mod K mg (hidT s1.heap H) := ⟨KB, nsB hns, ⟨mb, nsB hb, hbb⟩, by
      obtain ⟨mc, q1, q2⟩ := hlim
      exact ⟨mc, nsB q1, q2⟩⟩
    have e0 : Env0 P w K mg (hidT s1.heap H) callerA [] s1 H := ⟨rfl, modB, fun b o e1 => of_hidT e1, Nat.le_of_eq (hidT_size _ _), trivial, fun b hb => absurd hb (List.not_mem_nil), hok, .of_eq hgen⟩
    have run := (F _ KB (nsB hns)).run callerA [] s1 H ⟨[.ref a], []⟩ [.ref a] [.ref a] _ rfl hr e0 (hbind s1 (.ref a)) (.cons rfl .nil) (hsp H only good sq)
    refine codeAny_mono run fun res t hres => ?_
    match res, hres with
    | .ok (.ret u), ⟨v, H2, eos, ebare, un, hok2, rv, ev⟩ =>
      have ev2 : v = .bl true := ev
      subst ev2
      have eu : u = Value.bool true := rv
      subst eu
      refine ⟨rfl, OldK.of_keep (fun b o e1 => ?_), eos, ebare⟩
      by_cases hz : H b = none
      · exact un.keep b o e1 hz (List.not_mem_nil) (List.not_mem_nil)
      · rcases only b with z | ⟨ob, xs, z⟩
        · exact absurd z hz
        · obtain ⟨q1, _⟩ := hok b _ z
          obtain ⟨q2, _⟩ := hok2 b _ (un.frzs b ob _ z)
          rw [e1] at q1
          cases q1
          exact q2
  cases hk : K.lookup a with
  | some o =>
    have e1 := KX a o hk
    rw [ha] at e1
    cases e1
    refine main (fun _ => none) (fun _ => .inl rfl) (fun _ _ _ => rfl) (.inr ⟨_, vs.toArray, _, hk, rfl, rfl, rfl, by rw [List.size_toArray, nlen]; exact hlen, by simpa using rels⟩) (fun b u z => by cases (show (none : Option HO) = some u from z)) (fun b z => absurd rfl z)
  | none =>
    have at1 : ∀ b, (if b = a then some (HO.frz { cls := .type "list", data := .seq vs.toArray } (.lst (ns.map V.int))) else none) ≠ none → b = a := fun b z => by
      by_cases hb : b = a
      · exact hb
      · exact absurd (if_neg hb) z
    refine main (fun b => if b = a then some (.frz { cls := .type "list", data := .seq vs.toArray } (.lst (ns.map V.int))) else none) (fun b => ?_) (fun b o e1 => ?_) (.inl (.inr ⟨_, if_pos rfl⟩)) (fun b u z => ?_) at1
    · by_cases hb : b = a
      · exact .inr ⟨_, _, if_pos hb⟩
      · exact .inl (if_neg hb)
    · refine if_neg ?_
      rintro rfl
      rw [hk] at e1
      cases e1
    · have hb := at1 b (fun q => by
        have z1 : (if b = a then some (HO.frz { cls := .type "list", data := .seq vs.toArray } (.lst (ns.map V.int))) else none) = some u := z
        rw [q] at z1
        cases z1)
      subst hb
      have z2 := (if_pos rfl).symm.trans (show (if b = b then some (HO.frz { cls := .type "list", data := .seq vs.toArray } (.lst (ns.map V.int))) else none) = some u from z)
      cases z2
      exact ⟨ha, by rw [List.length_map]; exact hlen, vs, _, rels, ha⟩
/-- a law whose def keeps spF of its mirror -/
theorem walkG {l : PySem.W.OpenLaw} {n k : Nat} {q : Program} {loose : List Str} {XP : (Str → Option Value) → Heap → Prop} {YP : World → Heap → Prop} {d : DefRec} {x : Str} (hn : l.most = some n) (hn2 : n ≤ sizeLine) (hdf : d.params.defaults = []) (hr : Room k callerA)
    (F : ∀ (w : World) (mg : Str → Option Value) (fa : Addr) (h : Heap), YP w h → h.Ns mainGlobals mg → mg d.name = some (.ref fa) →
      ∃ (K : KK) (fd : FuncData) (G : List W → CRes), K.In h ∧ (∀ (s : Shared) (u : Value), BindsTo s fd ⟨[u], []⟩ [(x, u)]) ∧
        (∀ ns : List Int, ns.length ≤ n → G [.d (.list (ns.map PyData.int))] = .ok (.d (.bool true)) []) ∧
        ∀ base : Heap, K.In base → base.Ns mainGlobals mg → FnG l.prog w K mg base k fa fd [x] (spF K 1 G)) :
    PySem.W.WalkO q loose XP YP l.row.toRowW d [] (fun f vs => PySem.call f vs) := by
  refine Att.attach_call hn hdf fun w s0 s1 mg mb fa o pm cd doc a vs ns G Y ho hd hcd hmg hobj hints hlen hgen => ?_
  obtain ⟨K, fd, G', KX, hbd, hG, hF⟩ := F w mg fa _ Y G.T.g hmg
  refine lawG KX G.T.g G.T.b G.T.builtins G.T.nolimit hgen hobj hints (Nat.le_trans hlen hn2) hr hF hbd fun H _ good sq => ?_
  have dt : Dat K H [] (.list (ns.map PyData.int)) (.ref a) := ⟨a, _, rfl, sq, List.not_mem_nil, dats_ints⟩
  refine ⟨[], [.d (.list (ns.map PyData.int))], .d (.bool true), [], rfl, rfl, ?_, good, hG ns hlen, fun v H2 r => ?_⟩
  · exact Rels.data (L := []) ⟨List.nodup_nil, fun p hp => by cases hp⟩ dt
  · exact r.at_ _ List.mem_cons_self

/-! ### a list times an int -/
def eRep (a b : ME) : ME := fun e => bnd (a e) fun w e1 => bnd (b e1) fun w2 e2 => match w with
  | .l xs => (match vw w2 with
    | .int k => if -9223372036854775808 ≤ k ∧ k < 9223372036854775808 ∧ xs.length * k.toNat ≤ 16777216 then .ok (.l (List.replicate k.toNat xs).flatten) e2 else .no
    | _ => .no)
  | _ => .no
theorem dats_rep {K : KK} {H : Hp} {O : List Addr} {xs : List D} {vs : List V} (h : Dats K H O xs vs) : ∀ n : Nat, Dats K H O (List.replicate n xs).flatten (List.replicate n vs).flatten
  | 0 => rfl
  | n + 1 => by
    simp only [List.replicate_succ, List.flatten_cons]
    exact h.append (dats_rep h n)
theorem pe_repM {X : Cx} {P : List Nat} {a b : Expr} {pos : Pos} {ma mb : ME} (ha : PE X a (tE X.K P ma)) (hb : PE X b (tE X.K P mb)) : PE X (.BinOp a .Mult b pos) (tE X.K P (eRep ma mb)) := mkE (pe_op op_rep ha hb) fun p0 T σ env H w env' Q sr g hm hQ => by
  obtain ⟨w1, e1, h1, hm⟩ := bnd_eq_ok hm
  obtain ⟨w2, e2, h2, hm⟩ := bnd_eq_ok hm
  refine ⟨p0, T, env, w1, e1, sr, g, h1, fun v H1 sr1 g1 => ⟨p0, (v, w1) :: T, e1, w2, e2, sr1, g1, h2, fun u H2 sr2 g2 => ?_⟩⟩
  cases w1 with
  | d x => cases hm
  | l xs =>
    dsimp only at hm
    split at hm
    · rename_i k hk
      split at hm
      · rename_i hc
        cases hm
        have := vw_int hk
        subst this
        have hu : u = .int k := sr2.top.at_ _ List.mem_cons_self
        have sr3 := sr2.drop
        obtain ⟨l, us, rfl, hl, hd⟩ := sr3.top.at_ _ List.mem_cons_self
        refine ⟨l, k, us, rfl, hu, hl, hc.1, hc.2.1, by rw [← hd.length, sizeLine_eq]; exact hc.2.2, fun p hp => hQ _ _ fun g3 => ?_⟩
        have r := sr3.rels.newOwn hp (newK g3) ((dats_rep hd k.toNat).to (fun _ _ _ z => z) fun b z => ((List.perm_middle (a := (V.ref l, W.l xs)) (l₁ := pr σ env') (l₂ := T)).filterMap ow).mem_iff.mp z)
        exact (sr3.push r).sub (List.Sublist.cons_cons _ (List.sublist_cons_self _ _))
      · cases hm
    · cases hm
def mIns : List D → List D → Option (W × List D)
  | xs, [.int i, d] => if xs.length < 16777216 ∧ 0 ≤ i ∧ i < 9223372036854775808 then some (.d .none, xs.take i.toNat ++ d :: xs.drop i.toNat) else none
  | _, _ => none
theorem om_ins {K : KK} : OpM K (fun x vs H Q => ∃ (l : Addr) (xs : List V) (i : Int) (y : V), x = .ref l ∧ vs = [.int i, y] ∧ H l = some (.lst xs) ∧ xs.length < sizeLine ∧ 0 ≤ i ∧ i < 2 ^ 63 ∧ Q V.non (upd H l (.lst (xs.take i.toNat ++ [y] ++ xs.drop i.toNat)))) mIns := fun H L a xs ds ys vs w Q gd rl hd hf hQ => by
  unfold mIns at hf
  split at hf
  · rename_i i d
    split at hf
    · rename_i hl
      cases hf
      obtain ⟨v, r, rfl, h1, u, r2, rfl, h2, rfl⟩ := hd
      obtain ⟨b, us, e, h3, h4⟩ := rl.at_ _ List.mem_cons_self
      cases e
      have hv : v = .int i := h1
      subst hv
      refine ⟨a, us, i, u, rfl, rfl, h3, by rw [← h4.length, sizeLine_eq]; exact hl.1, hl.2.1, hl.2.2, hQ _ _ fun _ => ?_⟩
      have := rl.write (ys := xs.take i.toNat ++ d :: xs.drop i.toNat) (us := us.take i.toNat ++ [u] ++ us.drop i.toNat) (by
        rw [List.append_assoc]
        exact (h4.take _).append ((Dats.one h2).append (h4.drop _)))
      exact this.data rfl
    · cases hf
  · cases hf
end Mi
set_option Elab.async false
set_option linter.all false
set_option maxRecDepth 100000
set_option maxHeartbeats 4000000
/-! Mi11: short words for printed derivations -/
namespace Mi
open PySem PySem.Spec PyProof.Rows L2

/-- a def that may be called: the name x, C's number c, n parameters -/
def Cal (P : Program) (w : World) (K : KK) (mg : Str → Option Value) (base : Heap) (lv : Nat) (C : Orc) (x : Str) (c n : Nat) : Prop :=
  ∃ (f : Addr) (fd : FuncData) (ps : List Str), mg x = some (.ref f) ∧ PySem.W.keepIn K (.ref f) = true ∧ Binds K fd ps [] ∧ FnG P w K mg base lv f fd ps (spF K n (C c))
/-- what a def's body may lean on -/
structure Ok (A : Around) (lv : Nat) : Prop where
  gd : A.guards = some []
  rm : Room lv A
section
variable {X : Cx} {P : List Nat} {e : Expr} {lv : Nat}
theorem pe_fn {C : Orc} {c n : Nat} {x : Str} {p pos : Pos} {es : List Expr} {as : List Arg} (o : Ok X.A lv) (h : Cal X.prog X.w X.K X.mg X.base lv C x c n) (hn : as.length = n) (hg : Gl X x) (ha : PA X (e :: es) (tG X.K P as)) (hdb : (x == ("__debug__" : Str)) = false := by decide)
    (he : starEach (e :: es) X.env = (false, eval e X.env) :: starEach es X.env := by rfl) (hpl : (backTo pos (starEach es X.env)).any (·.1) = false := by rfl) : PE X (.Call (.Name x p) (e :: es) [] pos) (tE X.K P (eCall C c as)) := by
  obtain ⟨f, fd, ps, h1, h2, h3, h4⟩ := h
  exact pe_callM h4 (by simpa using hn) o.gd o.rm hg h1 h2 h3 .nil rfl ha hdb he hpl
def tO2 (f : D → D → Option Bool) (a b : Opd) : MT := fun e => bnd (a.run e) fun r e1 => bnd (b.run e1) fun r2 e2 => match gv e2 r with
  | some x => (match gv e2 r2 with
    | some y => ofO (f x y) e2
    | none => .no)
  | none => .no
theorem pt_o2 {r : R2} {f : D → D → Option Bool} {oa ob : Opd} (ho : Op2B X.K r f) (h : PT X e (tTest (tOp r (tD X.K P oa) (tD X.K P ob)))) : PT X e (tM X.K P (tO2 f oa ob)) := mkT h fun p0 T σ env H b env' Q sr g hm hQ => by
  obtain ⟨ra, e2, h1, hm⟩ := bnd_eq_ok hm
  refine ⟨p0, T, env, ra, e2, sr, g, h1, fun x H1 ox sr1 g1 => ?_⟩
  obtain ⟨rb, e3, h2, hm⟩ := bnd_eq_ok hm
  refine ⟨p0, held T x ra, e2, rb, e3, sr1, g1, h2, fun y H2 oy sr2 g2 => ?_⟩
  cases hg : gv e3 ra with
  | none => rw [hg] at hm; cases hm
  | some d =>
    rw [hg] at hm
    cases hg2 : gv e3 rb with
    | none => rw [hg2] at hm; cases hm
    | some d2 =>
      rw [hg2] at hm
      obtain ⟨h3, rfl⟩ := ofO_eq_ok hm
      have done : SR X.K P p0 T σ env' H2 := by
        cases ra <;> cases rb
        · exact sr2
        · exact sr2.drop
        · exact sr2.drop
        · exact sr2.drop.drop
      refine ho H2 _ x y d d2 b (fun v H3 => ∃ k, v = .bl k ∧ Q k H3) g2 sr2.rels (view_of sr2 ox (fun w e => ?_) hg) (view_of sr2 oy (fun w e => by subst e; exact List.mem_cons_self) hg2) h3 ⟨b, rfl, hQ H2 fun _ => done⟩
      subst e
      cases rb with
      | inl i => exact List.mem_cons_self
      | inr w' => exact List.mem_cons_of_mem _ List.mem_cons_self
theorem PI.or {tg iter : Expr} {w1 w2 : TI} (h1 : PI X tg iter w1) (h2 : PI X tg iter w2) : PI X tg iter (fun σ H R => w1 σ H R ∨ w2 σ H R) := by
  refine ⟨fun pins s σ H R I h => ?_⟩
  rcases h with h | h
  · exact h1.run pins s σ H R I h
  · exact h2.run pins s σ H R I h
/-- a list or a tuple -/
def iAny (m : ME) : MI := fun e => bnd (m e) fun w e1 => match vw w with
  | .list xs => .ok xs e1
  | .tuple xs => .ok xs e1
  | _ => .no
theorem pi_anyM {tg iter : Expr} {m : ME} (h : PE X iter (tE X.K P m)) (h1 : ∀ te, PE X iter te → PI X tg iter (iList X.K te) := by exact fun te h => pi_list h) (h2 : ∀ te, PE X iter te → PI X tg iter (iTup X.K te) := by exact fun te h => pi_tup h) : PI X tg iter (tI X.K P (iAny m)) :=
  mkI (PI.or (h1 _ h) (h2 _ h)) fun p0 T σ env H xs env' R sr g hm hR => by
    obtain ⟨w, e1, h1, hm⟩ := bnd_eq_ok hm
    split at hm
    · rename_i ys hw
      cases hm
      refine .inl ⟨p0, T, env, w, _, sr, g, h1, fun v H1 sr1 g1 => ?_⟩
      have sr1 := sr1.fz
      rw [hw] at sr1
      have q := sr1.top.at_ _ List.mem_cons_self
      simp only [RW, Dat] at q
      obtain ⟨a, vs, rfl, hs, _, hd⟩ := q
      exact ⟨a, rfl, ⟨vs, hs⟩, hR _ [(.ref a, .d (.list xs))] H1 itOk_list fun _ => sr1⟩
    · rename_i ys hw
      cases hm
      refine .inr ⟨p0, T, env, w, _, sr, g, h1, fun v H1 sr1 g1 => ?_⟩
      have sr1 := sr1.fz
      rw [hw] at sr1
      have q := sr1.top.at_ _ List.mem_cons_self
      simp only [RW, Dat] at q
      obtain ⟨a, vs, rfl, hs, _, hd⟩ := q
      exact ⟨a, rfl, ⟨vs, hs⟩, hR _ [(.ref a, .d (.tuple xs))] H1 itOk_tup fun _ => sr1⟩
    · cases hm
end
end Mi
namespace Mi
open PySem PySem.Spec PyProof.Rows L2
theorem Ok.un65 {A : Around} {lv : Nat} (o : Ok A lv) : A.units + 65 < cLine := by
  have h := o.rm.un
  omega
theorem Ok.un66 {A : Around} {lv : Nat} (o : Ok A lv) : A.units + 66 < cLine := by
  have h := o.rm.un
  omega
end Mi

namespace Mi
open PySem PySem.Spec PyProof.Rows L2
section
variable {P : Program} {w : World} {K : KK} {mg : Str → Option Value} {base : Heap} {x qual : Str} {params : Arguments} {body : List Stmt} {scope : Scope} {f : Addr} {fd : FuncData} {C : Orc} {c np : Nat} {ps : List Str} {dvs : List V} {kws : List (Str × V)}
theorem Cal.zero (hC : ∀ ws, C c ws = .no) (hm : mg x = some (.ref f)) (hk : PySem.W.keepIn K (.ref f) = true) (hb : Binds K fd ps []) (hn : ps.length = np) : Cal P w K mg base 0 C x c np := by
  refine ⟨f, fd, ps, hm, hk, hb, fun vs H Q E h => ?_, fun A outer s H args us vs Q _ _ _ _ _ h => ?_⟩
  · obtain ⟨_, _, _, _, e, _⟩ := h
    rw [hn]; exact e
  · obtain ⟨T, ws, wr, outs, _, _, _, _, e, _⟩ := h
    rw [hC] at e
    cases e
theorem Cal.succ {N : List Str} {k n : Nat} {Pl : List Nat} {m : MS} (hm : mg x = some (.ref f)) (F : FunD K x qual params body scope dvs kws f fd) (hb : Binds K fd ps []) (S : FnScope N ps scope) (hn : ps.length = np) (hN : N.length = n) (hC : C c = runF np n Pl m)
    (hbody : ∀ (cdv : Value) (A : Around) (outer : List PySem.Env) (s : Shared) (H : Hp), Ok (A.deeper (envOfC qual scope s.heap.objs.size f cdv)) k →
      PSs (cxOf CX0 P w K mg base N qual scope f cdv A outer s H E0).nox body (tS K Pl m)) : Cal P w K mg base (k + 1) C x c np :=
  ⟨f, fd, ps, hm, F.kp, hb, fnM F S hn hN hC fun cdv A outer s H hg hr => (hbody cdv A outer s H ⟨hg, hr⟩).nox⟩
theorem lawF {N : List Str} {k n : Nat} {Pl : List Nat} {m : MS} (F : FunD K x qual params body scope dvs kws f fd) (S : FnScope N ps scope) (hn : ps.length = np) (hN : N.length = n) (hC : C c = runF np n Pl m)
    (hbody : ∀ (cdv : Value) (A : Around) (outer : List PySem.Env) (s : Shared) (H : Hp), Ok (A.deeper (envOfC qual scope s.heap.objs.size f cdv)) k →
      PSs (cxOf CX0 P w K mg base N qual scope f cdv A outer s H E0).nox body (tS K Pl m)) : FnG P w K mg base (k + 1) f fd ps (spF K np (C c)) :=
  fnM F S hn hN hC fun cdv A outer s H hg hr => (hbody cdv A outer s H ⟨hg, hr⟩).nox
end
end Mi
set_option Elab.async false
set_option linter.all false
set_option maxRecDepth 100000
set_option maxHeartbeats 4000000
namespace Ob
open PySem PySem.SeqAt
open PySem.AutoSeq1 (wpAny_loadPart')
open PySem.MeetsSeq PySem.MeetsSeq2 PySem.MeetsSeq3
theorem tuple_mul1 (l : Addr) (items : Array Value) (n : Nat) (dd : Option Addr) (sl : Array (Option Value)) (u : Tok) :
    Meets (Builtin.«tuple.__mul__» ⟨[.ref l, .int 1 u], []⟩) (fun _ R s => s.heap.get? l = some { cls := .type "tuple", dict := dd, data := .seq items n, slots := sl } ∧ R (.ok (.ret (Value.ref l))) s) :=
  .of_wp fun prog w A R s h => by
    obtain ⟨hp, g, d, tk, os⟩ := s
    obtain ⟨hl, h⟩ := h
    have f1 := AutoSeq1.idx_int
    wp_walk using wpAny_loadPart' hl
    exact ⟨_, rfl, h⟩
end Ob
/-! Mi12: name op= e of ints, the order of data, a repeated tuple -/
namespace Mi
open PySem PySem.Spec PyProof.Rows L2
/-! ### name op= e -/
def kAug (i : Nat) (g : Int → Int → Int) : Option W → Res W → Res Out
  | some (.d (.int x)), .ok w e1 => (match vw w with
    | .int y => .ok .nx (e1.set i (some (.d (.int (g x y)))))
    | _ => .no)
  | some (.d (.int _)), .ex x e => .ex x e
  | _, _ => .no
def sAug (i : Nat) (g : Int → Int → Int) (m : ME) : MS := fun e => kAug i g (e.getD i none) (m e)
section
variable {X : Cx} {P : List Nat}
theorem ps_augM {i : Nat} {x : Str} {g : Int → Int → Int} {m : ME} {e : Expr} {op : Operator} {pos pos' : Pos} (hN : X.N.Nodup) (hP : P.contains i = false) (hi : X.N[i]? = some x) (hx : Loc X.env.scope x) (ho : PIp X op (ipI g)) (he : PE X e (tE X.K P m))
    (hf : X.fn x = true ∨ X.env.scope.names.lookup x = some .local := by first | exact .inl rfl | exact .inr rfl | assumption) : PS X (.AugAssign (.Name x pos') op e pos) (tS X.K P (sAug i g m)) := mkS (ps_aug hN hi hx he ho hf) fun p0 T σ env H o env' D sr gd hl hm hQ => by
  have hP' : i ∉ P := fun z => by rw [List.contains_iff_mem.mpr z] at hP; cases hP
  unfold sAug at hm
  cases he0 : env.getD i none with
  | none => rw [he0] at hm; cases hm
  | some w0 =>
  rw [he0] at hm
  obtain ⟨v0, hv0⟩ := sr.cov i w0 he0
  have q0 := sr.val hv0 he0
  cases w0 with
  | l xs => cases hm
  | d d0 =>
  cases d0 with
  | int k =>
    have e0 : v0 = .int k := by simpa only [RW, Dat] using q0
    subst e0
    refine ⟨.int k, hv0, ?_⟩
    cases hr : m env with
    | ok w e1 =>
      rw [hr] at hm
      simp only [kAug] at hm
      split at hm
      · rename_i y hw
        cases hm
        refine ⟨p0, T, env, w, e1, sr, gd, hr, fun v H1 sr1 g1 => ?_⟩
        have sr2 := sr1.fz
        rw [hw] at sr2
        have q := sr2.top.at_ _ List.mem_cons_self
        have ev : v = .int y := by simpa only [RW, Dat] using q
        subst ev
        refine ⟨k, y, rfl, rfl, hQ _ H1 fun _ => ?_⟩
        have sr3 : SR X.K P p0 ((.int (g k y), .d (.int (g k y))) :: T) σ e1 H1 := sr1.drop.push (sr1.drop.rels.data rfl)
        exact sr3.store (by rw [hl]; exact (List.getElem?_eq_some_iff.mp hi).1) hP'
      · cases hm
    | ex x e1 => rw [hr] at hm; cases hm
    | no => rw [hr] at hm; cases hm
  | none => cases hm
  | bool b => cases hm
  | str b => cases hm
  | list b => cases hm
  | tuple b => cases hm
  | dict b => cases hm
end
/-! ### the order of data -/
section
variable {X : Cx} {K : KK}
open PySem.W in
def rOrdD (K : KK) (f : D → D → Bool) : R2 := fun x y H Q => ∃ d e, Dp K H x d ∧ Dp K H y e ∧ alike d e = true ∧ d ≠ .none ∧ min d.depth e.depth ≤ 64 ∧ Q (.bl (f d e)) H
open PySem.W in
theorem op_ltD (hu : X.A.units + 65 < cLine) : OpR X (compareOp .Lt) (rOrdD X.K fun d e => dataLt d e) := by
  intro pins s σ H x y v u Q I rx ry h
  obtain ⟨d, e, hd, he, ha, hn, hz, q⟩ := h
  obtain ⟨as, r1⟩ := Dp.reads I d x v hd rx
  obtain ⟨bs, r2⟩ := Dp.reads I e y u he ry
  exact lt_data r1 r2 ha hn (by omega) ⟨.bl _, H, I, rfl, q⟩
open PySem.W in
theorem op_gtD (hu : X.A.units + 65 < cLine) : OpR X (compareOp .Gt) (rOrdD X.K fun d e => dataLt e d) := by
  intro pins s σ H x y v u Q I rx ry h
  obtain ⟨d, e, hd, he, ha, hn, hz, q⟩ := h
  obtain ⟨as, r1⟩ := Dp.reads I d x v hd rx
  obtain ⟨bs, r2⟩ := Dp.reads I e y u he ry
  exact gt_data r1 r2 ha hn (by omega) ⟨.bl _, H, I, rfl, q⟩
open PySem.W in
theorem op_leD (hu : X.A.units + 65 < cLine) : OpR X (compareOp .LtE) (rOrdD X.K fun d e => !dataLt e d) := by
  intro pins s σ H x y v u Q I rx ry h
  obtain ⟨d, e, hd, he, ha, hn, hz, q⟩ := h
  obtain ⟨as, r1⟩ := Dp.reads I d x v hd rx
  obtain ⟨bs, r2⟩ := Dp.reads I e y u he ry
  exact le_data r1 r2 ha hn (by omega) ⟨.bl _, H, I, rfl, q⟩
open PySem.W in
theorem op_geD (hu : X.A.units + 65 < cLine) : OpR X (compareOp .GtE) (rOrdD X.K fun d e => !dataLt d e) := by
  intro pins s σ H x y v u Q I rx ry h
  obtain ⟨d, e, hd, he, ha, hn, hz, q⟩ := h
  obtain ⟨as, r1⟩ := Dp.reads I d x v hd rx
  obtain ⟨bs, r2⟩ := Dp.reads I e y u he ry
  exact ge_data r1 r2 ha hn (by omega) ⟨.bl _, H, I, rfl, q⟩
/-- ordered: two ints, or two data that are alike -/
def cOrd (p : Int → Int → Bool) (f : D → D → Bool) (x y : D) : Option Bool := match x, y with
  | .int i, .int j => some (p i j)
  | x, y => if PySem.W.alike x y = true ∧ isNone x = false ∧ min x.depth y.depth ≤ 64 then some (f x y) else none
theorem cOrd_int (p : Int → Int → Bool) (f : D → D → Bool) (i j : Int) : cOrd p f (.int i) (.int j) = some (p i j) := rfl
theorem op_ordM {p : Int → Int → Bool} {f : D → D → Bool} : Op2B K (fun x y H Q => rI0 (fun i j => V.bl (p i j)) x y H Q ∨ rOrdD K f x y H Q) (cOrd p f) := fun H L x y dx dy b Q gd rl hx hy hf hQ => by
  unfold cOrd at hf
  split at hf
  · cases hf
    have ex := hx.int rl
    have ey := hy.int rl
    subst ex ey
    exact .inl ⟨_, _, rfl, rfl, hQ⟩
  · split at hf
    · rename_i hc
      cases hf
      exact .inr ⟨_, _, hx.dp rl, hy.dp rl, hc.1, fun e => by rw [e] at hc; exact absurd hc.2.1 (by simp), hc.2.2, hQ⟩
    · cases hf
abbrev dLt := cOrd (fun i j => decide (i < j)) fun d e => PySem.W.dataLt d e
abbrev dGt := cOrd (fun i j => decide (j < i)) fun d e => PySem.W.dataLt e d
abbrev dLe := cOrd (fun i j => decide (i ≤ j)) fun d e => !PySem.W.dataLt e d
abbrev dGe := cOrd (fun i j => decide (j ≤ i)) fun d e => !PySem.W.dataLt d e
theorem op_ltX (hu : X.A.units + 65 < cLine) : OpR X (compareOp .Lt) (fun x y H Q => rI0 (fun i j => V.bl (decide (i < j))) x y H Q ∨ rOrdD X.K (fun d e => PySem.W.dataLt d e) x y H Q) := OpR.or op_lt (op_ltD hu)
theorem op_gtX (hu : X.A.units + 65 < cLine) : OpR X (compareOp .Gt) (fun x y H Q => rI0 (fun i j => V.bl (decide (j < i))) x y H Q ∨ rOrdD X.K (fun d e => PySem.W.dataLt e d) x y H Q) := OpR.or op_gt (op_gtD hu)
theorem op_leX (hu : X.A.units + 65 < cLine) : OpR X (compareOp .LtE) (fun x y H Q => rI0 (fun i j => V.bl (decide (i ≤ j))) x y H Q ∨ rOrdD X.K (fun d e => !PySem.W.dataLt e d) x y H Q) := OpR.or op_le (op_leD hu)
theorem op_geX (hu : X.A.units + 65 < cLine) : OpR X (compareOp .GtE) (fun x y H Q => rI0 (fun i j => V.bl (decide (j ≤ i))) x y H Q ∨ rOrdD X.K (fun d e => !PySem.W.dataLt d e) x y H Q) := OpR.or op_ge (op_geD hu)
end
/-! ### a tuple times an int -/
section
variable {X : Cx} {K : KK}
def rRep1 (K : KK) : R2 := fun x y H Q => ∃ l xs, x = .ref l ∧ y = .int 1 ∧ SqT K H l xs ∧ Q (.ref l) H
theorem op_rep1 : OpR X (binaryOp .Mult) (rRep1 X.K) := by
  intro pins s σ H x y v u Q I rx ry h
  obtain ⟨l, xs, rfl, rfl, hT, q⟩ := h
  cases rx
  obtain ⟨t, rfl⟩ := ry
  obtain ⟨its, r, ⟨⟨cls, dd, data, sl⟩, ho, hc, n, hd⟩, hs⟩ := I.tuple hT
  simp only at hc hd
  subst hc hd
  exact wpAny_binaryOp_repeat_ref (T := "tuple") (U := "int") (by decide) ⟨_, ho, rfl⟩ (fun s' => typeIs_int s' 1 t) noFill_tuple_mul F.fills_int_mul F.slot_int_rmul repeat_tuple F.slot_int_index.lookup
    (call_meets F.slot_int_rmul (typeIs_int s 1 t) F.entry_int_rmul (F.args_int_rmul_2 _ _) (int_rmul_tuple 1 t l its.toArray n dd sl)
      ⟨ho, rfl, ⟨_, ho, rfl⟩, call_meets F.slot_tuple_mul ⟨_, ho, rfl⟩ F.entry_tuple_mul (F.args_tuple_mul_2 _ _) (Ob.tuple_mul1 l its.toArray n dd sl t) ⟨ho, V.ref l, H, I, rfl, q⟩⟩)
theorem op_repX : OpR X (binaryOp .Mult) (fun x y H Q => rRep1 X.K x y H Q ∨ rRepT X.K x y H Q) := OpR.or op_rep1 op_repT
def fRepT : D → D → Option W
  | .tuple xs, .int k => if k = 1 then some (.d (.tuple xs)) else if 2 ≤ k ∧ k ≤ 1000 ∧ xs.length ≤ 1000 ∧ xs.isEmpty = false then some (.d (.tuple (List.replicate k.toNat xs).flatten)) else none
  | _, _ => none
theorem op_repTM : Op2 K (fun x y H Q => rRep1 K x y H Q ∨ rRepT K x y H Q) fRepT := fun H L x y dx dy w Q gd rl hx hy hf hQ => by
  cases dx <;> cases dy <;> simp only [fRepT] at hf <;> try cases hf
  rename_i xs k
  obtain ⟨a, vs, rfl, hs, ha, hd⟩ := hx.tuple rl
  have ey := hy.int rl
  subst ey
  split at hf
  · rename_i hk
    cases hf
    subst hk
    exact .inl ⟨a, vs, rfl, rfl, hs, hQ _ H fun _ => rl.data ⟨a, vs, rfl, hs, ha, hd⟩⟩
  · split at hf
    · rename_i hc
      cases hf
      refine .inr ⟨a, k, vs, rfl, rfl, hs, fun e => ?_, hc.1, hc.2.1, by rw [← hd.length]; exact hc.2.2.1, fun p hp => hQ _ _ fun g => rl.newTup hp (newK g) (dats_rep hd k.toNat)⟩
      subst e
      have := hd.length
      cases xs with
      | nil => exact absurd hc.2.2.2 (by simp)
      | cons _ _ => simp at this
    · cases hf
end
end Mi
set_option Elab.async false
set_option linter.all false
set_option maxRecDepth 100000
set_option maxHeartbeats 4000000
/-! Ev: mirrors run from the left; what is not yet run stays a term -/
namespace Mi
open PySem L2
section
variable {α β : Type}
/-! ### contexts -/
def kS (b : MS) : Res Out → Res Out
  | .ok .nx e => b e
  | .ok .bk e => .ok .bk e
  | .ok .ct e => .ok .ct e
  | .ok (.rt w) e => .ok (.rt w) e
  | .ex x e => .ex x e
  | .no => .no
def kIf {α : Type} (a b : Env → Res α) : Res Bool → Res α
  | .ok true e => a e
  | .ok false e => b e
  | .ex x e => .ex x e
  | .no => .no
def kM {α β : Type} (f : α → β) : Res α → Res β
  | .ok a e => .ok (f a) e
  | .ex x e => .ex x e
  | .no => .no
def kSet (i : Nat) : Res W → Res Out
  | .ok w e => .ok .nx (e.set i (some w))
  | .ex x e => .ex x e
  | .no => .no
def kTg (t : Tg) : Res W → Res Out
  | .ok w e => (match t (vw w) e with
    | some e2 => .ok .nx e2
    | none => .no)
  | .ex x e => .ex x e
  | .no => .no
def kAnd (b : MT) : Res Bool → Res Bool
  | .ok true e => b e
  | .ok false e => .ok false e
  | .ex x e => .ex x e
  | .no => .no
def kOr (b : MT) : Res Bool → Res Bool
  | .ok false e => b e
  | .ok true e => .ok true e
  | .ex x e => .ex x e
  | .no => .no
def kAndE (b : ME) : Res W → Res W
  | .ok w e => (match vw w with
    | .bool true => b e
    | .bool false => .ok (.d (.bool false)) e
    | _ => .no)
  | .ex x e => .ex x e
  | .no => .no
def kOrE (b : ME) : Res W → Res W
  | .ok w e => (match vw w with
    | .bool true => .ok (.d (.bool true)) e
    | .bool false => b e
    | _ => .no)
  | .ex x e => .ex x e
  | .no => .no
def kNotE : Res W → Res W
  | .ok w e => (match vw w with
    | .bool c => .ok (.d (.bool (!c))) e
    | _ => .no)
  | .ex x e => .ex x e
  | .no => .no
def oVr (i : Nat) (e : Env) : Option W → Res (Nat ⊕ W)
  | some _ => .ok (.inl i) e
  | none => .no
def kO1 (f : D → Option W) : Res (Nat ⊕ W) → Res W
  | .ok r e => (match gv e r with
    | some d => ofO (f d) e
    | none => .no)
  | .ex x e => .ex x e
  | .no => .no
def g2 {α : Type} (f : D → D → Option α) (e : Env) : Option D → Option D → Res α
  | some x, some y => ofO (f x y) e
  | _, _ => .no
def kO2' {α : Type} (f : D → D → Option α) (r : Nat ⊕ W) : Res (Nat ⊕ W) → Res α
  | .ok r2 e => g2 f e (gv e r) (gv e r2)
  | .ex x e => .ex x e
  | .no => .no
def kO2 {α : Type} (f : D → D → Option α) (b : Opd) : Res (Nat ⊕ W) → Res α
  | .ok r e => kO2' f r (b.run e)
  | .ex x e => .ex x e
  | .no => .no
def kL' (r : Nat ⊕ W) : Res (List (Nat ⊕ W)) → Res (List (Nat ⊕ W))
  | .ok rs e => .ok (r :: rs) e
  | .ex x e => .ex x e
  | .no => .no
def kL (os : List Opd) : Res (Nat ⊕ W) → Res (List (Nat ⊕ W))
  | .ok r e => kL' r (evL os e)
  | .ex x e => .ex x e
  | .no => .no
def gB (f : List D → Option W) (e : Env) : Option (List D) → Res W
  | some ds => ofO (f ds) e
  | none => .no
def kB (f : List D → Option W) : Res (List (Nat ⊕ W)) → Res W
  | .ok rs e => gB f e (gvL e rs)
  | .ex x e => .ex x e
  | .no => .no
def kT' (d : D) : Res (List D) → Res (List D)
  | .ok ds e => .ok (d :: ds) e
  | .ex x e => .ex x e
  | .no => .no
def kT (ms : List ME) : Res W → Res (List D)
  | .ok w e => kT' (vw w) (evT ms e)
  | .ex x e => .ex x e
  | .no => .no
def kG' (d : Nat ⊕ D) : Res (List (Nat ⊕ D)) → Res (List (Nat ⊕ D))
  | .ok ds e => .ok (d :: ds) e
  | .ex x e => .ex x e
  | .no => .no
def kG (ms : List Arg) : Res W → Res (List (Nat ⊕ D))
  | .ok w e => kG' (.inr (vw w)) (evG ms e)
  | .ex x e => .ex x e
  | .no => .no
def gG (i : Nat) (as : List Arg) (e : Env) : Option W → Res (List (Nat ⊕ D))
  | some _ => kG' (.inl i) (evG as e)
  | none => .no
def kP (w : W) : Option Env → Res W
  | some e => .ok w e
  | none => .no
def kPx (x : Exn) : Option Env → Res W
  | some e => .ex x e
  | none => .no
def kC2 (rs : List (Nat ⊕ D)) (e : Env) : CRes → Res W
  | .ok w outs => kP w (putO rs outs e)
  | .ex x outs => kPx x (putO rs outs e)
  | .no => .no
def kC1 (C : Orc) (k : Nat) (rs : List (Nat ⊕ D)) : Option (List W × Env) → Res W
  | some p => kC2 rs p.2 (C k p.1)
  | none => .no
def kC (C : Orc) (k : Nat) : Res (List (Nat ⊕ D)) → Res W
  | .ok rs e => kC1 C k rs (takeA rs e)
  | .ex x e => .ex x e
  | .no => .no
def gPut (i : Nat) (w wi : W) (e : Env) : Option W → Res Out
  | some (.l xs) => (match vw wi with
    | .int k => (match ixN xs.length k with
      | some j => .ok .nx (e.set i (some (.l (xs.set j (vw w)))))
      | none => .no)
    | _ => .no)
  | _ => .no
def kPut2 (i : Nat) (w : W) : Res W → Res Out
  | .ok wi e => gPut i w wi e (e.getD i none)
  | .ex x e => .ex x e
  | .no => .no
def kPut1 (i : Nat) (mi : ME) : Res W → Res Out
  | .ok w e => if isL (e.getD i none) = true then kPut2 i w (mi e) else .no
  | .ex x e => .ex x e
  | .no => .no
def gMu (f : List D → List D → Option (W × List D)) (i : Nat) (ds : List D) (e : Env) : Option W → Res W
  | some (.l xs) => (match f xs ds with
    | some p => .ok p.1 (e.set i (some (.l p.2)))
    | none => .no)
  | _ => .no
def kMu (f : List D → List D → Option (W × List D)) (i : Nat) : Res (List D) → Res W
  | .ok ds e => gMu f i ds e (e.getD i none)
  | .ex x e => .ex x e
  | .no => .no
def kFor (tg : Tg) (b : MS) : Res (List D) → Res Out
  | .ok xs e => forL tg b xs e
  | .ex x e => .ex x e
  | .no => .no
def kFor1 (tg : Tg) (b : MS) (xs : List D) : Res Out → Res Out
  | .ok .nx e => forL tg b xs e
  | .ok .ct e => forL tg b xs e
  | .ok .bk e => .ok .nx e
  | .ok (.rt w) e => .ok (.rt w) e
  | .ex x e => .ex x e
  | .no => .no
def kFor0 (tg : Tg) (b : MS) (xs : List D) : Option Env → Res Out
  | some e => kFor1 tg b xs (b e)
  | none => .no
def kLc (tg : Tg) (tt : MT) (te : ME) (vs : List Nat) : Res (List D) → Res W
  | .ok xs e => if xs.length < 16777216 then kM W.l (cmpL tg tt te vs xs (wipeE e vs)) else .no
  | .ex x e => .ex x e
  | .no => .no
def kSeqI : Res W → Res (List D)
  | .ok w e => (match vw w with
    | .list xs => .ok xs e
    | .tuple xs => .ok xs e
    | _ => .no)
  | .ex x e => .ex x e
  | .no => .no
def kR1 : Res W → Res (List D)
  | .ok w e => (match vw w with
    | .int j => if -4611686018427387904 ≤ j ∧ j < 4611686018427387904 then .ok (rng 0 j.toNat) e else .no
    | _ => .no)
  | .ex x e => .ex x e
  | .no => .no
def kR2' (w : W) : Res W → Res (List D)
  | .ok w2 e2 => (match vw w with
    | .int i => (match vw w2 with
      | .int j => if -4611686018427387904 ≤ i ∧ i < 4611686018427387904 ∧ -4611686018427387904 ≤ j ∧ j < 4611686018427387904 then .ok (rng i (j - i).toNat) e2 else .no
      | _ => .no)
    | _ => .no)
  | .ex x e => .ex x e
  | .no => .no
def kR2 (b : ME) : Res W → Res (List D)
  | .ok w e => kR2' w (b e)
  | .ex x e => .ex x e
  | .no => .no
def kTru : Res (Nat ⊕ W) → Res Bool
  | .ok r e => (match gv e r with
    | some d => ofO (truD d) e
    | none => .no)
  | .ex x e => .ex x e
  | .no => .no
def kRep2 (w : W) : Res W → Res W
  | .ok w2 e2 => (match w with
    | .l xs => (match vw w2 with
      | .int k => if -9223372036854775808 ≤ k ∧ k < 9223372036854775808 ∧ xs.length * k.toNat ≤ 16777216 then .ok (.l (List.replicate k.toNat xs).flatten) e2 else .no
      | _ => .no)
    | _ => .no)
  | .ex x e => .ex x e
  | .no => .no
def kRep (b : ME) : Res W → Res W
  | .ok w e => kRep2 w (b e)
  | .ex x e => .ex x e
  | .no => .no
def rV (i : Nat) (e : Env) : Option W → Res W
  | some (.d d) => .ok (.d d) e
  | some (.l xs) => .ok (.d (.list xs)) (e.set i (some (.d (.list xs))))
  | none => .no

/-! ### runs -/
variable {e : Env}
theorem ev_seq {a b : MS} : sSeq a b e = kS b (a e) := by
  unfold sSeq
  cases a e with
  | ok o e1 => cases o <;> rfl
  | ex x e1 => rfl
  | no => rfl
theorem ev_if {t : MT} {a b : MS} : sIf t a b e = kIf a b (t e) := by
  unfold sIf
  cases t e with
  | ok o e1 => cases o <;> rfl
  | ex x e1 => rfl
  | no => rfl
theorem ev_ifE {t : MT} {a b : ME} : eIf t a b e = kIf a b (t e) := by
  unfold eIf
  cases t e with
  | ok o e1 => cases o <;> rfl
  | ex x e1 => rfl
  | no => rfl
theorem ev_nx : sNx e = .ok .nx e := rfl
theorem ev_bk : sBk e = .ok .bk e := rfl
theorem ev_ct : sCt e = .ok .ct e := rfl
theorem ev_E {m : ME} : sE m e = kM (fun _ => Out.nx) (m e) := by unfold sE; cases m e <;> rfl
theorem ev_set {i : Nat} {m : ME} : sSet i m e = kSet i (m e) := by unfold sSet; cases m e <;> rfl
theorem ev_tg {t : Tg} {m : ME} : sTg t m e = kTg t (m e) := by unfold sTg; cases m e <;> rfl
theorem ev_ret {m : ME} : sRet m e = kM (fun w => Out.rt (.d (vw w))) (m e) := by unfold sRet; cases m e <;> rfl
theorem ev_retO {m : ME} : sRetO m e = kM Out.rt (m e) := by unfold sRetO; cases m e <;> rfl
theorem ev_retN : sRetN e = .ok (.rt (.d .none)) e := rfl
theorem ev_put {i : Nat} {mi mv : ME} : sPut i mi mv e = kPut1 i mi (mv e) := by
  unfold sPut
  cases mv e with
  | ok w e1 =>
    show (if isL (e1.getD i none) = true then _ else Res.no) = (if isL (e1.getD i none) = true then kPut2 i w (mi e1) else Res.no)
    split
    · cases mi e1 with
      | ok wi e2 =>
        show (match vw wi with | .int k => _ | _ => Res.no) = gPut i w wi e2 (e2.getD i none)
        unfold gPut
        cases e2.getD i none with
        | none => cases vw wi <;> rfl
        | some x => cases x with
          | d y => cases vw wi <;> rfl
          | l ys => cases vw wi <;> rfl
      | ex x e2 => rfl
      | no => rfl
    · rfl
  | ex x e1 => rfl
  | no => rfl
theorem ev_for {src : MI} {tg : Tg} {b : MS} : sFor src tg b e = kFor tg b (src e) := by unfold sFor; cases src e <;> rfl
theorem ev_forN {tg : Tg} {b : MS} : forL tg b [] e = .ok .nx e := rfl
theorem ev_forC {tg : Tg} {b : MS} {x : D} {xs : List D} : forL tg b (x :: xs) e = kFor0 tg b xs (tg x e) := by
  show (match tg x e with | none => Res.no | some e0 => bnd (b e0) fun o e1 => match o with | .nx => forL tg b xs e1 | .ct => forL tg b xs e1 | .bk => .ok .nx e1 | .rt w => .ok (.rt w) e1) = _
  cases tg x e with
  | none => rfl
  | some e0 =>
    show bnd (b e0) _ = kFor1 tg b xs (b e0)
    cases b e0 with
    | ok o e1 => cases o <;> rfl
    | ex x e1 => rfl
    | no => rfl
theorem ev_C {d : D} : eC d e = .ok (.d d) e := rfl
theorem ev_V {i : Nat} : eV i e = rV i e (e.getD i none) := by
  unfold eV
  cases e.getD i none with
  | none => rfl
  | some w => cases w <;> rfl
theorem ev_vr {i : Nat} : (Opd.vr i).run e = oVr i e (e.getD i none) := by
  show (match e.getD i none with | some _ => Res.ok (Sum.inl i) e | none => Res.no) = _
  cases e.getD i none <;> rfl
theorem ev_ex {m : ME} : (Opd.ex m).run e = kM Sum.inr (m e) := by
  show bnd (m e) _ = _
  cases m e <;> rfl
theorem ev_o1 {f : D → Option W} {a : Opd} : eO1 f a e = kO1 f (a.run e) := by unfold eO1; cases a.run e <;> rfl
theorem ev_o2 {f : D → D → Option W} {a b : Opd} : eO2 f a b e = kO2 f b (a.run e) := by
  unfold eO2
  cases a.run e with
  | ok r e1 =>
    show bnd (b.run e1) _ = kO2' f r (b.run e1)
    cases b.run e1 with
    | ok r2 e2 =>
      show (match gv e2 r with | some x => _ | none => _) = g2 f e2 (gv e2 r) (gv e2 r2)
      cases gv e2 r with
      | none => rfl
      | some x => cases gv e2 r2 <;> rfl
    | ex x e2 => rfl
    | no => rfl
  | ex x e1 => rfl
  | no => rfl
theorem ev_t2 {f : D → D → Option Bool} {a b : Opd} : tO2 f a b e = kO2 f b (a.run e) := by
  unfold tO2
  cases a.run e with
  | ok r e1 =>
    show bnd (b.run e1) _ = kO2' f r (b.run e1)
    cases b.run e1 with
    | ok r2 e2 =>
      show (match gv e2 r with | some x => _ | none => _) = g2 f e2 (gv e2 r) (gv e2 r2)
      cases gv e2 r with
      | none => rfl
      | some x => cases gv e2 r2 <;> rfl
    | ex x e2 => rfl
    | no => rfl
  | ex x e1 => rfl
  | no => rfl
theorem ev_tru {a : Opd} : tTru a e = kTru (a.run e) := by unfold tTru; cases a.run e <;> rfl
theorem ev_and {a b : MT} : tAnd' a b e = kAnd b (a e) := by
  unfold tAnd'
  cases a e with
  | ok o e1 => cases o <;> rfl
  | ex x e1 => rfl
  | no => rfl
theorem ev_or {a b : MT} : tOr' a b e = kOr b (a e) := by
  unfold tOr'
  cases a e with
  | ok o e1 => cases o <;> rfl
  | ex x e1 => rfl
  | no => rfl
theorem ev_not {a : MT} : tNot' a e = kM Bool.not (a e) := by unfold tNot'; cases a e <;> rfl
theorem ev_yes : mYes e = .ok true e := rfl
theorem ev_andE {a b : ME} : eAnd a b e = kAndE b (a e) := by unfold eAnd; cases a e <;> rfl
theorem ev_orE {a b : ME} : eOr a b e = kOrE b (a e) := by unfold eOr; cases a e <;> rfl
theorem ev_notE {a : ME} : eNot a e = kNotE (a e) := by unfold eNot; cases a e <;> rfl
theorem ev_LN : evL [] e = .ok [] e := rfl
theorem ev_LC {o : Opd} {os : List Opd} : evL (o :: os) e = kL os (o.run e) := by
  show bnd (o.run e) _ = _
  cases o.run e with
  | ok r e1 =>
    show bnd (evL os e1) _ = kL' r (evL os e1)
    cases evL os e1 <;> rfl
  | ex x e1 => rfl
  | no => rfl
theorem ev_B {f : List D → Option W} {os : List Opd} : eB f os e = kB f (evL os e) := by
  unfold eB
  cases evL os e with
  | ok rs e1 =>
    show (match gvL e1 rs with | some ds => _ | none => _) = gB f e1 (gvL e1 rs)
    cases gvL e1 rs <;> rfl
  | ex x e1 => rfl
  | no => rfl
theorem ev_TN : evT [] e = .ok [] e := rfl
theorem ev_TC {m : ME} {ms : List ME} : evT (m :: ms) e = kT ms (m e) := by
  show bnd (m e) _ = _
  cases m e with
  | ok r e1 =>
    show bnd (evT ms e1) _ = kT' (vw r) (evT ms e1)
    cases evT ms e1 <;> rfl
  | ex x e1 => rfl
  | no => rfl
theorem ev_tup {ms : List ME} : eTup ms e = kM (fun ds => W.d (.tuple ds)) (evT ms e) := by unfold eTup; cases evT ms e <;> rfl
theorem ev_lst {ms : List ME} : eLst ms e = kM W.l (evT ms e) := by unfold eLst; cases evT ms e <;> rfl
theorem ev_GN : evG [] e = .ok [] e := rfl
theorem ev_GV {m : ME} {ms : List Arg} : evG (.vl m :: ms) e = kG ms (m e) := by
  show bnd (m e) _ = _
  cases m e with
  | ok r e1 =>
    show bnd (evG ms e1) _ = kG' (.inr (vw r)) (evG ms e1)
    cases evG ms e1 <;> rfl
  | ex x e1 => rfl
  | no => rfl
theorem ev_GR {i : Nat} {ms : List Arg} : evG (.rf i :: ms) e = gG i ms e (e.getD i none) := by
  show (match e.getD i none with | some _ => bnd (evG ms e) (fun rs e2 => Res.ok (Sum.inl i :: rs) e2) | none => Res.no) = _
  cases e.getD i none with
  | none => rfl
  | some w =>
    show bnd (evG ms e) _ = kG' (.inl i) (evG ms e)
    cases evG ms e <;> rfl
theorem ev_call {C : Orc} {k : Nat} {as : List Arg} : eCall C k as e = kC C k (evG as e) := by
  unfold eCall
  cases evG as e with
  | ok rs e1 =>
    show (match takeA rs e1 with | some p => _ | none => Res.no) = kC1 C k rs (takeA rs e1)
    cases takeA rs e1 with
    | none => rfl
    | some p =>
      show (match C k p.1 with | .ok w outs => _ | .ex x outs => _ | .no => Res.no) = kC2 rs p.2 (C k p.1)
      cases C k p.1 with
      | ok w outs => show (match putO rs outs p.2 with | some e2 => _ | none => _) = kP w (putO rs outs p.2); cases putO rs outs p.2 <;> rfl
      | ex w outs => show (match putO rs outs p.2 with | some e2 => _ | none => _) = kPx w (putO rs outs p.2); cases putO rs outs p.2 <;> rfl
      | no => rfl
  | ex x e1 => rfl
  | no => rfl
theorem ev_mu {f : List D → List D → Option (W × List D)} {i : Nat} {ms : List ME} : eMu f i ms e = if isL (e.getD i none) = true then kMu f i (evT ms e) else .no := by
  unfold eMu
  split
  · cases evT ms e with
    | ok ds e1 =>
      show (match e1.getD i none with | some (.l xs) => _ | _ => _) = gMu f i ds e1 (e1.getD i none)
      cases e1.getD i none with
      | none => rfl
      | some w => cases w with
        | d x => rfl
        | l xs =>
          show (match f xs ds with | some (w, ys) => _ | none => _) = (match f xs ds with | some p => Res.ok p.1 (e1.set i (some (.l p.2))) | none => Res.no)
          cases f xs ds <;> rfl
    | ex x e1 => rfl
    | no => rfl
  · rfl
theorem ev_lc {src : MI} {tg : Tg} {tt : MT} {te : ME} {vs : List Nat} : eLc src tg tt te vs e = kLc tg tt te vs (src e) := by
  unfold eLc
  cases src e with
  | ok xs e1 =>
    show (if xs.length < 16777216 then bnd (cmpL tg tt te vs xs (wipeE e1 vs)) (fun ds e2 => Res.ok (.l ds) e2) else Res.no) = (if xs.length < 16777216 then kM W.l (cmpL tg tt te vs xs (wipeE e1 vs)) else .no)
    split
    · cases cmpL tg tt te vs xs (wipeE e1 vs) <;> rfl
    · rfl
  | ex x e1 => rfl
  | no => rfl
theorem ev_any {m : ME} : iAny m e = kSeqI (m e) := by unfold iAny; cases m e <;> rfl
theorem ev_r1 {m : ME} : iR1 m e = kR1 (m e) := by unfold iR1; cases m e <;> rfl
theorem ev_r2 {a b : ME} : iR2 a b e = kR2 b (a e) := by
  unfold iR2
  cases a e with
  | ok w e1 => show bnd (b e1) _ = kR2' w (b e1); cases b e1 <;> rfl
  | ex x e1 => rfl
  | no => rfl
theorem ev_rep {a b : ME} : eRep a b e = kRep b (a e) := by
  unfold eRep
  cases a e with
  | ok w e1 => show bnd (b e1) _ = kRep2 w (b e1); cases b e1 <;> rfl
  | ex x e1 => rfl
  | no => rfl

/-! ### steps of the contexts -/
theorem kS_nx {b : MS} : kS b (.ok .nx e) = b e := rfl
theorem kS_bk {b : MS} : kS b (.ok .bk e) = .ok .bk e := rfl
theorem kS_ct {b : MS} : kS b (.ok .ct e) = .ok .ct e := rfl
theorem kS_rt {b : MS} {w : W} : kS b (.ok (.rt w) e) = .ok (.rt w) e := rfl
theorem kIf_t {a b : Env → Res α} : kIf a b (.ok true e) = a e := rfl
theorem kIf_f {a b : Env → Res α} : kIf a b (.ok false e) = b e := rfl
theorem kM_ok {f : α → β} {a : α} : kM f (.ok a e) = .ok (f a) e := rfl
theorem kSet_ok {i : Nat} {w : W} : kSet i (.ok w e) = .ok .nx (e.set i (some w)) := rfl
theorem kAnd_t {b : MT} : kAnd b (.ok true e) = b e := rfl
theorem kAnd_f {b : MT} : kAnd b (.ok false e) = .ok false e := rfl
theorem kOr_t {b : MT} : kOr b (.ok true e) = .ok true e := rfl
theorem kOr_f {b : MT} : kOr b (.ok false e) = b e := rfl
theorem kAndE_t {b : ME} : kAndE b (.ok (.d (.bool true)) e) = b e := rfl
theorem kAndE_f {b : ME} : kAndE b (.ok (.d (.bool false)) e) = .ok (.d (.bool false)) e := rfl
theorem kOrE_t {b : ME} : kOrE b (.ok (.d (.bool true)) e) = .ok (.d (.bool true)) e := rfl
theorem kOrE_f {b : ME} : kOrE b (.ok (.d (.bool false)) e) = b e := rfl
theorem kNotE_b {c : Bool} : kNotE (.ok (.d (.bool c)) e) = .ok (.d (.bool (!c))) e := rfl
theorem oVr_s {i : Nat} {w : W} : oVr i e (some w) = .ok (.inl i) e := rfl
theorem kO1_l {f : D → Option W} {i : Nat} : kO1 f (.ok (.inl i) e) = (match (e.getD i none).map vw with | some d => ofO (f d) e | none => .no) := rfl
theorem kO1_r {f : D → Option W} {w : W} : kO1 f (.ok (.inr w) e) = ofO (f (vw w)) e := rfl
theorem kO2_ok {f : D → D → Option α} {b : Opd} {r : Nat ⊕ W} : kO2 f b (.ok r e) = kO2' f r (b.run e) := rfl
theorem kO2'_ok {f : D → D → Option α} {r r2 : Nat ⊕ W} : kO2' f r (.ok r2 e) = g2 f e (gv e r) (gv e r2) := rfl
theorem g2_ss {f : D → D → Option α} {x y : D} : g2 f e (some x) (some y) = ofO (f x y) e := rfl
theorem gv_l {i : Nat} : gv e (.inl i) = (e.getD i none).map vw := rfl
theorem gv_r {w : W} : gv e (.inr w) = some (vw w) := rfl
theorem kL_ok {os : List Opd} {r : Nat ⊕ W} : kL os (.ok r e) = kL' r (evL os e) := rfl
theorem kL'_ok {r : Nat ⊕ W} {rs : List (Nat ⊕ W)} : kL' r (.ok rs e) = .ok (r :: rs) e := rfl
theorem kB_ok {f : List D → Option W} {rs : List (Nat ⊕ W)} : kB f (.ok rs e) = gB f e (gvL e rs) := rfl
theorem gB_s {f : List D → Option W} {ds : List D} : gB f e (some ds) = ofO (f ds) e := rfl
theorem gvL_n : gvL e [] = some [] := rfl
def kV (d : Option D) (r : Option (List D)) : Option (List D) := match d with
  | some x => (match r with
    | some xs => some (x :: xs)
    | none => none)
  | none => none
theorem gvL_c {r : Nat ⊕ W} {rs : List (Nat ⊕ W)} : gvL e (r :: rs) = kV (gv e r) (gvL e rs) := rfl
theorem kV_ss {x : D} {xs : List D} : kV (some x) (some xs) = some (x :: xs) := rfl
theorem kT_ok {ms : List ME} {w : W} : kT ms (.ok w e) = kT' (vw w) (evT ms e) := rfl
theorem kT'_ok {d : D} {ds : List D} : kT' d (.ok ds e) = .ok (d :: ds) e := rfl
theorem kG_ok {ms : List Arg} {w : W} : kG ms (.ok w e) = kG' (.inr (vw w)) (evG ms e) := rfl
theorem kG'_ok {d : Nat ⊕ D} {ds : List (Nat ⊕ D)} : kG' d (.ok ds e) = .ok (d :: ds) e := rfl
theorem gG_s {i : Nat} {as : List Arg} {w : W} : gG i as e (some w) = kG' (.inl i) (evG as e) := rfl
theorem kC_ok {C : Orc} {k : Nat} {rs : List (Nat ⊕ D)} : kC C k (.ok rs e) = kC1 C k rs (takeA rs e) := rfl
theorem kC1_s {C : Orc} {k : Nat} {rs : List (Nat ⊕ D)} {p : List W × Env} : kC1 C k rs (some p) = kC2 rs p.2 (C k p.1) := rfl
theorem kC2_ok {rs : List (Nat ⊕ D)} {w : W} {outs : List (List D)} : kC2 rs e (.ok w outs) = kP w (putO rs outs e) := rfl
theorem kP_s {w : W} : kP w (some e) = .ok w e := rfl
def tkL (xs : List D) : Option (List W × Env) → Option (List W × Env)
  | some p => some (.l xs :: p.1, p.2)
  | none => none
def tkD (d : D) : Option (List W × Env) → Option (List W × Env)
  | some p => some (.d d :: p.1, p.2)
  | none => none
def tk1 (i : Nat) (rs : List (Nat ⊕ D)) (e : Env) : Option W → Option (List W × Env)
  | some (.l xs) => tkL xs (takeA rs (e.set i none))
  | _ => none
theorem take_n : takeA [] e = some ([], e) := rfl
theorem take_l {i : Nat} {rs : List (Nat ⊕ D)} : takeA (.inl i :: rs) e = tk1 i rs e (e.getD i none) := by
  show (match e.getD i none with | some (.l xs) => (match takeA rs (e.set i none) with | some p => some (W.l xs :: p.1, p.2) | none => none) | _ => none) = _
  cases e.getD i none with
  | none => rfl
  | some w => cases w with
    | d x => rfl
    | l xs => show (match takeA rs (e.set i none) with | some p => some (W.l xs :: p.1, p.2) | none => none) = tkL xs (takeA rs (e.set i none)); cases takeA rs (e.set i none) <;> rfl
theorem tk1_l {i : Nat} {rs : List (Nat ⊕ D)} {xs : List D} : tk1 i rs e (some (.l xs)) = tkL xs (takeA rs (e.set i none)) := rfl
theorem take_r {d : D} {rs : List (Nat ⊕ D)} : takeA (.inr d :: rs) e = tkD d (takeA rs e) := by
  show (match takeA rs e with | some p => some (W.d d :: p.1, p.2) | none => none) = _
  cases takeA rs e <;> rfl
theorem tkL_s {xs : List D} {p : List W × Env} : tkL xs (some p) = some (.l xs :: p.1, p.2) := rfl
theorem tkD_s {d : D} {p : List W × Env} : tkD d (some p) = some (.d d :: p.1, p.2) := rfl
def pt1 (i : Nat) (xs : List D) : Option Env → Option Env
  | some e => some (e.set i (some (.l xs)))
  | none => none
theorem put_n : putO [] [] e = some e := rfl
theorem put_l {i : Nat} {rs : List (Nat ⊕ D)} {xs : List D} {os : List (List D)} : putO (.inl i :: rs) (xs :: os) e = pt1 i xs (putO rs os e) := by
  show (match putO rs os e with | some e2 => some (e2.set i (some (W.l xs))) | none => none) = _
  cases putO rs os e <;> rfl
theorem put_r {d : D} {rs : List (Nat ⊕ D)} {os : List (List D)} : putO (.inr d :: rs) os e = putO rs os e := by cases os <;> rfl
theorem pt1_s {i : Nat} {xs : List D} : pt1 i xs (some e) = some (e.set i (some (.l xs))) := rfl
theorem kPut1_ok {i : Nat} {mi : ME} {w : W} : kPut1 i mi (.ok w e) = if isL (e.getD i none) = true then kPut2 i w (mi e) else .no := rfl
theorem kPut2_ok {i : Nat} {w wi : W} : kPut2 i w (.ok wi e) = gPut i w wi e (e.getD i none) := rfl
theorem gPut_l {i : Nat} {w : W} {k : Int} {xs : List D} : gPut i w (.d (.int k)) e (some (.l xs)) = (match ixN xs.length k with | some j => .ok .nx (e.set i (some (.l (xs.set j (vw w))))) | none => .no) := rfl
theorem isL_l {xs : List D} : isL (some (.l xs)) = true := rfl
theorem kMu_ok {f : List D → List D → Option (W × List D)} {i : Nat} {ds : List D} : kMu f i (.ok ds e) = gMu f i ds e (e.getD i none) := rfl
theorem gMu_l {f : List D → List D → Option (W × List D)} {i : Nat} {ds xs : List D} : gMu f i ds e (some (.l xs)) = (match f xs ds with | some p => .ok p.1 (e.set i (some (.l p.2))) | none => .no) := rfl
theorem kFor_ok {tg : Tg} {b : MS} {xs : List D} : kFor tg b (.ok xs e) = forL tg b xs e := rfl
theorem kFor0_s {tg : Tg} {b : MS} {xs : List D} : kFor0 tg b xs (some e) = kFor1 tg b xs (b e) := rfl
theorem kFor1_nx {tg : Tg} {b : MS} {xs : List D} : kFor1 tg b xs (.ok .nx e) = forL tg b xs e := rfl
theorem kFor1_ct {tg : Tg} {b : MS} {xs : List D} : kFor1 tg b xs (.ok .ct e) = forL tg b xs e := rfl
theorem kFor1_bk {tg : Tg} {b : MS} {xs : List D} : kFor1 tg b xs (.ok .bk e) = .ok .nx e := rfl
theorem kFor1_rt {tg : Tg} {b : MS} {xs : List D} {w : W} : kFor1 tg b xs (.ok (.rt w) e) = .ok (.rt w) e := rfl
theorem kLc_ok {tg : Tg} {tt : MT} {te : ME} {vs : List Nat} {xs : List D} : kLc tg tt te vs (.ok xs e) = if xs.length < 16777216 then kM W.l (cmpL tg tt te vs xs (wipeE e vs)) else .no := rfl
theorem kSeqI_l {xs : List D} : kSeqI (.ok (.d (.list xs)) e) = .ok xs e := rfl
theorem kSeqI_l' {xs : List D} : kSeqI (.ok (.l xs) e) = .ok xs e := rfl
theorem kSeqI_t {xs : List D} : kSeqI (.ok (.d (.tuple xs)) e) = .ok xs e := rfl
theorem kR1_i {j : Int} : kR1 (.ok (.d (.int j)) e) = if -4611686018427387904 ≤ j ∧ j < 4611686018427387904 then .ok (rng 0 j.toNat) e else .no := rfl
theorem kR2_ok {b : ME} {w : W} : kR2 b (.ok w e) = kR2' w (b e) := rfl
theorem kR2'_i {i j : Int} : kR2' (.d (.int i)) (.ok (.d (.int j)) e) = if -4611686018427387904 ≤ i ∧ i < 4611686018427387904 ∧ -4611686018427387904 ≤ j ∧ j < 4611686018427387904 then .ok (rng i (j - i).toNat) e else .no := rfl
theorem kTru_l {i : Nat} : kTru (.ok (.inl i) e) = (match (e.getD i none).map vw with | some d => ofO (truD d) e | none => .no) := rfl
theorem kTru_r {w : W} : kTru (.ok (.inr w) e) = ofO (truD (vw w)) e := rfl
theorem kRep_ok {b : ME} {w : W} : kRep b (.ok w e) = kRep2 w (b e) := rfl
theorem kRep2_i {xs : List D} {k : Int} : kRep2 (.l xs) (.ok (.d (.int k)) e) = if -9223372036854775808 ≤ k ∧ k < 9223372036854775808 ∧ xs.length * k.toNat ≤ 16777216 then .ok (.l (List.replicate k.toNat xs).flatten) e else .no := rfl
theorem rV_d {i : Nat} {d : D} : rV i e (some (.d d)) = .ok (.d d) e := rfl
theorem rV_l {i : Nat} {xs : List D} : rV i e (some (.l xs)) = .ok (.d (.list xs)) (e.set i (some (.d (.list xs)))) := rfl
/-- a def from its body -/
def kF (P : List Nat) : Res Out → CRes
  | .ok (.rt w) e => (match contO e P with
    | some outs => .ok w outs
    | none => .no)
  | .ok .nx e => (match contO e P with
    | some outs => .ok (.d .none) outs
    | none => .no)
  | .ok _ _ => .no
  | .ex x e => (match contO e P with
    | some outs => .ex x outs
    | none => .no)
  | .no => .no
theorem run_kF {np n : Nat} {P : List Nat} {m : MS} {ws : List W} (h1 : ws.length = np) (h2 : lpos ws 0 = P) : runF np n P m ws = kF P (m (ws.map some ++ List.replicate (n - np) none)) := by
  unfold runF
  rw [if_pos ⟨h1, h2⟩]
  cases m (ws.map some ++ List.replicate (n - np) none) with
  | ok o e =>
    cases o with
    | nx => simp only [kF] <;> (cases contO e P <;> rfl)
    | rt w => simp only [kF] <;> (cases contO e P <;> rfl)
    | bk => show (match contO e P with | some outs => _ | none => _) = CRes.no; cases contO e P <;> rfl
    | ct => show (match contO e P with | some outs => _ | none => _) = CRes.no; cases contO e P <;> rfl
  | ex x e => rfl
  | no => rfl
theorem kF_rt0 {w : W} : kF [] (.ok (.rt w) e) = .ok w [] := rfl
theorem kF_nx0 : kF [] (.ok .nx e) = .ok (.d .none) [] := rfl
theorem kF_rt {i : Nat} {w : W} {xs : List D} (h : e.getD i none = some (.l xs)) : kF [i] (.ok (.rt w) e) = .ok w [xs] := by
  show (match contO e [i] with | some outs => CRes.ok w outs | none => .no) = _
  unfold contO
  rw [h]; rfl
theorem kF_nx {i : Nat} {xs : List D} (h : e.getD i none = some (.l xs)) : kF [i] (.ok .nx e) = .ok (.d .none) [xs] := by
  show (match contO e [i] with | some outs => CRes.ok (.d .none) outs | none => .no) = _
  unfold contO
  rw [h]; rfl
theorem atI_0 {a : D} {l : List D} : atI (a :: l) 0 = some a := by simp [atI, ixN]
theorem atI_1 {a b : D} {l : List D} : atI (a :: b :: l) 1 = some b := by
  have : atI (a :: b :: l) ((1 : Nat) : Int) = some b := atI_nat rfl
  exact this
theorem atI_2 {a b c : D} {l : List D} : atI (a :: b :: c :: l) 2 = some c := by
  have : atI (a :: b :: c :: l) ((2 : Nat) : Int) = some c := atI_nat rfl
  exact this
theorem atI_3 {a b c d : D} {l : List D} : atI (a :: b :: c :: d :: l) 3 = some d := by
  have : atI (a :: b :: c :: d :: l) ((3 : Nat) : Int) = some d := atI_nat rfl
  exact this
theorem fIx_l {ds : List D} {i : Int} : fIx (.list ds) (.int i) = (atI ds i).map W.d := rfl
theorem fIx_t {ds : List D} {i : Int} : fIx (.tuple ds) (.int i) = (atI ds i).map W.d := rfl
theorem cmpL_n {tg : Tg} {tt : MT} {te : ME} {vs : List Nat} : cmpL tg tt te vs [] e = .ok [] e := rfl
def kc3 (d : D) : Res (List D) → Res (List D)
  | .ok ds e => .ok (d :: ds) e
  | .ex x e => .ex x e
  | .no => .no
def kc2 (tg : Tg) (tt : MT) (te : ME) (vs : List Nat) (xs : List D) : Res W → Res (List D)
  | .ok w e => kc3 (vw w) (cmpL tg tt te vs xs (wipeE e vs))
  | .ex x e => .ex x e
  | .no => .no
def kc1 (tg : Tg) (tt : MT) (te : ME) (vs : List Nat) (xs : List D) : Res Bool → Res (List D)
  | .ok true e => kc2 tg tt te vs xs (te e)
  | .ok false e => cmpL tg tt te vs xs (wipeE e vs)
  | .ex x e => .ex x e
  | .no => .no
def kc0 (tg : Tg) (tt : MT) (te : ME) (vs : List Nat) (xs : List D) : Option Env → Res (List D)
  | some e => kc1 tg tt te vs xs (tt e)
  | none => .no
theorem cmpL_c {tg : Tg} {tt : MT} {te : ME} {vs : List Nat} {x : D} {xs : List D} : cmpL tg tt te vs (x :: xs) e = kc0 tg tt te vs xs (tg x e) := by
  show (match tg x e with | none => Res.no | some e0 => bnd (tt e0) fun b e1 => if b = true then bnd (te e1) fun w e2 => bnd (cmpL tg tt te vs xs (wipeE e2 vs)) fun ds e3 => .ok (vw w :: ds) e3 else cmpL tg tt te vs xs (wipeE e1 vs)) = _
  cases tg x e with
  | none => rfl
  | some e0 =>
    show bnd (tt e0) _ = kc1 tg tt te vs xs (tt e0)
    cases tt e0 with
    | ok b e1 =>
      cases b with
      | true =>
        show bnd (te e1) _ = kc2 tg tt te vs xs (te e1)
        cases te e1 with
        | ok w e2 => show bnd (cmpL tg tt te vs xs (wipeE e2 vs)) _ = kc3 (vw w) (cmpL tg tt te vs xs (wipeE e2 vs)); cases cmpL tg tt te vs xs (wipeE e2 vs) <;> rfl
        | ex x e2 => rfl
        | no => rfl
      | false => rfl
    | ex x e1 => rfl
    | no => rfl
theorem kc0_s {tg : Tg} {tt : MT} {te : ME} {vs : List Nat} {xs : List D} : kc0 tg tt te vs xs (some e) = kc1 tg tt te vs xs (tt e) := rfl
theorem kc1_t {tg : Tg} {tt : MT} {te : ME} {vs : List Nat} {xs : List D} : kc1 tg tt te vs xs (.ok true e) = kc2 tg tt te vs xs (te e) := rfl
theorem kc1_f {tg : Tg} {tt : MT} {te : ME} {vs : List Nat} {xs : List D} : kc1 tg tt te vs xs (.ok false e) = cmpL tg tt te vs xs (wipeE e vs) := rfl
theorem kc2_ok {tg : Tg} {tt : MT} {te : ME} {vs : List Nat} {xs : List D} {w : W} : kc2 tg tt te vs xs (.ok w e) = kc3 (vw w) (cmpL tg tt te vs xs (wipeE e vs)) := rfl
theorem kc3_ok {d : D} {ds : List D} : kc3 d (.ok ds e) = .ok (d :: ds) e := rfl
theorem wipe_n : wipeE e [] = e := rfl
theorem wipe_c {v : Nat} {vs : List Nat} : wipeE e (v :: vs) = (wipeE e vs).set v none := rfl
theorem tgN_r {j : Nat} {x : D} : tgN j x e = some (e.set j (some (.d x))) := rfl
theorem tgT_r {ts : List Tg} {xs : List D} : tgT ts (.tuple xs) e = tgL ts xs e := rfl
theorem tgL_n : tgL [] [] e = some e := rfl
theorem tgL_c {t : Tg} {ts : List Tg} {x : D} {xs : List D} : tgL (t :: ts) (x :: xs) e = (t x e).bind (tgL ts xs) := rfl
end
end Mi
namespace Mi
open PySem L2
theorem fMul_r {i j : Int} (h : j.natAbs < 18446744073709551616) : fMul (.int i) (.int j) = some (.d (.int (i * j))) := if_pos (.inr (.inl h))
theorem fMul_l {i j : Int} (h : i.natAbs < 18446744073709551616) : fMul (.int i) (.int j) = some (.d (.int (i * j))) := if_pos (.inl h)
theorem fMod_p {i j : Int} (h : 0 < j) : fMod (.int i) (.int j) = some (.d (.int (i % j))) := if_pos h
theorem fDiv_p {i j : Int} (h : 0 < j) (h2 : j.natAbs.log2 < 9000) : fDiv (.int i) (.int j) = some (.d (.int (i / j))) := if_pos ⟨h, h2⟩
theorem fPow_p {i j : Int} (h : 0 ≤ j ∧ j ≤ 1000000 ∧ i.natAbs < 18446744073709551616) : fPow (.int i) (.int j) = some (.d (.int (i ^ j.toNat))) := if_pos h
theorem fPow18 : fPow (.int 10) (.int 18) = some (.d (.int 1000000000000000000)) := by
  rw [fPow_p (by decide)]; rfl
theorem fPow9 : fPow (.int 10) (.int 9) = some (.d (.int 1000000000)) := by
  rw [fPow_p (by decide)]; rfl
theorem ixN_lit {n : Nat} {i : Int} (h0 : 0 ≤ i) (h1 : i < n) : ixN n i = some i.toNat := by
  unfold ixN
  rw [if_pos h0, if_pos h1]
theorem atI_int {ns : List Int} {p : Int} (h0 : 0 ≤ p) (h1 : p < ns.length) : ∃ k, atI (ns.map PyData.int) p = some (.int k) := by
  have h2 : p.toNat < ns.length := by omega
  refine ⟨ns[p.toNat], ?_⟩
  have : atI (ns.map PyData.int) ((p.toNat : Nat) : Int) = some (.int ns[p.toNat]) := atI_nat (by simp [h2])
  rwa [Int.toNat_of_nonneg h0] at this
end Mi
namespace Mi
open PySem L2
/-! ### what is wanted of a run -/
def Wp {α : Type} (r : Res α) (Q : α → Env → Prop) : Prop := ∃ a e, r = .ok a e ∧ Q a e
def WpC (r : CRes) (Q : W → List (List D) → Prop) : Prop := ∃ w outs, r = .ok w outs ∧ Q w outs
theorem wp_ok {α : Type} {a : α} {e : Env} {Q : α → Env → Prop} : Wp (.ok a e) Q ↔ Q a e :=
  ⟨fun ⟨b, f, h, q⟩ => by cases h; exact q, fun q => ⟨a, e, rfl, q⟩⟩
theorem wpC_ok {w : W} {o : List (List D)} {Q : W → List (List D) → Prop} : WpC (.ok w o) Q ↔ Q w o :=
  ⟨fun ⟨b, f, h, q⟩ => by cases h; exact q, fun q => ⟨w, o, rfl, q⟩⟩
theorem wpC_run {np n : Nat} {P : List Nat} {m : MS} {ws : List W} {Q : W → List (List D) → Prop} (h1 : ws.length = np) (h2 : lpos ws 0 = P) (h : WpC (kF P (m (ws.map some ++ List.replicate (n - np) none))) Q) : WpC (runF np n P m ws) Q := by
  rw [run_kF h1 h2]; exact h
theorem WpC.mono {r : CRes} {Q Q' : W → List (List D) → Prop} (h : WpC r Q) (k : ∀ w o, Q w o → Q' w o) : WpC r Q' := let ⟨w, o, e, q⟩ := h; ⟨w, o, e, k w o q⟩
theorem Wp.mono {α : Type} {r : Res α} {Q Q' : α → Env → Prop} (h : Wp r Q) (k : ∀ w o, Q w o → Q' w o) : Wp r Q' := let ⟨w, o, e, q⟩ := h; ⟨w, o, e, k w o q⟩
def kFr (w : W) : Option (List (List D)) → CRes
  | some outs => .ok w outs
  | none => .no
def ct1 : Option W → Option (List (List D)) → Option (List (List D))
  | some (.l xs), some r => some (xs :: r)
  | _, _ => none
theorem kF_r {P : List Nat} {w : W} {e : Env} : kF P (.ok (.rt w) e) = kFr w (contO e P) := by simp only [kF]; cases contO e P <;> rfl
theorem kF_n {P : List Nat} {e : Env} : kF P (.ok .nx e) = kFr (.d .none) (contO e P) := by simp only [kF]; cases contO e P <;> rfl
theorem kFr_s {w : W} {outs : List (List D)} : kFr w (some outs) = .ok w outs := rfl
theorem cont_n {e : Env} : contO e [] = some [] := rfl
theorem cont_c {e : Env} {i : Nat} {is : List Nat} : contO e (i :: is) = ct1 (e.getD i none) (contO e is) := by
  show (match e.getD i none with | some (.l xs) => (match contO e is with | some r => some (xs :: r) | none => none) | _ => none) = _
  cases e.getD i none with
  | none => rfl
  | some w => cases w with
    | d x => rfl
    | l xs => cases contO e is <;> rfl
theorem ct1_s {xs : List D} {r : List (List D)} : ct1 (some (.l xs)) (some r) = some (xs :: r) := rfl
/-- a loop by what holds between its turns (no break, no return) -/
theorem forL_inv {tg : Tg} {b : MS} (Inv : List D → Env → Prop) {xs : List D} {e : Env} (h0 : Inv [] e)
    (step : ∀ pre x post e, xs = pre ++ x :: post → Inv pre e → ∃ e0, tg x e = some e0 ∧ Wp (b e0) fun o e1 => (o = .nx ∨ o = .ct) ∧ Inv (pre ++ [x]) e1) : ∃ e', forL tg b xs e = .ok .nx e' ∧ Inv xs e' := by
  have main : ∀ (post pre : List D) (e : Env), xs = pre ++ post → Inv pre e → ∃ e', forL tg b post e = .ok .nx e' ∧ Inv xs e' := by
    intro post
    induction post with
    | nil => intro pre e h i; rw [List.append_nil] at h; subst h; exact ⟨e, rfl, i⟩
    | cons x post ih =>
      intro pre e h i
      obtain ⟨e0, h1, o, e1, h2, ho, i1⟩ := step pre x post e h i
      obtain ⟨e', h3, i'⟩ := ih (pre ++ [x]) e1 (by rw [h]; simp) i1
      refine ⟨e', ?_, i'⟩
      rw [ev_forC, h1]
      show kFor1 tg b post (b e0) = _
      rw [h2]
      rcases ho with rfl | rfl
      · exact h3
      · exact h3
  exact main xs [] e rfl h0
/-- a comprehension by what holds between its turns: Inv of the items so far, of what is made so far -/
theorem cmpL_inv {tg : Tg} {tt : MT} {te : ME} {vs : List Nat} (Inv : List D → List D → Env → Prop) {xs : List D} {e : Env} (h0 : Inv [] [] e)
    (step : ∀ pre x post acc e, xs = pre ++ x :: post → Inv pre acc e → ∃ e0, tg x e = some e0 ∧ Wp (tt e0) fun c e1 => (c = false ∧ Inv (pre ++ [x]) acc (wipeE e1 vs)) ∨ (c = true ∧ Wp (te e1) fun w e2 => Inv (pre ++ [x]) (acc ++ [vw w]) (wipeE e2 vs))) :
    ∃ ds e', cmpL tg tt te vs xs e = .ok ds e' ∧ Inv xs ds e' := by
  have main : ∀ (post pre acc : List D) (e : Env), xs = pre ++ post → Inv pre acc e → ∃ ds e', cmpL tg tt te vs post e = .ok ds e' ∧ Inv xs (acc ++ ds) e' := by
    intro post
    induction post with
    | nil => intro pre acc e h i; rw [List.append_nil] at h; subst h; exact ⟨[], e, rfl, by rw [List.append_nil]; exact i⟩
    | cons x post ih =>
      intro pre acc e h i
      obtain ⟨e0, h1, c, e1, h2, hc⟩ := step pre x post acc e h i
      rw [cmpL_c, h1, kc0_s, h2]
      rcases hc with ⟨rfl, i1⟩ | ⟨rfl, w, e2, h3, i1⟩
      · exact ih (pre ++ [x]) acc _ (by rw [h]; simp) i1
      · obtain ⟨ds, e', h4, i'⟩ := ih (pre ++ [x]) (acc ++ [vw w]) _ (by rw [h]; simp) i1
        refine ⟨vw w :: ds, e', ?_, by simpa using i'⟩
        rw [kc1_t, h3, kc2_ok, h4]; rfl
  obtain ⟨ds, e', h, i⟩ := main xs [] [] e rfl h0
  exact ⟨ds, e', h, by simpa using i⟩
end Mi
namespace Mi
open PySem L2
theorem ixN_4_0 : ixN 4 0 = some 0 := rfl
theorem ixN_4_1 : ixN 4 1 = some 1 := rfl
theorem ixN_4_2 : ixN 4 2 = some 2 := rfl
theorem ixN_4_3 : ixN 4 3 = some 3 := rfl
end Mi
namespace Mi
open PySem L2
theorem fMul_31 {i : Int} : fMul (.int i) (.int 31) = some (.d (.int (i * 31))) := fMul_r (by decide)
theorem fMul_48271 {i : Int} : fMul (.int i) (.int 48271) = some (.d (.int (i * 48271))) := fMul_r (by decide)
theorem fMul_69621 {i : Int} : fMul (.int i) (.int 69621) = some (.d (.int (i * 69621))) := fMul_r (by decide)
end Mi
namespace Mi
open PySem L2
theorem rng_get {lo : Int} {n i : Nat} (h : i < n) : (rng lo n)[i]? = some (.int (lo + (i : Int))) := by
  simp only [rng, List.getElem?_map, List.getElem?_range h, Option.map_some]
theorem rng_len {lo : Int} {n : Nat} : (rng lo n).length = n := by simp [rng]
/-- a loop over a range -/
theorem forR_inv {tg : Tg} {b : MS} {lo : Int} {n : Nat} (Inv : Nat → Env → Prop) {e : Env} (h0 : Inv 0 e)
    (step : ∀ i e, i < n → Inv i e → ∃ e0, tg (.int (lo + (i : Int))) e = some e0 ∧ Wp (b e0) fun o e1 => (o = .nx ∨ o = .ct) ∧ Inv (i + 1) e1) : ∃ e', forL tg b (rng lo n) e = .ok .nx e' ∧ Inv n e' := by
  obtain ⟨e', h, i⟩ := forL_inv (tg := tg) (b := b) (xs := rng lo n) (fun pre e => Inv pre.length e) h0 fun pre x post e he hi => by
    have hl : pre.length < n := by
      have := congrArg List.length he
      rw [rng_len, List.length_append, List.length_cons] at this
      omega
    have hx : x = .int (lo + (pre.length : Int)) := by
      have h1 := rng_get (lo := lo) hl
      rw [he, List.getElem?_append_right (Nat.le_refl _)] at h1
      simpa using h1
    subst hx
    obtain ⟨e0, h1, h2⟩ := step pre.length e hl hi
    refine ⟨e0, h1, h2.mono fun o e1 q => ⟨q.1, ?_⟩⟩
    rw [List.length_append]
    exact q.2
  rw [rng_len] at i
  exact ⟨e', h, i⟩
/-- a comprehension over a range -/
theorem cmpR_inv {tg : Tg} {tt : MT} {te : ME} {vs : List Nat} {lo : Int} {n : Nat} (Inv : Nat → List D → Env → Prop) {e : Env} (h0 : Inv 0 [] e)
    (step : ∀ i acc e, i < n → Inv i acc e → ∃ e0, tg (.int (lo + (i : Int))) e = some e0 ∧ Wp (tt e0) fun c e1 => (c = false ∧ Inv (i + 1) acc (wipeE e1 vs)) ∨ (c = true ∧ Wp (te e1) fun w e2 => Inv (i + 1) (acc ++ [vw w]) (wipeE e2 vs))) :
    ∃ ds e', cmpL tg tt te vs (rng lo n) e = .ok ds e' ∧ Inv n ds e' := by
  obtain ⟨ds, e', h, i⟩ := cmpL_inv (tg := tg) (tt := tt) (te := te) (vs := vs) (xs := rng lo n) (fun pre acc e => Inv pre.length acc e) h0 fun pre x post acc e he hi => by
    have hl : pre.length < n := by
      have := congrArg List.length he
      rw [rng_len, List.length_append, List.length_cons] at this
      omega
    have hx : x = .int (lo + (pre.length : Int)) := by
      have h1 := rng_get (lo := lo) hl
      rw [he, List.getElem?_append_right (Nat.le_refl _)] at h1
      simpa using h1
    subst hx
    obtain ⟨e0, h1, h2⟩ := step pre.length acc e hl hi
    have e2 : (pre ++ [PyData.int (lo + (pre.length : Int))]).length = pre.length + 1 := by simp
    refine ⟨e0, h1, h2.mono fun c e1 q => ?_⟩
    rw [e2]
    exact q
  rw [rng_len] at i
  exact ⟨ds, e', h, i⟩
theorem wp_bool {c : Bool} {e : Env} {Q : Bool → Env → Prop} (h1 : c = true → Q true e) (h2 : c = false → Q false e) : Wp (.ok c e) Q := by
  cases c with
  | true => exact wp_ok.mpr (h1 rfl)
  | false => exact wp_ok.mpr (h2 rfl)
theorem atI_get {ds : List D} {d : D} {j : Nat} (h : ds[j]? = some d) : atI ds (j : Int) = some d := atI_nat h
end Mi
namespace Mi
open PySem L2
theorem mApp_s {xs : List D} {d : D} (h : xs.length < 16777216) : mApp xs [d] = some (.d .none, xs ++ [d]) := if_pos h
theorem mIns_s {xs : List D} {i : Int} {d : D} (h : xs.length < 16777216) (h0 : 0 ≤ i) (h1 : i < 9223372036854775808) : mIns xs [.int i, d] = some (.d .none, xs.take i.toNat ++ d :: xs.drop i.toNat) := if_pos ⟨h, h0, h1⟩
end Mi
namespace Mi
open PySem L2
theorem truD_l {xs : List D} : truD (.list xs) = some (!xs.isEmpty) := rfl
theorem truD_t {xs : List D} : truD (.tuple xs) = some (!xs.isEmpty) := rfl
theorem truD_b {b : Bool} : truD (.bool b) = some b := rfl
theorem truD_n : truD .none = some false := rfl
theorem atI_map {α : Type} (f : α → D) (l : List α) {k : Int} (h0 : 0 ≤ k) (h1 : k < l.length) : ∃ x ∈ l, atI (l.map f) k = some (f x) := by
  have h2 : k.toNat < l.length := by omega
  refine ⟨l[k.toNat], List.getElem_mem h2, ?_⟩
  have : atI (l.map f) ((k.toNat : Nat) : Int) = some (f l[k.toNat]) := atI_nat (by simp [h2])
  rwa [Int.toNat_of_nonneg h0] at this
end Mi
namespace Mi
open PySem L2
/-- a comprehension that maps -/
theorem cmpL_map {tg : Tg} {tt : MT} {te : ME} {vs : List Nat} {f : D → D} {e : Env} : ∀ {xs : List D}, (∀ x ∈ xs, ∃ e0, tg x e = some e0 ∧ Wp (tt e0) fun c e1 => c = true ∧ Wp (te e1) fun w e2 => vw w = f x ∧ wipeE e2 vs = e) → cmpL tg tt te vs xs e = .ok (xs.map f) e
  | [], _ => rfl
  | x :: xs, h => by
    obtain ⟨e0, h1, c, e1, h2, rfl, w, e2, h3, h4, h5⟩ := h x List.mem_cons_self
    rw [cmpL_c, h1, kc0_s, h2, kc1_t, h3, kc2_ok, h5, cmpL_map fun y hy => h y (List.mem_cons_of_mem _ hy), h4]
    rfl
/-- a loop that folds a state of one's own -/
theorem forL_fold {α β : Type} {tg : Tg} {b : MS} {dat : α → D} {step : β → α → β} {env : β → Env → Prop} {P : β → Prop} : ∀ {xs : List α} {s : β} {e : Env}, env s e → P s → (∀ (x : α) (s : β) (e : Env), x ∈ xs → P s → env s e → P (step s x) ∧ ∃ e0, tg (dat x) e = some e0 ∧ Wp (b e0) fun o e1 => (o = .nx ∨ o = .ct) ∧ env (step s x) e1) →
    ∃ e', forL tg b (xs.map dat) e = .ok .nx e' ∧ env (xs.foldl step s) e' ∧ P (xs.foldl step s)
  | [], s, e, he, hp, _ => ⟨e, rfl, he, hp⟩
  | x :: xs, s, e, he, hp, h => by
    obtain ⟨hp1, e0, h1, o, e1, h2, ho, h3⟩ := h x s e List.mem_cons_self hp he
    obtain ⟨e', h4, h5, h6⟩ := forL_fold (xs := xs) h3 hp1 fun y s e hy => h y s e (List.mem_cons_of_mem _ hy)
    refine ⟨e', ?_, h5, h6⟩
    rw [List.map_cons, ev_forC, h1]
    show kFor1 tg b (xs.map dat) (b e0) = _
    rw [h2]
    rcases ho with rfl | rfl <;> exact h4
theorem ev_aug {i : Nat} {g : Int → Int → Int} {m : ME} {e : Env} : sAug i g m e = kAug i g (e.getD i none) (m e) := rfl
theorem kAug_ok {i : Nat} {g : Int → Int → Int} {x y : Int} {e : Env} : kAug i g (some (.d (.int x))) (.ok (.d (.int y)) e) = .ok .nx (e.set i (some (.d (.int (g x y))))) := rfl
end Mi
set_option Elab.async false
set_option linter.all false
set_option maxRecDepth 100000
set_option maxHeartbeats 4000000
namespace Mi
open PySem L2
/-! ### data that can be compared and shown -/
mutual
def nice : D → Bool
  | .none | .bool _ => true
  | .int i => decide (i.natAbs.log2 < 1000)
  | .str x => (x.cps.toList.all fun c => decide (c < 0x110000)) && decide (x.length ≤ 100)
  | .list xs | .tuple xs => niceAll xs
  | .dict _ => false
def niceAll : List D → Bool
  | [] => true
  | x :: xs => nice x && niceAll xs
end
mutual
def nodes : D → Nat
  | .list xs | .tuple xs => nodesAll xs + 1
  | _ => 1
def nodesAll : List D → Nat
  | [] => 0
  | x :: xs => nodes x + nodesAll xs
end
theorem niceAll_iff : ∀ {xs : List D}, niceAll xs = true ↔ ∀ x ∈ xs, nice x = true
  | [] => by simp [niceAll]
  | x :: xs => by simp [niceAll, niceAll_iff (xs := xs)]
mutual
theorem nice_lay : ∀ d : D, nice d = true → d.canLay0 = true
  | .none, _ => rfl
  | .bool _, _ => rfl
  | .int _, _ => rfl
  | .str x, h => by
    simp only [nice, Bool.and_eq_true] at h
    simp only [PyData.canLay0, PyData.strOk]
    rw [← Array.all_toList]
    exact h.1
  | .list xs, h => by simp only [nice] at h; simp only [PyData.canLay0]; exact nice_layAll xs h
  | .tuple xs, h => by simp only [nice] at h; simp only [PyData.canLay0]; exact nice_layAll xs h
  | .dict _, h => by simp [nice] at h
theorem nice_layAll : ∀ xs : List D, niceAll xs = true → PyData.canLayAll0 xs = true
  | [], _ => rfl
  | x :: xs, h => by
    simp only [niceAll, Bool.and_eq_true] at h
    simp only [PyData.canLayAll0, Bool.and_eq_true]
    exact ⟨nice_lay x h.1, nice_layAll xs h.2⟩
end
mutual
theorem nice_show : ∀ d : D, nice d = true → d.showable = true
  | .none, _ => rfl
  | .bool _, _ => rfl
  | .int i, h => by
    simp only [nice, decide_eq_true_eq] at h
    simp only [PyData.showable, decide_eq_true_eq]
    omega
  | .str x, h => rfl
  | .list xs, h => by simp only [nice] at h; simp only [PyData.showable]; exact nice_showAll xs h
  | .tuple xs, h => by simp only [nice] at h; simp only [PyData.showable]; exact nice_showAll xs h
  | .dict _, h => by simp [nice] at h
theorem nice_showAll : ∀ xs : List D, niceAll xs = true → PyData.showableAll xs = true
  | [], _ => rfl
  | x :: xs, h => by
    simp only [niceAll, Bool.and_eq_true] at h
    simp only [PyData.showableAll, Bool.and_eq_true]
    exact ⟨nice_show x h.1, nice_showAll xs h.2⟩
end
theorem nodes_pos : ∀ d : D, 1 ≤ nodes d
  | .none => Nat.le_refl _
  | .bool _ => Nat.le_refl _
  | .int _ => Nat.le_refl _
  | .str _ => Nat.le_refl _
  | .list xs => by simp [nodes]
  | .tuple xs => by simp [nodes]
  | .dict _ => Nat.le_refl _
mutual
theorem nice_len : ∀ d : D, nice d = true → d.shown.length + 2 ≤ 1007 * nodes d
  | .none, _ => by decide
  | .bool b, _ => by cases b <;> decide
  | .int i, h => by
    simp only [nice, decide_eq_true_eq] at h
    have e := int_text_length_le (k := 1000) (by decide) h
    show (Str.ofString (toString i)).length + 2 ≤ _
    rw [ofString_length]
    simp only [nodes]
    omega
  | .str x, h => by
    simp only [nice, Bool.and_eq_true, decide_eq_true_eq] at h
    have e := StrLaws.reprText_len x fun c hc => by
      have := List.all_eq_true.mp h.1 c hc
      have := of_decide_eq_true this
      omega
    simp only [PyData.shown, nodes]
    omega
  | .list xs, h => by
    simp only [nice] at h
    have e := nice_lenAll xs h
    have e2 := listText_len_le (PyData.shownAll xs)
    have e3 : (PyData.shownAll xs).length = xs.length := shownAll_len xs
    simp only [PyData.shown, nodes]
    omega
  | .tuple xs, h => by
    simp only [nice] at h
    have e := nice_lenAll xs h
    have e2 := tupleText_len_le (PyData.shownAll xs)
    have e3 : (PyData.shownAll xs).length = xs.length := shownAll_len xs
    simp only [PyData.shown, nodes]
    omega
  | .dict _, h => by simp [nice] at h
theorem nice_lenAll : ∀ xs : List D, niceAll xs = true → ((PyData.shownAll xs).map (·.length)).sum + 2 * xs.length ≤ 1007 * nodesAll xs
  | [], _ => by simp [PyData.shownAll, nodesAll]
  | x :: xs, h => by
    simp only [niceAll, Bool.and_eq_true] at h
    have e1 := nice_len x h.1
    have e2 := nice_lenAll xs h.2
    simp only [PyData.shownAll, List.map_cons, List.sum_cons, List.length_cons, nodesAll]
    omega
theorem shownAll_len : ∀ xs : List D, (PyData.shownAll xs).length = xs.length
  | [] => rfl
  | x :: xs => by simp only [PyData.shownAll, List.length_cons, shownAll_len xs]
end
theorem nice_shaped {d : D} (h : nice d = true) (h2 : d.depth ≤ 64) : SeqAt.shaped d = true := by
  unfold SeqAt.shaped
  rw [nice_lay d h, decide_eq_true h2]; rfl
theorem eqv_self {d : D} (h : nice d = true) : PyData.eqv d d = true := SeqAt.eqv_refl d (nice_lay d h)
theorem bRepr_nice {d : D} (h : nice d = true) (hn : nodes d ≤ 16000) (h2 : d.depth ≤ 64) : bRepr [d] = some (.d (.str d.shown)) := by
  have := nice_len d h
  exact if_pos ⟨nice_show d h, by omega, h2⟩
theorem cEq_nice {x y : D} (hx : nice x = true) (hy : nice y = true) (h1 : x.depth ≤ 64) (h2 : y.depth ≤ 64) : cEq x y = some (PyData.eqv x y) := by
  unfold cEq
  split
  · rfl
  · rw [if_pos ⟨nice_shaped hx h1, nice_shaped hy h2⟩]
end Mi
namespace Mi
open PySem L2
theorem cIn_l {x : D} {ds : List D} (h1 : SeqAt.shaped x = true) (h2 : SeqAt.shaped (.list ds) = true) : cIn x (.list ds) = some (ds.any fun z => PyData.eqv z x) := if_pos ⟨h1, h2⟩
theorem cNotIn_l {x : D} {ds : List D} (h1 : SeqAt.shaped x = true) (h2 : SeqAt.shaped (.list ds) = true) : cNotIn x (.list ds) = some (!ds.any fun z => PyData.eqv z x) := if_pos ⟨h1, h2⟩
theorem cEq_sh {x y : D} (hx : SeqAt.shaped x = true) (hy : SeqAt.shaped y = true) : cEq x y = some (PyData.eqv x y) := by
  unfold cEq
  split
  · rfl
  · rw [if_pos ⟨hx, hy⟩]
theorem cNe_sh {x y : D} (hx : SeqAt.shaped x = true) (hy : SeqAt.shaped y = true) : cNe x y = some (!PyData.eqv x y) := by
  unfold cNe
  split
  · rfl
  · rw [if_pos ⟨hx, hy⟩]
end Mi
set_option Elab.async false
set_option linter.all false
set_option maxRecDepth 100000
set_option maxHeartbeats 4000000
namespace Mi
open PySem L2
local macro_rules | `(tactic| walk_at "ev") => `(tactic| simp only [
ev_seq, ev_if, ev_ifE, ev_nx, ev_bk, ev_ct, ev_E, ev_set, ev_tg, ev_ret, ev_retO, ev_retN, ev_put, ev_for, ev_C, ev_V, ev_vr, ev_ex, ev_o1, ev_o2, ev_t2, ev_tru, ev_and, ev_or, ev_not, ev_yes, ev_andE, ev_orE, ev_notE, ev_LN, ev_LC, ev_B, ev_TN, ev_TC, ev_tup, ev_lst, ev_GN, ev_GV, ev_GR, ev_call, ev_mu, ev_lc, ev_any, ev_r1, ev_r2, ev_rep,
 kS_nx, kS_bk, kS_ct, kS_rt, kIf_t, kIf_f, kM_ok, kSet_ok, kAnd_t, kAnd_f, kOr_t, kOr_f, kAndE_t, kAndE_f, kOrE_t, kOrE_f, kNotE_b, oVr_s, kO1_l, kO1_r, kO2_ok, kO2'_ok, g2_ss, gv_l, gv_r, kL_ok, kL'_ok, kB_ok, gB_s, gvL_n, gvL_c, kV_ss, kT_ok, kT'_ok, kG_ok, kG'_ok, gG_s, kC_ok, kC1_s, kC2_ok, kP_s, take_n, take_l, tk1_l, take_r, tkL_s, tkD_s, put_n, put_l, put_r, pt1_s, kPut1_ok, kPut2_ok, gPut_l, isL_l, kMu_ok, gMu_l, kFor_ok, kLc_ok, kSeqI_l, kSeqI_l', kSeqI_t, kR1_i, kR2_ok, kR2'_i, kTru_l, kTru_r, kRep_ok, kRep2_i, rV_d, rV_l, kF_r, kF_n, kFr_s, cont_n, cont_c, ct1_s, wp_ok, wpC_ok, atI_0, atI_1, atI_2, atI_3, fIx_l, fIx_t,
 List.length_cons, List.length_nil, Nat.zero_add, Nat.reduceAdd, Int.reduceLT, Int.reduceLE, Int.reduceAdd, Int.reduceMul, Int.reduceToNat, Int.reduceNeg, Int.reduceSub, Nat.reduceLT, Nat.reduceLeDiff, Nat.reduceMul, gt_iff_lt, ge_iff_le, ixN_4_0, ixN_4_1, ixN_4_2, ixN_4_3, wipe_n, wipe_c, tgN_r, tgT_r, tgL_n, tgL_c, ofO_some, vw_d, vw_l, fAddI_int, fSub_int, fNeg_int, fMod_p, fMul_31, fMul_48271, fMul_69621, fPow18, fPow9, cCmp_int, cEq_int, cNe_int, cEq_str, cNe_str, cOrd_int, ev_aug, kAug_ok, cIs_none, cIsNot_none, isNone_none, isNone_int, isNone_str, isNone_tuple, isNone_list, isNone_bool, truD_l, truD_t, truD_b, truD_n, bLen_l, bLen_t, bAbs_int, bInt_int, bMax_int, bMin_int, bList_l, bList_t, bTuple_l, bTuple_t, Option.map_some, Option.bind_some, List.getD_cons_zero, List.getD_cons_succ, List.set_cons_zero, List.set_cons_succ, if_true, if_false, lB, ↓reduceIte, Bool.not_true, Bool.not_false
])
def M4b0 (C : Orc) : MS :=
 (sSet 1 (eO2 fMod (.ex (eB bInt [(.ex (eO2 fAddI (.ex (eO2 fMul (.vr 1) (.ex (eC (.int 31))))) (.ex (eB bAbs [(.ex (eB bInt [(.vr 2)]))]))))])) (.ex (eC (.int 2147483647)))))
/-- _law_tape -/
def M4 (C : Orc) : MS :=
 (sSeq (sSet 1 (eC (.int 7)))
 (sSeq (sFor (iAny (eV 0)) (tgN 2)
 (M4b0 C))
 (sRetO (eLst [(eB bList [(.vr 0)]), (eC (.int 0)), (eC (.int 0)), (eV 1)]))))
def F4 (C : Orc) : List W → CRes := runF 1 3 [] (M4 C)
/-- _law_draw -/
def M5 (C : Orc) : MS :=
 (sSeq (sIf (tO2 cEq (.ex (eO2 fIx (.vr 0) (.ex (eC (.int 2))))) (.ex (eC (.int 0))))
 (sSeq (sSet 2 (eO2 fIx (.vr 0) (.ex (eC (.int 1)))))
 (sSeq (sSet 3 (eC (.int 0)))
 (sSeq (sIf (tO2 cLt (.vr 2) (.ex (eB bLen [(.ex (eO2 fIx (.vr 0) (.ex (eC (.int 0)))))])))
 (sSet 3 (eB bAbs [(.ex (eB bInt [(.ex (eO2 fIx (.ex (eO2 fIx (.vr 0) (.ex (eC (.int 0))))) (.vr 2)))]))]))
 (sSeq (sPut 0 (eC (.int 3)) (eO2 fMod (.ex (eB bInt [(.ex (eO2 fAddI (.ex (eO2 fAddI (.ex (eO2 fMul (.ex (eO2 fIx (.vr 0) (.ex (eC (.int 3))))) (.ex (eC (.int 48271))))) (.vr 2))) (.ex (eC (.int 1)))))])) (.ex (eC (.int 2147483647)))))
 (sSet 3 (eO2 fIx (.vr 0) (.ex (eC (.int 3)))))))
 (sSeq (sPut 0 (eC (.int 1)) (eO2 fAddI (.vr 2) (.ex (eC (.int 1)))))
 (sSeq (sIf (tO2 cLt (.vr 3) (.ex (eO2 fPow (.ex (eC (.int 10))) (.ex (eC (.int 18))))))
 (sSeq (sSet 3 (eO2 fMod (.ex (eB bInt [(.ex (eO2 fAddI (.ex (eO2 fAddI (.ex (eO2 fMul (.vr 3) (.ex (eC (.int 48271))))) (.ex (eO2 fMul (.vr 2) (.ex (eC (.int 69621))))))) (.ex (eC (.int 5)))))])) (.ex (eC (.int 2147483647)))))
 (sSeq (sSet 3 (eO2 fMod (.ex (eB bInt [(.ex (eO2 fMul (.vr 3) (.ex (eC (.int 69621)))))])) (.ex (eC (.int 2147483629)))))
 (sRet (eO2 fMod (.ex (eB bInt [(.vr 3)])) (.ex (eB bMax [(.vr 1), (.ex (eC (.int 1)))]))))))
 sNx)
 (sPut 0 (eC (.int 2)) (eV 3)))))))
 sNx)
 (sSeq (sSet 3 (eO2 fIx (.vr 0) (.ex (eC (.int 2)))))
 (sSeq (sPut 0 (eC (.int 2)) (eO2 fDiv (.vr 3) (.ex (eB bMax [(.vr 1), (.ex (eC (.int 2)))]))))
 (sRet (eO2 fMod (.ex (eB bInt [(.vr 3)])) (.ex (eB bMax [(.vr 1), (.ex (eC (.int 1)))])))))))
def F5 (C : Orc) : List W → CRes := runF 2 4 [0] (M5 C)
/-- _law_price -/
def M6 (C : Orc) : MS :=
 (sSeq (sIf (tO2 cEq (.ex (eCall C 5 [.rf 0, .vl (eC (.int 8))])) (.ex (eC (.int 0))))
 (sRet (eC .none))
 sNx)
 (sSeq (sSet 3 (eCall C 5 [.rf 0, .vl (eO2 fIx (.ex (eLst [(eC (.int 1)), (eC (.int 2)), (eC (.int 10)), (eO2 fAddI (.ex (eO2 fPow (.ex (eC (.int 10))) (.ex (eC (.int 9))))) (.ex (eC (.int 1))))])) (.vr 1))]))
 (sSeq (sIf (tAnd' (tO2 cEq (.vr 2) (.ex (eC (.int 1)))) (tO2 cEq (.ex (eCall C 5 [.rf 0, .vl (eC (.int 3))])) (.ex (eC (.int 0)))))
 (sSet 3 (eO1 fNeg (.vr 3)))
 sNx)
 (sRet (eV 3)))))
def F6 (C : Orc) : List W → CRes := runF 3 4 [0] (M6 C)
def M7b0 (C : Orc) : MS :=
 (sSeq (sSet 12 (eCall C 5 [.rf 0, .vl (eV 4)]))
 (sSeq (sIf (tO2 cEq (.vr 5) (.ex (eC (.int 0))))
 (sSet 12 (eO2 fAddI (.ex (eO2 fAddI (.vr 9) (.ex (eC (.int 1))))) (.vr 12)))
 sNx)
 (sSeq (sIf (tO2 cEq (.vr 5) (.ex (eC (.int 1))))
 (sSet 12 (eO2 fSub (.ex (eO2 fSub (.vr 9) (.ex (eC (.int 1))))) (.vr 12)))
 sNx)
 (sIf (tAnd' (tO2 cLe (.ex (eC (.int 0))) (.vr 12)) (tO2 cLt (.vr 12) (.vr 4)))
 (sE (eMu mApp 10 [(eV 12)]))
 sNx))))
def M7b1 (C : Orc) : MS :=
 (sSeq (sSet 9 (eCall C 5 [.rf 0, .vl (eV 4)]))
 (sSeq (sSet 10 (eLst []))
 (sSeq (sFor (iR1 (eO2 fIx (.ex (eLst [(eC (.int 0)), (eC (.int 1)), (eC (.int 1)), (eC (.int 2)), (eC (.int 2)), (eC (.int 3))])) (.ex (eCall C 5 [.rf 0, .vl (eC (.int 6))])))) (tgN 11)
 (M7b0 C))
 (sSeq (sSet 13 (eTup [(eV 9), (eB bTuple [(.vr 10)]), (eCall C 6 [.rf 0, .vl (eV 6), .vl (eV 3)])]))
 (sSeq (sIf (tAnd' (tTru (.vr 7)) (tO2 cEq (.ex (eCall C 5 [.rf 0, .vl (eC (.int 8))])) (.ex (eC (.int 0)))))
 (sSet 13 (eO2 fIx (.vr 7) (.ex (eCall C 5 [.rf 0, .vl (eB bLen [(.vr 7)])]))))
 sNx)
 (sE (eMu mApp 7 [(eV 13)])))))))
def M7b2 (C : Orc) : MS :=
 (sE (eMu mIns 7 [(eCall C 5 [.rf 0, .vl (eO2 fAddI (.ex (eB bLen [(.vr 7)])) (.ex (eC (.int 1))))]), (eTup [(eV 14), (eTup []), (eCall C 6 [.rf 0, .vl (eV 6), .vl (eV 3)])])]))
/-- _law_family -/
def M7 (C : Orc) : MS :=
 (sSeq (sSet 4 (eO2 fAddI (.ex (eC (.int 1))) (.ex (eCall C 5 [.rf 0, .vl (eV 1)]))))
 (sSeq (sSet 5 (eCall C 5 [.rf 0, .vl (eC (.int 8))]))
 (sSeq (sSet 6 (eCall C 5 [.rf 0, .vl (eC (.int 4))]))
 (sSeq (sSet 7 (eLst []))
 (sSeq (sFor (iR1 (eCall C 5 [.rf 0, .vl (eO2 fAddI (.vr 2) (.ex (eC (.int 1))))])) (tgN 8)
 (M7b1 C))
 (sSeq (sIf (tO2 cEq (.ex (eCall C 5 [.rf 0, .vl (eC (.int 2))])) (.ex (eC (.int 0))))
 (sFor (iR1 (eV 4)) (tgN 14)
 (M7b2 C))
 sNx)
 (sSeq (sSet 15 (eLc (iR1 (eV 4)) (tgN 14) (tO2 cGt (.ex (eCall C 5 [.rf 0, .vl (eC (.int 3))])) (.ex (eC (.int 0)))) (eV 14) [14]))
 (sSeq (sIf (tAnd' (tNot' (tTru (.vr 15))) (tO2 cGt (.ex (eCall C 5 [.rf 0, .vl (eC (.int 8))])) (.ex (eC (.int 0)))))
 (sSet 15 (eLst [(eCall C 5 [.rf 0, .vl (eV 4)])]))
 sNx)
 (sRet (eTup [(eV 4), (eB bTuple [(.vr 15)]), (eB bTuple [(.vr 7)])]))))))))))
def F7 (C : Orc) : List W → CRes := runF 4 16 [0] (M7 C)
/-- _law_same -/
def M8 (C : Orc) : MS :=
 (sRet (eAnd (eO2 (lB cEq) (.vr 0) (.vr 1)) (eO2 (lB cEq) (.ex (eB bRepr [(.vr 0)])) (.ex (eB bRepr [(.vr 1)])))))
def F8 (C : Orc) : List W → CRes := runF 2 2 [] (M8 C)
/-- a tape -/
def TapeOk (t : List D) : Prop := ∃ (ns : List Int) (p b s : Int), t = [.list (ns.map PyData.int), .int p, .int b, .int s] ∧ 0 ≤ p ∧ 0 ≤ b
theorem bMax1 (m : Int) : (0 : Int) < (if 1 > m then 1 else m) := by split <;> omega
theorem bMax2 (m : Int) : (0 : Int) < (if 2 > m then 2 else m) := by split <;> omega
theorem draw_ok (C : Orc) {t : List D} (h : TapeOk t) (m : Int) (hm : m.natAbs.log2 < 9000) : ∃ k t', F5 C [.l t, .d (.int m)] = .ok (.d (.int k)) [t'] ∧ TapeOk t' ∧ 0 ≤ k ∧ k < max m 1 := by
  obtain ⟨ns, p, b, s, rfl, hp, hb⟩ := h
  have hmax : (if 1 > m then 1 else m) = max m 1 := by split <;> omega
  have hm1 := bMax1 m
  have hm2 := bMax2 m
  have hlog : (if 2 > m then 2 else m).natAbs.log2 < 9000 := by
    split
    · decide
    · exact hm
  -- what is returned: a rest
  have rest : ∀ x : Int, 0 ≤ x % (if 1 > m then 1 else m) ∧ x % (if 1 > m then 1 else m) < max m 1 := fun x => by
    rw [← hmax]
    exact ⟨Int.emod_nonneg _ (by omega), Int.emod_lt_of_pos _ hm1⟩
  have run : WpC (F5 C [.l [.list (ns.map PyData.int), .int p, .int b, .int s], .d (.int m)]) fun w o => ∃ x t', w = .d (.int (x % (if 1 > m then 1 else m))) ∧ o = [t'] ∧ TapeOk t' := by
    refine wpC_run (m := M5 C) rfl rfl ?_
    simp only [List.map_cons, List.map_nil, List.cons_append, List.nil_append, List.replicate]
    unfold M5
    walk_at "ev"
    -- the end: from a number x ≥ 0
    have tail : ∀ (q x : Int) (e2 : Option W), 0 ≤ q → 0 ≤ x → TapeOk [.list (ns.map PyData.int), .int q, .int (x / (if 2 > m then 2 else m)), .int s] := fun q x e2 hq hx => ⟨ns, q, _, s, rfl, hq, Int.ediv_nonneg hx (by omega)⟩
    cases hb0 : (b == 0) with
    | false =>
      walk_at "ev"
      rw [fDiv_p hm2 hlog]
      walk_at "ev"
      rw [fMod_p hm1]
      walk_at "ev"
      exact ⟨b, _, rfl, rfl, tail p b none hp hb⟩
    | true =>
      walk_at "ev"
      cases hpl : decide (p < ((ns.map PyData.int).length : Int)) with
      | true =>
        have hp2 : p < ns.length := by simpa using of_decide_eq_true hpl
        obtain ⟨k, hk⟩ := atI_int hp hp2
        walk_at "ev"
        rw [hk]
        walk_at "ev"
        have hx : 0 ≤ (if k < 0 then -k else k) := by split <;> omega
        generalize (if k < 0 then -k else k) = x at hx ⊢
        cases hx0 : decide (x < 1000000000000000000) with
        | true =>
          walk_at "ev"
          rw [fMod_p hm1]
          walk_at "ev"
          exact ⟨_, _, rfl, rfl, ns, p + 1, b, _, rfl, by omega, hb⟩
        | false =>
          walk_at "ev"
          rw [fDiv_p hm2 hlog]
          walk_at "ev"
          rw [fMod_p hm1]
          walk_at "ev"
          exact ⟨x, _, rfl, rfl, ns, p + 1, _, _, rfl, by omega, Int.ediv_nonneg hx (by omega)⟩
      | false =>
        walk_at "ev"
        have hx : 0 ≤ (s * 48271 + p + 1) % 2147483647 := Int.emod_nonneg _ (by decide)
        generalize (s * 48271 + p + 1) % 2147483647 = x at hx ⊢
        cases hx0 : decide (x < 1000000000000000000) with
        | true =>
          walk_at "ev"
          rw [fMod_p hm1]
          walk_at "ev"
          exact ⟨_, _, rfl, rfl, ns, p + 1, b, _, rfl, by omega, hb⟩
        | false =>
          walk_at "ev"
          rw [fDiv_p hm2 hlog]
          walk_at "ev"
          rw [fMod_p hm1]
          walk_at "ev"
          exact ⟨x, _, rfl, rfl, ns, p + 1, _, _, rfl, by omega, Int.ediv_nonneg hx (by omega)⟩
  obtain ⟨w, o, h1, x, t', rfl, rfl, ht⟩ := run
  exact ⟨_, t', h1, ht, (rest x).1, (rest x).2⟩
def DrawS (C : Orc) : Prop := ∀ t, TapeOk t → ∀ m : Int, m.natAbs.log2 < 9000 → ∃ (k : Int) (t' : List D), C 5 [.l t, .d (.int m)] = .ok (.d (.int k)) [t'] ∧ TapeOk t' ∧ 0 ≤ k ∧ k < max m 1
theorem log_small {m : Int} (h : m.natAbs < 2 ^ 64) : m.natAbs.log2 < 9000 := by
  by_cases h0 : m.natAbs = 0
  · rw [h0]; decide
  · exact Nat.lt_trans ((Nat.log2_lt h0).mpr h) (by decide)
/-! ### the tape's beginning -/
theorem forAll_ints {tg : Tg} {b : MS} {ns : List Int} {e : Env} (Inv : Env → Prop) (h0 : Inv e) (step : ∀ (n : Int) (e : Env), Inv e → ∃ e0, tg (.int n) e = some e0 ∧ Wp (b e0) fun o e1 => (o = .nx ∨ o = .ct) ∧ Inv e1) : ∃ e', forL tg b (ns.map PyData.int) e = .ok .nx e' ∧ Inv e' := by
  refine forL_inv (fun _ e => Inv e) h0 fun pre x post e he hi => ?_
  have hx : x ∈ ns.map PyData.int := by rw [he]; simp
  obtain ⟨n, _, rfl⟩ := List.mem_map.mp hx
  exact step n e hi
theorem tape_ok (C : Orc) (ns : List Int) : ∃ t, F4 C [.d (.list (ns.map PyData.int))] = .ok (.l t) [] ∧ TapeOk t := by
  have run : WpC (F4 C [.d (.list (ns.map PyData.int))]) fun w o => o = [] ∧ ∃ t, w = .l t ∧ TapeOk t := by
    refine wpC_run (m := M4 C) rfl rfl ?_
    simp only [List.map_cons, List.map_nil, List.cons_append, List.nil_append, List.replicate]
    unfold M4
    walk_at "ev"
    obtain ⟨e', h, s, x, rfl⟩ := forAll_ints (ns := ns) (e := [some (W.d (PyData.list (List.map PyData.int ns))), some (W.d (PyData.int 7)), none]) (tg := tgN 2) (b := M4b0 C)
      (fun e => ∃ (s : Int) (x : Option W), e = [some (.d (.list (ns.map PyData.int))), some (.d (.int s)), x]) ⟨7, none, rfl⟩ (fun n e hi => by
        obtain ⟨s, x, rfl⟩ := hi
        refine ⟨_, rfl, ?_⟩
        unfold M4b0
        walk_at "ev"
        exact ⟨by simp, _, _, rfl⟩)
    rw [h]
    walk_at "ev"
    refine ⟨by trivial, _, rfl, ns, 0, 0, s, rfl, by decide, by decide⟩
  obtain ⟨w, o, h, rfl, t, rfl, ht⟩ := run
  exact ⟨t, h, ht⟩
/-! ### prices -/
def priceD : Option Int → D
  | none => .none
  | some i => .int i
theorem price_ok (C : Orc) (hD : DrawS C) {t : List D} (ht : TapeOk t) (mode low : Int) (h0 : 0 ≤ mode) (h3 : mode < 4) : ∃ (p : Option Int) (t' : List D), F6 C [.l t, .d (.int mode), .d (.int low)] = .ok (.d (priceD p)) [t'] ∧ TapeOk t' ∧ ∀ i, p = some i → -1000000000 ≤ i ∧ i ≤ 1000000000 ∧ (low ≠ 1 → 0 ≤ i) := by
  have run : WpC (F6 C [.l t, .d (.int mode), .d (.int low)]) fun w o => ∃ (p : Option Int) (t' : List D), w = .d (priceD p) ∧ o = [t'] ∧ TapeOk t' ∧ ∀ i, p = some i → -1000000000 ≤ i ∧ i ≤ 1000000000 ∧ (low ≠ 1 → 0 ≤ i) := by
    refine wpC_run (m := M6 C) rfl rfl ?_
    simp only [List.map_cons, List.map_nil, List.cons_append, List.nil_append, List.replicate]
    unfold M6
    walk_at "ev"
    obtain ⟨k, t1, hc, ht1, hk0, hk1⟩ := hD t ht 8 (by decide)
    rw [hc]
    walk_at "ev"
    cases hk : (k == 0) with
    | true =>
      walk_at "ev"
      exact ⟨none, t1, rfl, rfl, ht1, fun i h => by cases h⟩
    | false =>
      walk_at "ev"
      have hm : ∃ m : Int, atI [PyData.int 1, PyData.int 2, PyData.int 10, PyData.int 1000000001] mode = some (.int m) ∧ m.natAbs < 2 ^ 64 ∧ 0 < m ∧ m ≤ 1000000001 := by
        rcases (show mode = 0 ∨ mode = 1 ∨ mode = 2 ∨ mode = 3 by omega) with rfl | rfl | rfl | rfl
        · exact ⟨1, atI_0, by decide, by decide, by decide⟩
        · exact ⟨2, atI_1, by decide, by decide, by decide⟩
        · exact ⟨10, atI_2, by decide, by decide, by decide⟩
        · exact ⟨1000000001, atI_3, by decide, by decide, by decide⟩
      obtain ⟨m, hm1, hm2, hm3, hm4⟩ := hm
      rw [hm1]
      walk_at "ev"
      obtain ⟨k2, t2, hc2, ht2, hk20, hk21⟩ := hD t1 ht1 m (log_small hm2)
      rw [hc2]
      walk_at "ev"
      have hb : k2 ≤ 1000000000 := by omega
      cases hl : (low == 1) with
      | false =>
        walk_at "ev"
        exact ⟨some k2, t2, rfl, rfl, ht2, fun i h => by cases h; exact ⟨by omega, hb, fun _ => hk20⟩⟩
      | true =>
        walk_at "ev"
        obtain ⟨k3, t3, hc3, ht3, _⟩ := hD t2 ht2 3 (by decide)
        rw [hc3]
        walk_at "ev"
        cases hk3 : (k3 == 0) with
        | true =>
          walk_at "ev"
          refine ⟨some (-k2), t3, rfl, rfl, ht3, fun i h => ?_⟩
          cases h
          exact ⟨by omega, by omega, fun z => absurd (eq_of_beq hl) z⟩
        | false =>
          walk_at "ev"
          exact ⟨some k2, t3, rfl, rfl, ht3, fun i h => by cases h; exact ⟨by omega, hb, fun _ => hk20⟩⟩
  obtain ⟨w, o, h, p, t', rfl, rfl, h1, h2⟩ := run
  exact ⟨p, t', h, h1, h2⟩

/-! ### families -/
structure Var where
  plug : Nat
  slots : List Nat
  price : Option Int
def natD (n : Nat) : D := .int (n : Int)
def Var.dat (v : Var) : D := .tuple [natD v.plug, .tuple (v.slots.map natD), priceD v.price]
structure Fam where
  count : Nat
  roots : List Nat
  vars : List Var
def Fam.dat (f : Fam) : D := .tuple [natD f.count, .tuple (f.roots.map natD), .tuple (f.vars.map Var.dat)]
structure Var.Ok (count : Nat) (low : Int) (v : Var) : Prop where
  plug : v.plug < count
  slots : ∀ s ∈ v.slots, s < count
  len : v.slots.length ≤ 3
  price : ∀ i, v.price = some i → -1000000000 ≤ i ∧ i ≤ 1000000000 ∧ (low ≠ 1 → 0 ≤ i)
structure Fam.Ok (states variants : Nat) (low : Int) (f : Fam) : Prop where
  pos : 0 < f.count
  count : f.count ≤ states
  roots : ∀ r ∈ f.roots, r < f.count
  asc : f.roots.Pairwise (· < ·)
  vars : ∀ v ∈ f.vars, v.Ok f.count low
  len : f.vars.length ≤ variants + states
def PriceS (C : Orc) : Prop := ∀ t, TapeOk t → ∀ mode low : Int, 0 ≤ mode → mode < 4 → ∃ (p : Option Int) (t' : List D), C 6 [.l t, .d (.int mode), .d (.int low)] = .ok (.d (priceD p)) [t'] ∧ TapeOk t' ∧ ∀ i, p = some i → -1000000000 ≤ i ∧ i ≤ 1000000000 ∧ (low ≠ 1 → 0 ≤ i)
theorem max1 {n : Int} (h : 0 < n) : max n 1 = n := by omega
/-- one slot -/
theorem fam_b0 (C : Orc) (hD : DrawS C) {t : List D} (ht : TapeOk t) {cnt shape plug : Int} {sl : List Nat} {a1 a2 a3 a6 a7 a8 x11 x12 a13 a14 a15 : Option W} (hc : 0 < cnt) (hc2 : cnt ≤ 1000) (hsl : ∀ s ∈ sl, (s : Int) < cnt) (hl : sl.length ≤ 100) :
    Wp (M7b0 C [some (.l t), a1, a2, a3, some (.d (.int cnt)), some (.d (.int shape)), a6, a7, a8, some (.d (.int plug)), some (.l (sl.map natD)), x11, x12, a13, a14, a15]) fun o e => o = .nx ∧
      ∃ (t' : List D) (sl' : List Nat) (x : Option W), e = [some (.l t'), a1, a2, a3, some (.d (.int cnt)), some (.d (.int shape)), a6, a7, a8, some (.d (.int plug)), some (.l (sl'.map natD)), x11, x, a13, a14, a15] ∧ TapeOk t' ∧ (∀ s ∈ sl', (s : Int) < cnt) ∧ sl'.length ≤ sl.length + 1 := by
  unfold M7b0
  walk_at "ev"
  obtain ⟨k, t1, h1, ht1, hk0, hk1⟩ := hD t ht cnt (log_small (by omega))
  rw [h1]
  walk_at "ev"
  have fin : ∀ g : Int, Wp (kIf (sE (eMu mApp 10 [eV 12])) sNx (kAnd (tO2 cLt (Opd.vr 12) (Opd.vr 4)) (.ok (decide (0 ≤ g)) [some (.l t1), a1, a2, a3, some (.d (.int cnt)), some (.d (.int shape)), a6, a7, a8, some (.d (.int plug)), some (.l (sl.map natD)), x11, some (.d (.int g)), a13, a14, a15]))) (fun o e => o = .nx ∧
      ∃ (t' : List D) (sl' : List Nat) (x : Option W), e = [some (.l t'), a1, a2, a3, some (.d (.int cnt)), some (.d (.int shape)), a6, a7, a8, some (.d (.int plug)), some (.l (sl'.map natD)), x11, x, a13, a14, a15] ∧ TapeOk t' ∧ (∀ s ∈ sl', (s : Int) < cnt) ∧ sl'.length ≤ sl.length + 1) := fun g => by
    cases hg : decide (0 ≤ g) with
    | false =>
      walk_at "ev"
      exact ⟨by trivial, t1, sl, _, rfl, ht1, hsl, by omega⟩
    | true =>
      walk_at "ev"
      cases hg2 : decide (g < cnt) with
      | false =>
        walk_at "ev"
        exact ⟨by trivial, t1, sl, _, rfl, ht1, hsl, by omega⟩
      | true =>
        walk_at "ev"
        have g0 := of_decide_eq_true hg
        have g1 := of_decide_eq_true hg2
        rw [mApp_s (by rw [List.length_map]; omega)]
        walk_at "ev"
        refine ⟨by trivial, t1, sl ++ [g.toNat], some (.d (.int g)), ?_, ht1, fun s hs => ?_, by simp⟩
        · simp only [List.map_append, List.map_cons, List.map_nil, natD]
          rw [Int.toNat_of_nonneg g0]
        rcases List.mem_append.mp hs with hs | hs
        · exact hsl s hs
        · simp at hs
          omega
  cases hs0 : (shape == 0) with
  | true =>
    have hs1 : (shape == 1) = false := by
      rw [eq_of_beq hs0]; decide
    walk_at "ev"
    rw [hs1]
    walk_at "ev"
    exact fin _
  | false =>
    walk_at "ev"
    cases hs1 : (shape == 1) with
    | true =>
      walk_at "ev"
      exact fin _
    | false =>
      walk_at "ev"
      exact fin _
theorem list6 {k : Int} (h0 : 0 ≤ k) (h1 : k < 6) : ∃ n : Nat, atI [PyData.int 0, PyData.int 1, PyData.int 1, PyData.int 2, PyData.int 2, PyData.int 3] k = some (.int (n : Int)) ∧ n ≤ 3 := by
  rcases (show k = 0 ∨ k = 1 ∨ k = 2 ∨ k = 3 ∨ k = 4 ∨ k = 5 by omega) with rfl | rfl | rfl | rfl | rfl | rfl
  · exact ⟨0, rfl, by decide⟩
  · exact ⟨1, rfl, by decide⟩
  · exact ⟨1, rfl, by decide⟩
  · exact ⟨2, rfl, by decide⟩
  · exact ⟨2, rfl, by decide⟩
  · exact ⟨3, rfl, by decide⟩
/-- one variant -/
theorem fam_b1 (C : Orc) (hD : DrawS C) (hP : PriceS C) {t : List D} (ht : TapeOk t) {cnt shape mode low : Int} {vs : List Var} {a1 a2 x8 x9 x10 x11 x12 x13 a14 a15 : Option W} (hc : 0 < cnt) (hc2 : cnt ≤ 1000) (hm0 : 0 ≤ mode) (hm1 : mode < 4) (hvs : ∀ v ∈ vs, v.Ok cnt.toNat low) (hl : vs.length ≤ 10000) :
    Wp (M7b1 C [some (.l t), a1, a2, some (.d (.int low)), some (.d (.int cnt)), some (.d (.int shape)), some (.d (.int mode)), some (.l (vs.map Var.dat)), x8, x9, x10, x11, x12, x13, a14, a15]) fun o e => o = .nx ∧
      ∃ (t' : List D) (vs' : List Var) (y9 y10 y11 y12 y13 : Option W), e = [some (.l t'), a1, a2, some (.d (.int low)), some (.d (.int cnt)), some (.d (.int shape)), some (.d (.int mode)), some (.l (vs'.map Var.dat)), x8, y9, y10, y11, y12, y13, a14, a15] ∧ TapeOk t' ∧ (∀ v ∈ vs', v.Ok cnt.toNat low) ∧ vs'.length ≤ vs.length + 1 := by
  unfold M7b1
  walk_at "ev"
  obtain ⟨pl, t1, h1, ht1, hp0, hp1⟩ := hD t ht cnt (log_small (by omega))
  rw [h1]
  walk_at "ev"
  obtain ⟨k, t2, h2, ht2, hk0, hk1⟩ := hD t1 ht1 6 (by decide)
  rw [h2]
  walk_at "ev"
  obtain ⟨n, hn, hn3⟩ := list6 hk0 (show k < 6 by omega)
  rw [hn]
  walk_at "ev"
  rw [if_pos (by omega)]
  walk_at "ev"
  obtain ⟨e', hf, t3, sl, x11', x12', rfl, ht3, hsl, hsl2⟩ := forR_inv (tg := tgN 11) (b := M7b0 C) (lo := 0) (n := (n : Int).toNat)
    (e := [some (.l t2), a1, a2, some (.d (.int low)), some (.d (.int cnt)), some (.d (.int shape)), some (.d (.int mode)), some (.l (vs.map Var.dat)), x8, some (.d (.int pl)), some (.l []), x11, x12, x13, a14, a15])
    (fun i e => ∃ (t' : List D) (sl : List Nat) (x11' x12' : Option W), e = [some (.l t'), a1, a2, some (.d (.int low)), some (.d (.int cnt)), some (.d (.int shape)), some (.d (.int mode)), some (.l (vs.map Var.dat)), x8, some (.d (.int pl)), some (.l (sl.map natD)), x11', x12', x13, a14, a15] ∧ TapeOk t' ∧ (∀ s ∈ sl, (s : Int) < cnt) ∧ sl.length ≤ i)
    ⟨t2, [], x11, x12, rfl, ht2, (fun s h => by cases h), Nat.le_refl _⟩ (fun i e hi hI => by
      obtain ⟨t', sl, y11, y12, rfl, ht', hs1, hs2⟩ := hI
      refine ⟨_, rfl, ?_⟩
      walk_at "ev"
      refine (fam_b0 C hD ht' hc hc2 hs1 (by omega)).mono fun o e1 ⟨ho, t4, sl', x, he, ht4, h5, h6⟩ => ⟨.inl ho, t4, sl', _, x, he, ht4, h5, by omega⟩)
  rw [hf]
  walk_at "ev"
  obtain ⟨p, t4, h4, ht4, hpr⟩ := hP t3 ht3 mode low hm0 hm1
  rw [h4]
  walk_at "ev"
  have hsl4 : sl.length ≤ 3 := by omega
  -- the new variant
  have hv : (Var.mk pl.toNat sl p).Ok cnt.toNat low := ⟨by show pl.toNat < cnt.toNat; omega, fun s hs => by have := hsl s hs; omega, hsl4, hpr⟩
  have hvd : PyData.tuple [PyData.int pl, PyData.tuple (sl.map natD), priceD p] = (Var.mk pl.toNat sl p).dat := by
    unfold Var.dat natD
    show PyData.tuple [PyData.int pl, _, _] = PyData.tuple [PyData.int ((pl.toNat : Nat) : Int), _, _]
    rw [Int.toNat_of_nonneg hp0]
  rw [hvd]
  have fin : ∀ (t5 : List D) (v : Var), TapeOk t5 → v.Ok cnt.toNat low → ∃ (t' : List D) (vs' : List Var) (y9 y10 y11 y12 y13 : Option W), [some (.l t5), a1, a2, some (.d (.int low)), some (.d (.int cnt)), some (.d (.int shape)), some (.d (.int mode)), some (.l (vs.map Var.dat ++ [v.dat])), x8, some (.d (.int pl)), some (.l (sl.map natD)), x11', x12', some (.d v.dat), a14, a15] = [some (.l t'), a1, a2, some (.d (.int low)), some (.d (.int cnt)), some (.d (.int shape)), some (.d (.int mode)), some (.l (vs'.map Var.dat)), x8, y9, y10, y11, y12, y13, a14, a15] ∧ TapeOk t' ∧ (∀ v ∈ vs', v.Ok cnt.toNat low) ∧ vs'.length ≤ vs.length + 1 := fun t5 v ht5 hv5 => by
    refine ⟨t5, vs ++ [v], _, _, _, _, _, by simp only [List.map_append, List.map_cons, List.map_nil]; rfl, ht5, fun u hu => ?_, by simp⟩
    rcases List.mem_append.mp hu with hu | hu
    · exact hvs u hu
    · simp at hu
      rw [hu]; exact hv5
  have hlm : (vs.map Var.dat).length < 16777216 := by rw [List.length_map]; omega
  rw [show (vs.map Var.dat).isEmpty = vs.isEmpty by cases vs <;> rfl]
  cases hvs0 : vs.isEmpty with
  | true =>
    walk_at "ev"
    rw [mApp_s hlm]
    walk_at "ev"
    exact ⟨by trivial, fin t4 _ ht4 hv⟩
  | false =>
    walk_at "ev"
    obtain ⟨k5, t5, h5, ht5, _⟩ := hD t4 ht4 8 (by decide)
    rw [h5]
    walk_at "ev"
    cases hk5 : (k5 == 0) with
    | false =>
      walk_at "ev"
      rw [mApp_s hlm]
      walk_at "ev"
      exact ⟨by trivial, fin t5 _ ht5 hv⟩
    | true =>
      walk_at "ev"
      rw [List.length_map]
      obtain ⟨k6, t6, h6, ht6, hk60, hk61⟩ := hD t5 ht5 vs.length (log_small (by omega))
      rw [h6]
      walk_at "ev"
      have hne : 0 < vs.length := by
        cases vs with
        | nil => cases hvs0
        | cons _ _ => simp
      obtain ⟨v, hv1, hv2⟩ := atI_map Var.dat vs hk60 (by omega)
      rw [hv2]
      walk_at "ev"
      rw [mApp_s hlm]
      walk_at "ev"
      exact ⟨by trivial, fin t6 v ht6 (hvs v hv1)⟩
/-- one state's own variant -/
theorem fam_b2 (C : Orc) (hD : DrawS C) (hP : PriceS C) {t : List D} (ht : TapeOk t) {cnt mode low st : Int} {vs : List Var} {a1 a2 a5 x8 x9 x10 x11 x12 x13 a15 : Option W} (hs0 : 0 ≤ st) (hs1 : st < cnt) (hm0 : 0 ≤ mode) (hm1 : mode < 4) (hvs : ∀ v ∈ vs, v.Ok cnt.toNat low) (hl : vs.length ≤ 10000) :
    Wp (M7b2 C [some (.l t), a1, a2, some (.d (.int low)), some (.d (.int cnt)), a5, some (.d (.int mode)), some (.l (vs.map Var.dat)), x8, x9, x10, x11, x12, x13, some (.d (.int st)), a15]) fun o e => o = .nx ∧
      ∃ (t' : List D) (vs' : List Var), e = [some (.l t'), a1, a2, some (.d (.int low)), some (.d (.int cnt)), a5, some (.d (.int mode)), some (.l (vs'.map Var.dat)), x8, x9, x10, x11, x12, x13, some (.d (.int st)), a15] ∧ TapeOk t' ∧ (∀ v ∈ vs', v.Ok cnt.toNat low) ∧ vs'.length ≤ vs.length + 1 := by
  unfold M7b2
  walk_at "ev"
  rw [List.length_map]
  obtain ⟨k, t1, h1, ht1, hk0, hk1⟩ := hD t ht (vs.length + 1) (log_small (by omega))
  rw [h1]
  walk_at "ev"
  obtain ⟨p, t2, h2, ht2, hpr⟩ := hP t1 ht1 mode low hm0 hm1
  rw [h2]
  walk_at "ev"
  have hvd : PyData.tuple [PyData.int st, PyData.tuple [], priceD p] = (Var.mk st.toNat [] p).dat := by
    unfold Var.dat natD
    show PyData.tuple [PyData.int st, _, _] = PyData.tuple [PyData.int ((st.toNat : Nat) : Int), _, _]
    rw [Int.toNat_of_nonneg hs0]
    rfl
  rw [hvd, mIns_s (by rw [List.length_map]; omega) hk0 (by omega)]
  walk_at "ev"
  refine ⟨by trivial, t2, vs.take k.toNat ++ Var.mk st.toNat [] p :: vs.drop k.toNat, by simp only [List.map_append, List.map_cons, List.map_take, List.map_drop], ht2, fun v hv => ?_, by simp; omega⟩
  rcases List.mem_append.mp hv with hv | hv
  · exact hvs v (List.mem_of_mem_take hv)
  · rcases List.mem_cons.mp hv with rfl | hv
    · exact ⟨by show st.toNat < cnt.toNat; omega, (fun s h => by cases h), by simp, hpr⟩
    · exact hvs v (List.mem_of_mem_drop hv)
theorem family_ok (C : Orc) (hD : DrawS C) (hP : PriceS C) {t : List D} (ht : TapeOk t) (states variants : Nat) (low : Int) (hs : 0 < states) (hs2 : states ≤ 1000) (hv : variants ≤ 1000) :
    ∃ (f : Fam) (t' : List D), F7 C [.l t, .d (natD states), .d (natD variants), .d (.int low)] = .ok (.d f.dat) [t'] ∧ TapeOk t' ∧ f.Ok states variants low := by
  have run : WpC (F7 C [.l t, .d (natD states), .d (natD variants), .d (.int low)]) fun w o => ∃ (f : Fam) (t' : List D), w = .d f.dat ∧ o = [t'] ∧ TapeOk t' ∧ f.Ok states variants low := by
    refine wpC_run (m := M7 C) rfl rfl ?_
    simp only [List.map_cons, List.map_nil, List.cons_append, List.nil_append, List.replicate]
    unfold M7
    simp only [natD]
    walk_at "ev"
    obtain ⟨c, t1, hc1, ht1, hc10, hc11⟩ := hD t ht states (log_small (by omega))
    rw [hc1]
    walk_at "ev"
    obtain ⟨shape, t2, hc2, ht2, hsh0, hsh1⟩ := hD t1 ht1 8 (by decide)
    rw [hc2]
    walk_at "ev"
    obtain ⟨mode, t3, hc3, ht3, hmo0, hmo1⟩ := hD t2 ht2 4 (by decide)
    rw [hc3]
    walk_at "ev"
    obtain ⟨nv, t4, hc4, ht4, hnv0, hnv1⟩ := hD t3 ht3 (variants + 1) (log_small (by omega))
    rw [hc4]
    walk_at "ev"
    rw [if_pos (by omega)]
    walk_at "ev"
    have hc : (0 : Int) < 1 + c := by omega
    have hc2 : (1 + c : Int) ≤ 1000 := by omega
    have hm1 : mode < 4 := by omega
    obtain ⟨e1, hf1, t5, vs, y8, y9, y10, y11, y12, y13, rfl, ht5, hvs, hlen⟩ := forR_inv (tg := tgN 8) (b := M7b1 C) (lo := 0) (n := nv.toNat)
      (e := [some (.l t4), some (.d (.int states)), some (.d (.int variants)), some (.d (.int low)), some (.d (.int (1 + c))), some (.d (.int shape)), some (.d (.int mode)), some (.l []), none, none, none, none, none, none, none, none])
      (fun i e => ∃ (t' : List D) (vs : List Var) (y8 y9 y10 y11 y12 y13 : Option W), e = [some (.l t'), some (.d (.int states)), some (.d (.int variants)), some (.d (.int low)), some (.d (.int (1 + c))), some (.d (.int shape)), some (.d (.int mode)), some (.l (vs.map Var.dat)), y8, y9, y10, y11, y12, y13, none, none] ∧ TapeOk t' ∧ (∀ v ∈ vs, v.Ok (1 + c).toNat low) ∧ vs.length ≤ i)
      ⟨t4, [], _, _, _, _, _, _, rfl, ht4, (fun v h => by cases h), Nat.le_refl _⟩ (fun i e hi hI => by
        obtain ⟨t', vs, y8, y9, y10, y11, y12, y13, rfl, ht', hs1, hs2⟩ := hI
        refine ⟨_, rfl, ?_⟩
        walk_at "ev"
        refine (fam_b1 C hD hP ht' hc hc2 hmo0 hm1 hs1 (by omega)).mono fun o e1 ⟨ho, t6, vs', z9, z10, z11, z12, z13, he, ht6, h5, h6⟩ => ⟨.inl ho, t6, vs', _, _, _, _, _, _, he, ht6, h5, by omega⟩)
    rw [hf1]
    walk_at "ev"
    obtain ⟨k2, t6, h6, ht6, _⟩ := hD t5 ht5 2 (by decide)
    rw [h6]
    walk_at "ev"
    -- from behind the two loops
    have fin : ∀ (t7 : List D) (us : List Var) (x14 : Option W), TapeOk t7 → (∀ v ∈ us, v.Ok (1 + c).toNat low) → us.length ≤ variants + states →
        WpC (kF [0] (kS (sSeq (sIf (tAnd' (tNot' (tTru (Opd.vr 15))) (tO2 cGt (Opd.ex (eCall C 5 [Arg.rf 0, Arg.vl (eC (PyData.int 8))])) (Opd.ex (eC (PyData.int 0))))) (sSet 15 (eLst [eCall C 5 [Arg.rf 0, Arg.vl (eV 4)]])) sNx)
              (sRet (eTup [eV 4, eB bTuple [Opd.vr 15], eB bTuple [Opd.vr 7]])))
          (kSet 15 (kLc (tgN 14) (tO2 cGt (Opd.ex (eCall C 5 [Arg.rf 0, Arg.vl (eC (PyData.int 3))])) (Opd.ex (eC (PyData.int 0)))) (eV 14) [14]
            (if -4611686018427387904 ≤ 1 + c ∧ 1 + c < 4611686018427387904 then Res.ok (rng 0 (1 + c).toNat)
              [some (.l t7), some (.d (.int states)), some (.d (.int variants)), some (.d (.int low)), some (.d (.int (1 + c))), some (.d (.int shape)), some (.d (.int mode)), some (.l (us.map Var.dat)), y8, y9, y10, y11, y12, y13, x14, none]
             else Res.no)))))
        (fun w o => ∃ (f : Fam) (t' : List D), w = .d f.dat ∧ o = [t'] ∧ TapeOk t' ∧ f.Ok states variants low) := fun t7 us x14 ht7 hus hlu => by
      rw [if_pos (by omega)]
      walk_at "ev"
      rw [if_pos (by rw [rng_len]; omega)]
      obtain ⟨ds, e2, hcm, t8, rs, rfl, rfl, ht8, hr1, hr2⟩ := cmpR_inv (tg := tgN 14) (tt := tO2 cGt (Opd.ex (eCall C 5 [Arg.rf 0, Arg.vl (eC (PyData.int 3))])) (Opd.ex (eC (PyData.int 0)))) (te := eV 14) (vs := [14]) (lo := 0) (n := (1 + c).toNat)
        (e := [some (.l t7), some (.d (.int states)), some (.d (.int variants)), some (.d (.int low)), some (.d (.int (1 + c))), some (.d (.int shape)), some (.d (.int mode)), some (.l (us.map Var.dat)), y8, y9, y10, y11, y12, y13, none, none])
        (fun i acc e => ∃ (t' : List D) (rs : List Nat), acc = rs.map natD ∧ e = [some (.l t'), some (.d (.int states)), some (.d (.int variants)), some (.d (.int low)), some (.d (.int (1 + c))), some (.d (.int shape)), some (.d (.int mode)), some (.l (us.map Var.dat)), y8, y9, y10, y11, y12, y13, none, none] ∧ TapeOk t' ∧ (∀ r ∈ rs, r < i) ∧ rs.Pairwise (· < ·))
        ⟨t7, [], rfl, rfl, ht7, (fun s h => by cases h), List.Pairwise.nil⟩ (fun i acc e hi hI => by
          obtain ⟨t', rs, rfl, rfl, ht', h1, h2⟩ := hI
          refine ⟨_, rfl, ?_⟩
          walk_at "ev"
          obtain ⟨k9, t9, h9, ht9, _⟩ := hD t' ht' 3 (by decide)
          rw [h9]
          walk_at "ev"
          cases decide (0 < k9) with
          | false =>
            refine .inl ⟨rfl, ?_⟩
            exact ⟨t9, rs, rfl, rfl, ht9, fun r hr => Nat.lt_succ_of_lt (h1 r hr), h2⟩
          | true =>
            refine .inr ⟨rfl, ?_⟩
            refine ⟨t9, rs ++ [i], by simp [natD], rfl, ht9, fun r hr => ?_, ?_⟩
            · rcases List.mem_append.mp hr with hr | hr
              · exact Nat.lt_succ_of_lt (h1 r hr)
              · simp at hr; omega
            · refine List.pairwise_append.mpr ⟨h2, List.pairwise_singleton _ _, fun a ha b hb => ?_⟩
              simp at hb
              rw [hb]; exact h1 a ha)
      rw [hcm]
      walk_at "ev"
      have ok : ∀ (rs' : List Nat), (∀ r ∈ rs', r < (1 + c).toNat) → rs'.Pairwise (· < ·) → (Fam.mk (1 + c).toNat rs' us).Ok states variants low := fun rs' h1 h2 => ⟨by show 0 < (1 + c).toNat; omega, by show (1 + c).toNat ≤ states; omega, h1, h2, hus, hlu⟩
      have dat : ∀ (rs' : List Nat), PyData.tuple [PyData.int (1 + c), PyData.tuple (rs'.map natD), PyData.tuple (us.map Var.dat)] = (Fam.mk (1 + c).toNat rs' us).dat := fun rs' => by
        unfold Fam.dat natD
        show _ = PyData.tuple [PyData.int (((1 + c).toNat : Nat) : Int), _, _]
        rw [Int.toNat_of_nonneg (by omega)]
      rw [show (rs.map natD).isEmpty = rs.isEmpty by cases rs <;> rfl]
      cases hrs : rs.isEmpty with
      | false =>
        walk_at "ev"
        rw [dat]
        exact ⟨_, t8, rfl, rfl, ht8, ok rs (fun r hr => hr1 r hr) hr2⟩
      | true =>
        walk_at "ev"
        obtain ⟨k9, t9, h9, ht9, _⟩ := hD t8 ht8 8 (by decide)
        rw [h9]
        walk_at "ev"
        cases decide (0 < k9) with
        | false =>
          walk_at "ev"
          rw [dat]
          exact ⟨_, t9, rfl, rfl, ht9, ok rs (fun r hr => hr1 r hr) hr2⟩
        | true =>
          walk_at "ev"
          obtain ⟨k10, t10, h10, ht10, h100, h101⟩ := hD t9 ht9 (1 + c) (log_small (by omega))
          rw [h10]
          walk_at "ev"
          have : [PyData.int k10] = [k10.toNat].map natD := by
            simp only [List.map_cons, List.map_nil, natD]
            rw [Int.toNat_of_nonneg h100]
          rw [this, dat]
          exact ⟨_, t10, rfl, rfl, ht10, ok _ (fun r hr => by simp at hr; omega) (List.pairwise_singleton _ _)⟩
    cases hk2 : (k2 == 0) with
    | false =>
      walk_at "ev"
      exact fin t6 vs none ht6 hvs (by omega)
    | true =>
      walk_at "ev"
      rw [if_pos (by omega)]
      walk_at "ev"
      obtain ⟨e3, hf3, t7, us, x14, rfl, ht7, hus, hlu⟩ := forR_inv (tg := tgN 14) (b := M7b2 C) (lo := 0) (n := (1 + c).toNat)
        (e := [some (.l t6), some (.d (.int states)), some (.d (.int variants)), some (.d (.int low)), some (.d (.int (1 + c))), some (.d (.int shape)), some (.d (.int mode)), some (.l (vs.map Var.dat)), y8, y9, y10, y11, y12, y13, none, none])
        (fun i e => ∃ (t' : List D) (us : List Var) (x14 : Option W), e = [some (.l t'), some (.d (.int states)), some (.d (.int variants)), some (.d (.int low)), some (.d (.int (1 + c))), some (.d (.int shape)), some (.d (.int mode)), some (.l (us.map Var.dat)), y8, y9, y10, y11, y12, y13, x14, none] ∧ TapeOk t' ∧ (∀ v ∈ us, v.Ok (1 + c).toNat low) ∧ us.length ≤ vs.length + i)
        ⟨t6, vs, none, rfl, ht6, hvs, by omega⟩ (fun i e hi hI => by
          obtain ⟨t', us, x14, rfl, ht', h1, h2⟩ := hI
          refine ⟨_, rfl, ?_⟩
          walk_at "ev"
          refine (fam_b2 C hD hP ht' (by omega) (by omega) hmo0 hm1 h1 (by omega)).mono fun o e1 ⟨ho, t8, vs', he, ht8, h5, h6⟩ => ⟨.inl ho, t8, vs', _, he, ht8, h5, by omega⟩)
      rw [hf3]
      walk_at "ev"
      exact fin t7 us x14 ht7 hus (by omega)
  obtain ⟨w, o, h, f, t', rfl, rfl, h1, h2⟩ := run
  exact ⟨f, t', h, h1, h2⟩
/-! ### the comparison of what is told with what is due -/
theorem same_ok (C : Orc) {x : D} (h : nice x = true) (hn : nodes x ≤ 16000) (h2 : x.depth ≤ 64) : F8 C [.d x, .d x] = .ok (.d (.bool true)) [] := by
  have run : WpC (F8 C [.d x, .d x]) fun w o => w = .d (.bool true) ∧ o = [] := by
    refine wpC_run (m := M8 C) rfl rfl ?_
    simp only [List.map_cons, List.map_nil, List.cons_append, List.nil_append, List.replicate]
    unfold M8
    walk_at "ev"
    rw [cEq_nice h h h2 h2, eqv_self h]
    walk_at "ev"
    rw [bRepr_nice h hn h2]
    walk_at "ev"
    rw [bRepr_nice h hn h2]
    walk_at "ev"
    rw [beq_self_eq_true]
    exact ⟨by trivial, by trivial⟩
  obtain ⟨w, o, h, rfl, rfl⟩ := run
  exact h
end Mi
set_option Elab.async false
set_option linter.all false
set_option maxRecDepth 100000
set_option maxHeartbeats 4000000
namespace Mi
open PySem L2
local macro_rules | `(tactic| walk_at "ev") => `(tactic| simp only [
ev_seq, ev_if, ev_ifE, ev_nx, ev_bk, ev_ct, ev_E, ev_set, ev_tg, ev_ret, ev_retO, ev_retN, ev_put, ev_for, ev_C, ev_V, ev_vr, ev_ex, ev_o1, ev_o2, ev_t2, ev_tru, ev_and, ev_or, ev_not, ev_yes, ev_andE, ev_orE, ev_notE, ev_LN, ev_LC, ev_B, ev_TN, ev_TC, ev_tup, ev_lst, ev_GN, ev_GV, ev_GR, ev_call, ev_mu, ev_lc, ev_any, ev_r1, ev_r2, ev_rep,
 kS_nx, kS_bk, kS_ct, kS_rt, kIf_t, kIf_f, kM_ok, kSet_ok, kAnd_t, kAnd_f, kOr_t, kOr_f, kAndE_t, kAndE_f, kOrE_t, kOrE_f, kNotE_b, oVr_s, kO1_l, kO1_r, kO2_ok, kO2'_ok, g2_ss, gv_l, gv_r, kL_ok, kL'_ok, kB_ok, gB_s, gvL_n, gvL_c, kV_ss, kT_ok, kT'_ok, kG_ok, kG'_ok, gG_s, kC_ok, kC1_s, kC2_ok, kP_s, take_n, take_l, tk1_l, take_r, tkL_s, tkD_s, put_n, put_l, put_r, pt1_s, kPut1_ok, kPut2_ok, gPut_l, isL_l, kMu_ok, gMu_l, kFor_ok, kLc_ok, kSeqI_l, kSeqI_l', kSeqI_t, kR1_i, kR2_ok, kR2'_i, kTru_l, kTru_r, kRep_ok, kRep2_i, rV_d, rV_l, kF_r, kF_n, kFr_s, cont_n, cont_c, ct1_s, wp_ok, wpC_ok, atI_0, atI_1, atI_2, atI_3, fIx_l, fIx_t,
 List.length_cons, List.length_nil, Nat.zero_add, Nat.reduceAdd, Int.reduceLT, Int.reduceLE, Int.reduceAdd, Int.reduceMul, Int.reduceToNat, Int.reduceNeg, Int.reduceSub, Nat.reduceLT, Nat.reduceLeDiff, Nat.reduceMul, gt_iff_lt, ge_iff_le, ixN_4_0, ixN_4_1, ixN_4_2, ixN_4_3, wipe_n, wipe_c, tgN_r, tgT_r, tgL_n, tgL_c, ofO_some, vw_d, vw_l, fAddI_int, fSub_int, fNeg_int, fMod_p, fMul_31, fMul_48271, fMul_69621, fPow18, fPow9, cCmp_int, cEq_int, cNe_int, cEq_str, cNe_str, cOrd_int, ev_aug, kAug_ok, cIs_none, cIsNot_none, isNone_none, isNone_int, isNone_str, isNone_tuple, isNone_list, isNone_bool, truD_l, truD_t, truD_b, truD_n, bLen_l, bLen_t, bAbs_int, bInt_int, bMax_int, bMin_int, bList_l, bList_t, bTuple_l, bTuple_t, Option.map_some, Option.bind_some, List.getD_cons_zero, List.getD_cons_succ, List.set_cons_zero, List.set_cons_succ, if_true, if_false, lB, ↓reduceIte, Bool.not_true, Bool.not_false
])
def M17b0 (C : Orc) : MS :=
 (sSeq (sSet 6 (eCall C 5 [.rf 0, .vl (eO2 fIx (.ex (eLst [(eC (.int 1)), (eC (.int 2)), (eC (.int 10)), (eO2 fAddI (.ex (eO2 fPow (.ex (eC (.int 10))) (.ex (eC (.int 9))))) (.ex (eC (.int 1))))])) (.vr 3))]))
 (sSeq (sIf (tAnd' (tO2 cEq (.vr 2) (.ex (eC (.int 1)))) (tO2 cEq (.ex (eCall C 5 [.rf 0, .vl (eC (.int 3))])) (.ex (eC (.int 0)))))
 (sSet 6 (eO1 fNeg (.vr 6)))
 sNx)
 (sSeq (sIf (tO2 cIs (.ex (eO2 fIx (.vr 5) (.ex (eC (.int 2))))) (.ex (eC .none)))
 (sSet 6 (eC .none))
 sNx)
 (sE (eMu mApp 4 [(eTup [(eO2 fIx (.vr 5) (.ex (eC (.int 0)))), (eO2 fIx (.vr 5) (.ex (eC (.int 1)))), (eV 6)])])))))
/-- _law_repriced -/
def M17 (C : Orc) : MS :=
 (sSeq (sSet 3 (eCall C 5 [.rf 0, .vl (eC (.int 4))]))
 (sSeq (sSet 4 (eLst []))
 (sSeq (sFor (iAny (eO2 fIx (.vr 1) (.ex (eC (.int 2))))) (tgN 5)
 (M17b0 C))
 (sRet (eTup [(eO2 fIx (.vr 1) (.ex (eC (.int 0)))), (eO2 fIx (.vr 1) (.ex (eC (.int 1)))), (eB bTuple [(.vr 4)])])))))
def F17 (C : Orc) : List W → CRes := runF 3 7 [0] (M17 C)
def M18b0 (C : Orc) : MS :=
 (sSeq (sSet 4 (eO2 fRepT (.ex (eTup [(eO2 fAddI (.vr 3) (.ex (eC (.int 1))))])) (.ex (eO2 fAddI (.ex (eC (.int 1))) (.ex (eCall C 5 [.rf 0, .vl (eO2 fIx (.ex (eLst [(eC (.int 1)), (eC (.int 3))])) (.ex (eCall C 5 [.rf 0, .vl (eC (.int 2))])))]))))))
 (sSeq (sIf (tO2 cEq (.vr 3) (.ex (eO2 fSub (.vr 1) (.ex (eC (.int 1))))))
 (sSet 4 (eTup []))
 sNx)
 (sE (eMu mIns 2 [(eCall C 5 [.rf 0, .vl (eO2 fAddI (.ex (eB bLen [(.vr 2)])) (.ex (eC (.int 1))))]), (eTup [(eV 3), (eV 4), (eCall C 5 [.rf 0, .vl (eC (.int 4))])])]))))
/-- _law_tower -/
def M18 (C : Orc) : MS :=
 (sSeq (sSet 1 (eO2 fIx (.ex (eLst [(eC (.int 1)), (eC (.int 2)), (eC (.int 4)), (eC (.int 5)), (eC (.int 6)), (eC (.int 7)), (eC (.int 40))])) (.ex (eCall C 5 [.rf 0, .vl (eC (.int 7))]))))
 (sSeq (sSet 2 (eLst []))
 (sSeq (sFor (iR1 (eV 1)) (tgN 3)
 (M18b0 C))
 (sRet (eTup [(eV 1), (eTup [(eC (.int 0))]), (eB bTuple [(.vr 2)])])))))
def F18 (C : Orc) : List W → CRes := runF 1 5 [0] (M18 C)
def M19b0 (C : Orc) : MS :=
 (sE (eMu mIns 4 [(eCall C 5 [.rf 0, .vl (eO2 fAddI (.ex (eB bLen [(.vr 4)])) (.ex (eC (.int 1))))]), (eTup [(eV 5), (eTup [(eO2 fAddI (.vr 5) (.ex (eC (.int 1))))]), (eCall C 5 [.rf 0, .vl (eC (.int 3))])])]))
/-- _law_tall -/
def M19 (C : Orc) : MS :=
 (sSeq (sSet 1 (eO2 fAddI (.ex (eC (.int 1))) (.ex (eCall C 5 [.rf 0, .vl (eC (.int 8))]))))
 (sSeq (sSet 2 (eO2 fAddI (.ex (eC (.int 1))) (.ex (eCall C 5 [.rf 0, .vl (eC (.int 8))]))))
 (sSeq (sSet 3 (eO2 fSub (.ex (eO2 fSub (.ex (eO2 fAddI (.ex (eC (.int 18))) (.ex (eCall C 5 [.rf 0, .vl (eC (.int 6))])))) (.vr 1))) (.vr 2)))
 (sSeq (sSet 4 (eLst [(eTup [(eC (.int 0)), (eTup [(eV 1), (eV 2), (eV 3)]), (eCall C 5 [.rf 0, .vl (eC (.int 3))])]), (eTup [(eC (.int 39)), (eTup []), (eCall C 5 [.rf 0, .vl (eC (.int 3))])])]))
 (sSeq (sFor (iR2 (eC (.int 1)) (eC (.int 39))) (tgN 5)
 (M19b0 C))
 (sRet (eTup [(eC (.int 40)), (eTup [(eC (.int 0))]), (eB bTuple [(.vr 4)])])))))))
def F19 (C : Orc) : List W → CRes := runF 1 6 [0] (M19 C)
/-- _law_any_family -/
def M20 (C : Orc) : MS :=
 (sSeq (sSet 1 (eCall C 5 [.rf 0, .vl (eC (.int 8))]))
 (sSeq (sIf (tO2 cEq (.vr 1) (.ex (eC (.int 0))))
 (sRet (eCall C 18 [.rf 0]))
 sNx)
 (sSeq (sIf (tO2 cEq (.vr 1) (.ex (eC (.int 1))))
 (sRet (eCall C 19 [.rf 0]))
 sNx)
 (sRet (eCall C 7 [.rf 0, .vl (eC (.int 6)), .vl (eC (.int 10)), .vl (eC (.int 0))])))))
def F20 (C : Orc) : List W → CRes := runF 1 2 [0] (M20 C)
/-! ### families that grow fast, repriced families -/
theorem Fam.Ok.mono {a b a' b' : Nat} {low : Int} {f : Fam} (h : f.Ok a b low) (h1 : a ≤ a') (h2 : b + a ≤ b' + a') : f.Ok a' b' low :=
  ⟨h.pos, by have := h.count; omega, h.roots, h.asc, h.vars, by have := h.len; omega⟩
theorem list7 {k : Int} (h0 : 0 ≤ k) (h1 : k < 7) : ∃ n : Int, atI [PyData.int 1, PyData.int 2, PyData.int 4, PyData.int 5, PyData.int 6, PyData.int 7, PyData.int 40] k = some (.int n) ∧ 1 ≤ n ∧ n ≤ 40 := by
  rcases (show k = 0 ∨ k = 1 ∨ k = 2 ∨ k = 3 ∨ k = 4 ∨ k = 5 ∨ k = 6 by omega) with rfl | rfl | rfl | rfl | rfl | rfl | rfl
  · exact ⟨1, rfl, by decide, by decide⟩
  · exact ⟨2, rfl, by decide, by decide⟩
  · exact ⟨4, rfl, by decide, by decide⟩
  · exact ⟨5, rfl, by decide, by decide⟩
  · exact ⟨6, rfl, by decide, by decide⟩
  · exact ⟨7, rfl, by decide, by decide⟩
  · exact ⟨40, rfl, by decide, by decide⟩
theorem list13 {k : Int} (h0 : 0 ≤ k) (h1 : k < 2) : ∃ n : Int, atI [PyData.int 1, PyData.int 3] k = some (.int n) ∧ 1 ≤ n ∧ n ≤ 3 := by
  rcases (show k = 0 ∨ k = 1 by omega) with rfl | rfl
  · exact ⟨1, rfl, by decide, by decide⟩
  · exact ⟨3, rfl, by decide, by decide⟩
theorem rep_slots {j : Nat} {n : Int} (h1 : 1 ≤ n) (h3 : n ≤ 3) : fRepT (.tuple [natD j]) (.int n) = some (.d (.tuple ((List.replicate n.toNat j).map natD))) := by
  rcases (show n = 1 ∨ n = 2 ∨ n = 3 by omega) with rfl | rfl | rfl <;> rfl
theorem ins_ok {count : Nat} {low : Int} {vs : List Var} {v : Var} {k : Nat} (h : ∀ u ∈ vs, u.Ok count low) (hv : v.Ok count low) : ∀ u ∈ vs.take k ++ v :: vs.drop k, u.Ok count low := fun u hu => by
  rcases List.mem_append.mp hu with hu | hu
  · exact h u (List.mem_of_mem_take hu)
  · rcases List.mem_cons.mp hu with rfl | hu
    · exact hv
    · exact h u (List.mem_of_mem_drop hu)
theorem tower_ok (C : Orc) (hD : DrawS C) {t : List D} (ht : TapeOk t) : ∃ (f : Fam) (t' : List D), F18 C [.l t] = .ok (.d f.dat) [t'] ∧ TapeOk t' ∧ f.Ok 40 100 0 := by
  have run : WpC (F18 C [.l t]) fun w o => ∃ (f : Fam) (t' : List D), w = .d f.dat ∧ o = [t'] ∧ TapeOk t' ∧ f.Ok 40 100 0 := by
    refine wpC_run (m := M18 C) rfl rfl ?_
    simp only [List.map_cons, List.map_nil, List.cons_append, List.nil_append, List.replicate]
    unfold M18
    walk_at "ev"
    obtain ⟨k, t1, h1, ht1, hk0, hk1⟩ := hD t ht 7 (by decide)
    rw [h1]
    walk_at "ev"
    obtain ⟨c, hc, hc1, hc2⟩ := list7 hk0 (by omega)
    rw [hc]
    walk_at "ev"
    rw [if_pos (by omega)]
    walk_at "ev"
    obtain ⟨e', hf, t2, vs, x3, x4, rfl, ht2, hvs, hl⟩ := forR_inv (tg := tgN 3) (b := M18b0 C) (lo := 0) (n := c.toNat)
      (e := [some (.l t1), some (.d (.int c)), some (.l []), none, none])
      (fun i e => ∃ (t' : List D) (vs : List Var) (x3 x4 : Option W), e = [some (.l t'), some (.d (.int c)), some (.l (vs.map Var.dat)), x3, x4] ∧ TapeOk t' ∧ (∀ v ∈ vs, v.Ok c.toNat 0) ∧ vs.length = i)
      ⟨t1, [], none, none, rfl, ht1, (fun v h => by cases h), rfl⟩ (fun i e hi hI => by
        obtain ⟨t', vs, x3, x4, rfl, ht', hvs, hl⟩ := hI
        refine ⟨_, rfl, ?_⟩
        unfold M18b0
        simp only [Int.zero_add]
        walk_at "ev"
        obtain ⟨k1, u1, g1, hu1, hk10, hk11⟩ := hD t' ht' 2 (by decide)
        rw [g1]
        walk_at "ev"
        obtain ⟨m, hm, hm1, hm3⟩ := list13 hk10 (by omega)
        rw [hm]
        walk_at "ev"
        obtain ⟨k2, u2, g2, hu2, hk20, hk21⟩ := hD u1 hu1 m (log_small (by omega))
        rw [g2]
        walk_at "ev"
        rw [show PyData.int ((i : Int) + 1) = natD (i + 1) by simp [natD], rep_slots (by omega) (by omega)]
        walk_at "ev"
        have fin : ∀ sl : List Nat, (∀ s ∈ sl, s < c.toNat) → sl.length ≤ 3 → Wp (kM (fun x => Out.nx) (kMu mIns 2 (kT [eTup [eV 3, eV 4, eCall C 5 [Arg.rf 0, Arg.vl (eC (PyData.int 4))]]]
              (kC2 [Sum.inl 0, Sum.inr (PyData.int (((vs.map Var.dat).length : Int) + 1))] [none, some (.d (.int c)), some (.l (vs.map Var.dat)), some (.d (.int (i : Int))), some (.d (.tuple (sl.map natD)))]
                (C 5 [.l u2, .d (.int (((vs.map Var.dat).length : Int) + 1))])))))
            (fun o e1 => (o = .nx ∨ o = .ct) ∧ ∃ (t' : List D) (vs : List Var) (x3 x4 : Option W), e1 = [some (.l t'), some (.d (.int c)), some (.l (vs.map Var.dat)), x3, x4] ∧ TapeOk t' ∧ (∀ v ∈ vs, v.Ok c.toNat 0) ∧ vs.length = i + 1) := fun sl hsl hl3 => by
          rw [List.length_map]
          obtain ⟨k3, u3, g3, hu3, hk30, hk31⟩ := hD u2 hu2 (vs.length + 1) (log_small (by omega))
          rw [g3]
          walk_at "ev"
          obtain ⟨k4, u4, g4, hu4, hk40, hk41⟩ := hD u3 hu3 4 (by decide)
          rw [g4]
          walk_at "ev"
          have hvd : PyData.tuple [PyData.int (i : Int), PyData.tuple (sl.map natD), PyData.int k4] = (Var.mk i sl (some k4)).dat := rfl
          rw [hvd, mIns_s (by rw [List.length_map]; omega) hk30 (by omega)]
          walk_at "ev"
          refine ⟨by simp, u4, vs.take k3.toNat ++ Var.mk i sl (some k4) :: vs.drop k3.toNat, _, _, by simp only [List.map_append, List.map_cons, List.map_take, List.map_drop]; rfl, hu4, ins_ok hvs ⟨hi, hsl, hl3, fun j h => by cases h; exact ⟨by omega, by omega, fun _ => hk40⟩⟩, by simp; omega⟩
        cases hlast : ((i : Int) == c - 1) with
        | true =>
          walk_at "ev"
          exact fin [] (fun s h => by cases h) (by simp)
        | false =>
          have hne : (i : Int) ≠ c - 1 := fun h => by rw [h] at hlast; simp at hlast
          walk_at "ev"
          refine fin (List.replicate (1 + k2).toNat (i + 1)) (fun s h => ?_) (by simp; omega)
          obtain ⟨_, rfl⟩ := List.mem_replicate.mp h
          omega)
    rw [hf]
    walk_at "ev"
    rw [show PyData.int c = natD c.toNat by unfold natD; rw [Int.toNat_of_nonneg (by omega)]]
    refine ⟨⟨c.toNat, [0], vs⟩, t2, rfl, rfl, ht2, ⟨by show 0 < c.toNat; omega, by show c.toNat ≤ 40; omega, fun r hr => by simp at hr; show r < c.toNat; omega, List.pairwise_singleton _ _, hvs, by show vs.length ≤ 100 + 40; omega⟩⟩
  obtain ⟨w, o, h, f, t', rfl, rfl, h1, h2⟩ := run
  exact ⟨f, t', h, h1, h2⟩
theorem tall_ok (C : Orc) (hD : DrawS C) {t : List D} (ht : TapeOk t) : ∃ (f : Fam) (t' : List D), F19 C [.l t] = .ok (.d f.dat) [t'] ∧ TapeOk t' ∧ f.Ok 40 100 0 := by
  have run : WpC (F19 C [.l t]) fun w o => ∃ (f : Fam) (t' : List D), w = .d f.dat ∧ o = [t'] ∧ TapeOk t' ∧ f.Ok 40 100 0 := by
    refine wpC_run (m := M19 C) rfl rfl ?_
    simp only [List.map_cons, List.map_nil, List.cons_append, List.nil_append, List.replicate]
    unfold M19
    walk_at "ev"
    obtain ⟨k1, t1, h1, ht1, hk10, hk11⟩ := hD t ht 8 (by decide)
    rw [h1]
    walk_at "ev"
    obtain ⟨k2, t2, h2, ht2, hk20, hk21⟩ := hD t1 ht1 8 (by decide)
    rw [h2]
    walk_at "ev"
    obtain ⟨k3, t3, h3, ht3, hk30, hk31⟩ := hD t2 ht2 6 (by decide)
    rw [h3]
    walk_at "ev"
    obtain ⟨k4, t4, h4, ht4, hk40, hk41⟩ := hD t3 ht3 3 (by decide)
    rw [h4]
    walk_at "ev"
    obtain ⟨k5, t5, h5, ht5, hk50, hk51⟩ := hD t4 ht4 3 (by decide)
    rw [h5]
    walk_at "ev"
    generalize hA : (1 + k1 : Int) = A
    generalize hB : (1 + k2 : Int) = B
    generalize hZ : (18 + k3 - A - B : Int) = Z
    have hv1 : PyData.tuple [PyData.int 0, PyData.tuple [PyData.int A, PyData.int B, PyData.int Z], PyData.int k4] = (Var.mk 0 [A.toNat, B.toNat, Z.toNat] (some k4)).dat := by
      unfold Var.dat
      simp only [List.map_cons, List.map_nil, natD, priceD]
      rw [Int.toNat_of_nonneg (by omega), Int.toNat_of_nonneg (by omega), Int.toNat_of_nonneg (by omega)]
      rfl
    have hv2 : PyData.tuple [PyData.int 39, PyData.tuple [], PyData.int k5] = (Var.mk 39 [] (some k5)).dat := rfl
    rw [hv1, hv2]
    obtain ⟨e', hf, t6, vs, x5, rfl, ht6, hvs, hl⟩ := forR_inv (tg := tgN 5) (b := M19b0 C) (lo := 1) (n := 38)
      (e := [some (.l t5), some (.d (.int A)), some (.d (.int B)), some (.d (.int Z)), some (.l [(Var.mk 0 [A.toNat, B.toNat, Z.toNat] (some k4)).dat, (Var.mk 39 [] (some k5)).dat]), none])
      (fun i e => ∃ (t' : List D) (vs : List Var) (x5 : Option W), e = [some (.l t'), some (.d (.int A)), some (.d (.int B)), some (.d (.int Z)), some (.l (vs.map Var.dat)), x5] ∧ TapeOk t' ∧ (∀ v ∈ vs, v.Ok 40 0) ∧ vs.length = i + 2)
      ⟨t5, [Var.mk 0 [A.toNat, B.toNat, Z.toNat] (some k4), Var.mk 39 [] (some k5)], none, rfl, ht5, (fun v h => by
        simp at h
        rcases h with rfl | rfl
        · exact ⟨by show 0 < 40; omega, fun s hs => by simp at hs; omega, by simp, fun j h => by cases h; exact ⟨by omega, by omega, fun _ => hk40⟩⟩
        · exact ⟨by show 39 < 40; omega, fun s hs => by simp at hs, by simp, fun j h => by cases h; exact ⟨by omega, by omega, fun _ => hk50⟩⟩), rfl⟩ (fun i e hi hI => by
        obtain ⟨t', vs, x5, rfl, ht', hvs, hl⟩ := hI
        refine ⟨_, rfl, ?_⟩
        unfold M19b0
        walk_at "ev"
        rw [List.length_map]
        obtain ⟨k3, u3, g3, hu3, hk30, hk31⟩ := hD t' ht' (vs.length + 1) (log_small (by omega))
        rw [g3]
        walk_at "ev"
        obtain ⟨k4, u4, g4, hu4, hk40, hk41⟩ := hD u3 hu3 3 (by decide)
        rw [g4]
        walk_at "ev"
        have hvd : PyData.tuple [PyData.int (1 + (i : Int)), PyData.tuple [PyData.int (1 + (i : Int) + 1)], PyData.int k4] = (Var.mk (1 + i) [1 + i + 1] (some k4)).dat := by
          unfold Var.dat natD
          simp [priceD]
        rw [hvd, mIns_s (by rw [List.length_map]; omega) hk30 (by omega)]
        walk_at "ev"
        refine ⟨by simp, u4, vs.take k3.toNat ++ Var.mk (1 + i) [1 + i + 1] (some k4) :: vs.drop k3.toNat, _, by simp only [List.map_append, List.map_cons, List.map_take, List.map_drop]; rfl, hu4, ins_ok hvs ⟨by show 1 + i < 40; omega, fun s hs => by simp at hs; omega, by simp, fun j h => by cases h; exact ⟨by omega, by omega, fun _ => hk40⟩⟩, by simp; omega⟩)
    rw [if_pos ⟨trivial, trivial, trivial, trivial⟩]
    walk_at "ev"
    rw [hf]
    walk_at "ev"
    refine ⟨⟨40, [0], vs⟩, t6, rfl, rfl, ht6, ⟨by show 0 < 40; omega, by show 40 ≤ 40; omega, fun r hr => by simp at hr; show r < 40; omega, List.pairwise_singleton _ _, hvs, by show vs.length ≤ 100 + 40; omega⟩⟩
  obtain ⟨w, o, h, f, t', rfl, rfl, h1, h2⟩ := run
  exact ⟨f, t', h, h1, h2⟩
theorem any_family_ok (C : Orc) (hD : DrawS C) (h18 : ∀ t, TapeOk t → ∃ (f : Fam) (t' : List D), C 18 [.l t] = .ok (.d f.dat) [t'] ∧ TapeOk t' ∧ f.Ok 40 100 0) (h19 : ∀ t, TapeOk t → ∃ (f : Fam) (t' : List D), C 19 [.l t] = .ok (.d f.dat) [t'] ∧ TapeOk t' ∧ f.Ok 40 100 0)
    (h7 : ∀ t, TapeOk t → ∃ (f : Fam) (t' : List D), C 7 [.l t, .d (natD 6), .d (natD 10), .d (.int 0)] = .ok (.d f.dat) [t'] ∧ TapeOk t' ∧ f.Ok 6 10 0)
    {t : List D} (ht : TapeOk t) : ∃ (f : Fam) (t' : List D), F20 C [.l t] = .ok (.d f.dat) [t'] ∧ TapeOk t' ∧ f.Ok 40 100 0 := by
  have run : WpC (F20 C [.l t]) fun w o => ∃ (f : Fam) (t' : List D), w = .d f.dat ∧ o = [t'] ∧ TapeOk t' ∧ f.Ok 40 100 0 := by
    refine wpC_run (m := M20 C) rfl rfl ?_
    simp only [List.map_cons, List.map_nil, List.cons_append, List.nil_append, List.replicate]
    unfold M20
    walk_at "ev"
    obtain ⟨k1, t1, h1, ht1, _, _⟩ := hD t ht 8 (by decide)
    rw [h1]
    walk_at "ev"
    cases hk : (k1 == 0) with
    | true =>
      walk_at "ev"
      obtain ⟨f, t2, h2, ht2, hf⟩ := h18 t1 ht1
      rw [h2]
      walk_at "ev"
      exact ⟨f, t2, rfl, rfl, ht2, hf⟩
    | false =>
      walk_at "ev"
      cases hk2 : (k1 == 1) with
      | true =>
        walk_at "ev"
        obtain ⟨f, t2, h2, ht2, hf⟩ := h19 t1 ht1
        rw [h2]
        walk_at "ev"
        exact ⟨f, t2, rfl, rfl, ht2, hf⟩
      | false =>
        walk_at "ev"
        obtain ⟨f, t2, h2, ht2, hf⟩ := h7 t1 ht1
        simp only [natD] at h2
        rw [show ((6 : Nat) : Int) = 6 from rfl, show ((10 : Nat) : Int) = 10 from rfl] at h2
        rw [h2]
        walk_at "ev"
        exact ⟨f, t2, rfl, rfl, ht2, hf.mono (by decide) (by decide)⟩
  obtain ⟨w, o, h, f, t', rfl, rfl, h1, h2⟩ := run
  exact ⟨f, t', h, h1, h2⟩
/-! ### the same family with other prices -/
theorem menu4 {mode : Int} (h0 : 0 ≤ mode) (h1 : mode < 4) : ∃ m : Int, atI [PyData.int 1, PyData.int 2, PyData.int 10, PyData.int 1000000001] mode = some (.int m) ∧ m.natAbs < 2 ^ 64 ∧ 0 < m ∧ m ≤ 1000000001 := by
  rcases (show mode = 0 ∨ mode = 1 ∨ mode = 2 ∨ mode = 3 by omega) with rfl | rfl | rfl | rfl
  · exact ⟨1, atI_0, by decide, by decide, by decide⟩
  · exact ⟨2, atI_1, by decide, by decide, by decide⟩
  · exact ⟨10, atI_2, by decide, by decide, by decide⟩
  · exact ⟨1000000001, atI_3, by decide, by decide, by decide⟩
theorem isNone_priceD (p : Option Int) : isNone (priceD p) = p.isNone := by cases p <;> rfl
/-- a family with other prices: missing where they were -/
theorem repriced_ok (C : Orc) (hD : DrawS C) {t : List D} (ht : TapeOk t) (f : Fam) (fd : D) (hfd : fd = .tuple [natD f.count, .tuple (f.roots.map natD), .tuple (f.vars.map Var.dat)]) (low : Int) {a b : Nat} {lo : Int} (hf : f.Ok a b lo) (hz : f.vars.length ≤ 100000) :
    ∃ (g : Fam) (t' : List D), F17 C [.l t, .d fd, .d (.int low)] = .ok (.d g.dat) [t'] ∧ TapeOk t' ∧ g.Ok a b low ∧ g.count = f.count := by
  have run : WpC (F17 C [.l t, .d fd, .d (.int low)]) fun w o => ∃ (g : Fam) (t' : List D), w = .d g.dat ∧ o = [t'] ∧ TapeOk t' ∧ g.Ok a b low ∧ g.count = f.count := by
    refine wpC_run (m := M17 C) rfl rfl ?_
    simp only [List.map_cons, List.map_nil, List.cons_append, List.nil_append, List.replicate]
    unfold M17
    walk_at "ev"
    obtain ⟨mode, t1, h1, ht1, hm0, hm1⟩ := hD t ht 4 (by decide)
    rw [h1]
    walk_at "ev"
    have e2 : fIx fd (.int 2) = some (.d (.tuple (f.vars.map Var.dat))) := by subst hfd; rfl
    have e0 : fIx fd (.int 0) = some (.d (natD f.count)) := by subst hfd; rfl
    have e1 : fIx fd (.int 1) = some (.d (.tuple (f.roots.map natD))) := by subst hfd; rfl
    rw [e2]
    walk_at "ev"
    obtain ⟨e', hfor, t2, us, x5, x6, rfl, ht2, hu1, hu2⟩ := forL_inv (tg := tgN 5) (b := M17b0 C) (xs := f.vars.map Var.dat)
      (e := [some (.l t1), some (.d fd), some (.d (.int low)), some (.d (.int mode)), some (.l []), none, none])
      (fun pre e => ∃ (t' : List D) (us : List Var) (x5 x6 : Option W), e = [some (.l t'), some (.d fd), some (.d (.int low)), some (.d (.int mode)), some (.l (us.map Var.dat)), x5, x6] ∧ TapeOk t' ∧ (∀ v ∈ us, v.Ok f.count low) ∧ us.length = pre.length)
      ⟨t1, [], none, none, rfl, ht1, (fun v h => by cases h), rfl⟩ (fun pre x post e he hI => by
        obtain ⟨t', us, x5, x6, rfl, ht', hu1, hu2⟩ := hI
        have hx : x ∈ f.vars.map Var.dat := by rw [he]; simp
        obtain ⟨v, hv, rfl⟩ := List.mem_map.mp hx
        have hlen : us.length < 100000 := by
          have := congrArg List.length he
          simp at this
          omega
        have hvo := hf.vars v hv
        refine ⟨_, rfl, ?_⟩
        unfold M17b0
        walk_at "ev"
        obtain ⟨m, hm, hm64, hmp, hmle⟩ := menu4 hm0 (by omega)
        rw [hm]
        walk_at "ev"
        obtain ⟨k, t3, h3, ht3, hk0, hk1⟩ := hD t' ht' m (log_small hm64)
        rw [h3]
        walk_at "ev"
        have v0 : fIx v.dat (.int 0) = some (.d (natD v.plug)) := rfl
        have v1 : fIx v.dat (.int 1) = some (.d (.tuple (v.slots.map natD))) := rfl
        have v2 : fIx v.dat (.int 2) = some (.d (priceD v.price)) := rfl
        obtain ⟨k', t4, ht4, hk, he⟩ : ∃ (k' : Int) (t4 : List D), TapeOk t4 ∧ (-1000000000 ≤ k' ∧ k' ≤ 1000000000 ∧ (low ≠ 1 → 0 ≤ k')) ∧ kIf (sSet 6 (eO1 fNeg (Opd.vr 6))) sNx
            (kAnd (tO2 cEq (Opd.ex (eCall C 5 [Arg.rf 0, Arg.vl (eC (PyData.int 3))])) (Opd.ex (eC (PyData.int 0)))) (.ok (low == 1) [some (.l t3), some (.d fd), some (.d (.int low)), some (.d (.int mode)), some (.l (us.map Var.dat)), some (.d v.dat), some (.d (.int k))])) =
            .ok .nx [some (.l t4), some (.d fd), some (.d (.int low)), some (.d (.int mode)), some (.l (us.map Var.dat)), some (.d v.dat), some (.d (.int k'))] := by
          cases hl : (low == 1) with
          | false =>
            refine ⟨k, t3, ht3, ⟨by omega, by omega, fun _ => hk0⟩, ?_⟩
            walk_at "ev"
          | true =>
            obtain ⟨k3, t5, h5, ht5, _⟩ := hD t3 ht3 3 (by decide)
            cases hk3 : (k3 == 0) with
            | true =>
              refine ⟨-k, t5, ht5, ⟨by omega, by omega, fun z => absurd (eq_of_beq hl) z⟩, ?_⟩
              walk_at "ev"
              rw [h5]
              walk_at "ev"
              rw [hk3]
              walk_at "ev"
            | false =>
              refine ⟨k, t5, ht5, ⟨by omega, by omega, fun _ => hk0⟩, ?_⟩
              walk_at "ev"
              rw [h5]
              walk_at "ev"
              rw [hk3]
              walk_at "ev"
        rw [he]
        clear he
        revert hk ht4
        revert k' t4
        intro k t3 ht3 hk
        walk_at "ev"
        rw [v2]
        walk_at "ev"
        rw [isNone_priceD]
        have add : ∀ p : Option Int, (∀ i, p = some i → i = k) → (∀ u ∈ us ++ [Var.mk v.plug v.slots p], u.Ok f.count low) := fun p hp u hu => by
          rcases List.mem_append.mp hu with hu | hu
          · exact hu1 u hu
          · simp at hu
            rw [hu]
            exact ⟨hvo.plug, hvo.slots, hvo.len, fun i hi => by rw [hp i hi]; exact hk⟩
        cases hp : v.price.isNone with
        | true =>
          walk_at "ev"
          rw [v0]
          walk_at "ev"
          rw [v1]
          walk_at "ev"
          rw [mApp_s (by rw [List.length_map]; omega)]
          walk_at "ev"
          exact ⟨by simp, t3, us ++ [Var.mk v.plug v.slots none], _, _, by simp only [List.map_append, List.map_cons, List.map_nil]; rfl, ht3, add none (fun i h => by cases h), by simp [hu2]⟩
        | false =>
          walk_at "ev"
          rw [v0]
          walk_at "ev"
          rw [v1]
          walk_at "ev"
          rw [mApp_s (by rw [List.length_map]; omega)]
          walk_at "ev"
          exact ⟨by simp, t3, us ++ [Var.mk v.plug v.slots (some k)], _, _, by simp only [List.map_append, List.map_cons, List.map_nil]; rfl, ht3, add (some k) (fun i h => by cases h; rfl), by simp [hu2]⟩)
    rw [hfor]
    walk_at "ev"
    rw [e0]
    walk_at "ev"
    rw [e1]
    walk_at "ev"
    refine ⟨⟨f.count, f.roots, us⟩, t2, rfl, rfl, ht2, ⟨hf.pos, hf.count, hf.roots, hf.asc, hu1, ?_⟩, rfl⟩
    rw [hu2, List.length_map]
    exact hf.len
  obtain ⟨w, o, h, g, t', rfl, rfl, h1, h2, h3⟩ := run
  exact ⟨g, t', h, h1, h2, h3⟩
end Mi
set_option Elab.async false
set_option linter.all false
set_option maxRecDepth 100000
set_option maxHeartbeats 4000000
namespace L25
open PySem PySem.Spec PyProof.Rows L2 Mi
def _root_.Mi.M14b0 (C : Orc) : MS :=
 (sSeq (sIf (tO2 cIs (.ex (eO2 fIx (.vr 1) (.vr 6))) (.ex (eC .none)))
 (sRet (eC .none))
 sNx)
 (sSeq (sAug 4 (fun i j => i + j) (eO2 fIx (.ex (eO2 fIx (.vr 1) (.vr 6))) (.ex (eC (.int 0)))))
 (sAug 5 (fun i j => i + j) (eO2 fIx (.ex (eO2 fIx (.vr 1) (.vr 6))) (.ex (eC (.int 1)))))))
/-- weight_of -/
def _root_.Mi.M14 (C : Orc) : MS :=
 (sSeq (sTg (tgT [(tgN 2), (tgN 3), (tgN 4)]) (eV 0))
 (sSeq (sIf (tO2 cIs (.vr 4) (.ex (eC .none)))
 (sRet (eC .none))
 sNx)
 (sSeq (sSet 5 (eC (.int 1)))
 (sSeq (sFor (iAny (eV 3)) (tgN 6)
 (M14b0 C))
 (sRet (eTup [(eV 4), (eV 5)]))))))
def _root_.Mi.F14 (C : Orc) : List W → CRes := runF 2 7 [] (Mi.M14 C)
def _root_.Mi.M15b0 (C : Orc) : MS :=
 (sSeq (sSet 7 (eO2 fIx (.vr 6) (.ex (eC (.int 0)))))
 (sSeq (sSet 8 (eCall C 14 [.vl (eV 6), .vl (eV 1)]))
 (sIf (tAnd' (tO2 cIsNot (.vr 8) (.ex (eC .none))) (tOr' (tO2 cIs (.ex (eO2 fIx (.vr 5) (.vr 7))) (.ex (eC .none))) (tO2 dLt (.vr 8) (.ex (eO2 fIx (.vr 5) (.vr 7))))))
 (sPut 5 (eV 7) (eV 8))
 sNx)))
/-- least_round -/
def _root_.Mi.M15 (C : Orc) : MS :=
 (sSeq (sTg (tgT [(tgN 2), (tgN 3), (tgN 4)]) (eV 0))
 (sSeq (sSet 5 (eRep (eLst [(eC .none)]) (eV 2)))
 (sSeq (sFor (iAny (eV 4)) (tgN 6)
 (M15b0 C))
 (sRet (eB bTuple [(.vr 5)])))))
def _root_.Mi.F15 (C : Orc) : List W → CRes := runF 2 9 [] (Mi.M15 C)
def _root_.Mi.M16b0 (C : Orc) : MS :=
 (sSeq (sIf (tO2 cIs (.ex (eO2 fIx (.vr 1) (.vr 4))) (.ex (eC .none)))
 (sRet (eC .none))
 sNx)
 (sSeq (sSet 2 (eO2 fAddI (.vr 2) (.ex (eO2 fIx (.ex (eO2 fIx (.vr 1) (.vr 4))) (.ex (eC (.int 0)))))))
 (sSet 3 (eO2 fAddI (.vr 3) (.ex (eO2 fIx (.ex (eO2 fIx (.vr 1) (.vr 4))) (.ex (eC (.int 1)))))))))
/-- _law_weight -/
def _root_.Mi.M16 (C : Orc) : MS :=
 (sSeq (sIf (tO2 cIs (.ex (eO2 fIx (.vr 0) (.ex (eC (.int 2))))) (.ex (eC .none)))
 (sRet (eC .none))
 sNx)
 (sSeq (sSet 2 (eO2 fIx (.vr 0) (.ex (eC (.int 2)))))
 (sSeq (sSet 3 (eC (.int 1)))
 (sSeq (sFor (iAny (eO2 fIx (.vr 0) (.ex (eC (.int 1))))) (tgN 4)
 (M16b0 C))
 (sRet (eTup [(eV 2), (eV 3)]))))))
def _root_.Mi.F16 (C : Orc) : List W → CRes := runF 2 5 [] (Mi.M16 C)
def _root_.Mi.M21b0 (C : Orc) : MS :=
 (sSeq (sSet 4 (eCall C 16 [.vl (eV 3), .vl (eV 1)]))
 (sIf (tAnd' (tO2 cIsNot (.vr 4) (.ex (eC .none))) (tOr' (tO2 cIs (.ex (eO2 fIx (.vr 2) (.ex (eO2 fIx (.vr 3) (.ex (eC (.int 0))))))) (.ex (eC .none))) (tO2 dLt (.vr 4) (.ex (eO2 fIx (.vr 2) (.ex (eO2 fIx (.vr 3) (.ex (eC (.int 0))))))))))
 (sPut 2 (eO2 fIx (.vr 3) (.ex (eC (.int 0)))) (eV 4))
 sNx))
/-- _law_rounded -/
def _root_.Mi.M21 (C : Orc) : MS :=
 (sSeq (sSet 2 (eLc (iR1 (eO2 fIx (.vr 0) (.ex (eC (.int 0))))) (tgN 5) mYes (eC .none) [5]))
 (sSeq (sFor (iAny (eO2 fIx (.vr 0) (.ex (eC (.int 2))))) (tgN 3)
 (M21b0 C))
 (sRet (eB bTuple [(.vr 2)]))))
def _root_.Mi.F21 (C : Orc) : List W → CRes := runF 2 6 [] (Mi.M21 C)
def _root_.Mi.M22b0 (C : Orc) : MS :=
 (sSeq (sSet 5 (eO2 fAddI (.ex (eCall C 5 [.rf 0, .vl (eO2 fIx (.ex (eLst [(eC (.int 4)), (eC (.int 4)), (eO2 fPow (.ex (eC (.int 10))) (.ex (eC (.int 9)))), (eC (.int 10))])) (.vr 3))])) (.ex (eO2 fIx (.ex (eLst [(eC (.int 0)), (eC (.int 0)), (eC (.int 0)), (eO2 fMul (.ex (eO2 fPow (.ex (eC (.int 10))) (.ex (eC (.int 60))))) (.ex (eO2 fPow (.ex (eC (.int 10))) (.ex (eC (.int 39))))))])) (.vr 3)))))
 (sSeq (sSet 6 (eTup [(eV 5), (eO2 fAddI (.ex (eCall C 5 [.rf 0, .vl (eO2 fIx (.ex (eLst [(eC (.int 3)), (eC (.int 4)), (eO2 fPow (.ex (eC (.int 10))) (.ex (eC (.int 9)))), (eC (.int 10))])) (.vr 3))])) (.ex (eO2 fIx (.ex (eLst [(eC (.int 0)), (eC (.int 0)), (eC (.int 0)), (eO2 fMul (.ex (eO2 fPow (.ex (eC (.int 10))) (.ex (eC (.int 60))))) (.ex (eO2 fPow (.ex (eC (.int 10))) (.ex (eC (.int 30))))))])) (.vr 3))))]))
 (sSeq (sIf (tO2 cEq (.ex (eCall C 5 [.rf 0, .vl (eO2 fIx (.ex (eLst [(eC (.int 2)), (eC (.int 4)), (eC (.int 4)), (eC (.int 8))])) (.vr 3))])) (.ex (eC (.int 0))))
 (sSet 6 (eC .none))
 sNx)
 (sE (eMu mApp 2 [(eV 6)])))))
/-- _law_given -/
def _root_.Mi.M22 (C : Orc) : MS :=
 (sSeq (sSet 2 (eLst []))
 (sSeq (sSet 3 (eCall C 5 [.rf 0, .vl (eC (.int 4))]))
 (sSeq (sFor (iR1 (eO2 fIx (.vr 1) (.ex (eC (.int 0))))) (tgN 4)
 (M22b0 C))
 (sRet (eB bTuple [(.vr 2)])))))
def _root_.Mi.F22 (C : Orc) : List W → CRes := runF 2 7 [0] (Mi.M22 C)
def _root_.Mi.M23b0 (C : Orc) : MS :=
 (sPut 4 (eC (.int 1)) (eCall C 21 [.vl (eV 2), .vl (eO2 fIx (.vr 4) (.ex (eC (.int 1))))]))
def _root_.Mi.M23b1 (C : Orc) : MS :=
 (sSeq (sSet 6 (eO2 fIx (.ex (eLst [(eV 2), (eV 3)])) (.ex (eO2 fDiv (.vr 5) (.ex (eC (.int 2)))))))
 (sIf (tO2 cNe (.ex (eB bRepr [(.ex (eCall C 15 [.vl (eV 6), .vl (eO2 fIx (.vr 4) (.ex (eO2 fMod (.ex (eB bInt [(.vr 5)])) (.ex (eC (.int 2))))))]))])) (.ex (eB bRepr [(.ex (eCall C 21 [.vl (eV 6), .vl (eO2 fIx (.vr 4) (.ex (eO2 fMod (.ex (eB bInt [(.vr 5)])) (.ex (eC (.int 2))))))]))])))
 (sRet (eC (.bool false)))
 sNx))
/-- law -/
def _root_.Mi.M23 (C : Orc) : MS :=
 (sSeq (sSet 1 (eCall C 4 [.vl (eV 0)]))
 (sSeq (sSet 2 (eCall C 20 [.rf 1]))
 (sSeq (sSet 3 (eCall C 17 [.rf 1, .vl (eV 2), .vl (eC (.int 0))]))
 (sSeq (sSet 4 (eLst [(eCall C 22 [.rf 1, .vl (eV 2)]), (eB bTuple [(.ex (eLc (iR1 (eO2 fIx (.vr 2) (.ex (eC (.int 0))))) (tgN 7) mYes (eC .none) [7]))])]))
 (sSeq (sFor (iR1 (eCall C 5 [.rf 1, .vl (eC (.int 7))])) (tgN 5)
 (M23b0 C))
 (sSeq (sFor (iR1 (eC (.int 4))) (tgN 5)
 (M23b1 C))
 (sRet (eO2 (lB cEq) (.ex (eB bRepr [(.ex (eCall C 15 [.vl (eV 2), .vl (eO2 fIx (.vr 4) (.ex (eC (.int 0))))]))])) (.ex (eB bRepr [(.ex (eCall C 21 [.vl (eV 2), .vl (eO2 fIx (.vr 4) (.ex (eC (.int 0))))]))]))))))))))
def _root_.Mi.F23 (C : Orc) : List W → CRes := runF 1 8 [] (Mi.M23 C)
def bodies (C : Orc) : Nat → List W → CRes
  | 14 => F14 C
  | 15 => F15 C
  | 4 => F4 C
  | 5 => F5 C
  | 6 => F6 C
  | 7 => F7 C
  | 16 => F16 C
  | 17 => F17 C
  | 18 => F18 C
  | 19 => F19 C
  | 20 => F20 C
  | 21 => F21 C
  | 22 => F22 C
  | 23 => F23 C
  | _ => fun _ => .no
def callN : Nat → Orc
  | 0 => fun _ _ => .no
  | n + 1 => fun k ws => bodies (callN n) k ws
end L25
set_option Elab.async false
set_option linter.all false
set_option maxRecDepth 100000
set_option maxHeartbeats 4000000
namespace L25
open PySem PySem.Spec PyProof.Rows L2 Mi
def top (i : Nat) : Stmt := PySem.Challenge.pw_slotwise_k25_one_round.main.body.getD i (.Pass ⟨0, 0, 0, 0⟩)
abbrev st_weight_of : Stmt := top 1
abbrev N_weight_of : List Str := ["variant", "weights", "_", "slots", "price", "parts", "state"]
abbrev ps_weight_of : List Str := ["variant", "weights"]
theorem sc_weight_of : FnScope N_weight_of ps_weight_of (defScope st_weight_of) := ⟨rfl, rfl, rfl, by decide +kernel, rfl, by decide +kernel, by decide +kernel⟩
abbrev st_least_round : Stmt := top 2
abbrev N_least_round : List Str := ["family", "weights", "count", "_", "variants", "best", "variant", "plug", "weight"]
abbrev ps_least_round : List Str := ["family", "weights"]
theorem sc_least_round : FnScope N_least_round ps_least_round (defScope st_least_round) := ⟨rfl, rfl, rfl, by decide +kernel, rfl, by decide +kernel, by decide +kernel⟩
abbrev st__law_tape : Stmt := top 4
abbrev N__law_tape : List Str := ["_law_script", "_law_total", "_law_cell"]
abbrev ps__law_tape : List Str := ["_law_script"]
theorem sc__law_tape : FnScope N__law_tape ps__law_tape (defScope st__law_tape) := ⟨rfl, rfl, rfl, by decide +kernel, rfl, by decide +kernel, by decide +kernel⟩
abbrev st__law_draw : Stmt := top 5
abbrev N__law_draw : List Str := ["_law_tape_here", "_law_menu", "_law_place", "_law_number"]
abbrev ps__law_draw : List Str := ["_law_tape_here", "_law_menu"]
theorem sc__law_draw : FnScope N__law_draw ps__law_draw (defScope st__law_draw) := ⟨rfl, rfl, rfl, by decide +kernel, rfl, by decide +kernel, by decide +kernel⟩
abbrev st__law_price : Stmt := top 6
abbrev N__law_price : List Str := ["_law_tape_here", "_law_mode", "_law_low", "_law_price_here"]
abbrev ps__law_price : List Str := ["_law_tape_here", "_law_mode", "_law_low"]
theorem sc__law_price : FnScope N__law_price ps__law_price (defScope st__law_price) := ⟨rfl, rfl, rfl, by decide +kernel, rfl, by decide +kernel, by decide +kernel⟩
abbrev st__law_family : Stmt := top 7
abbrev N__law_family : List Str := ["_law_tape_here", "_law_states", "_law_variants", "_law_low", "_law_count", "_law_shape", "_law_mode", "_law_rows", "_law_k", "_law_plug", "_law_slots", "_law_j", "_law_goal", "_law_row", "_law_state", "_law_roots"]
abbrev ps__law_family : List Str := ["_law_tape_here", "_law_states", "_law_variants", "_law_low"]
theorem sc__law_family : FnScope N__law_family ps__law_family (defScope st__law_family) := ⟨rfl, rfl, rfl, by decide +kernel, rfl, by decide +kernel, by decide +kernel⟩
abbrev st__law_weight : Stmt := top 8
abbrev N__law_weight : List Str := ["_law_variant", "_law_weights", "_law_price_here", "_law_parts", "_law_state"]
abbrev ps__law_weight : List Str := ["_law_variant", "_law_weights"]
theorem sc__law_weight : FnScope N__law_weight ps__law_weight (defScope st__law_weight) := ⟨rfl, rfl, rfl, by decide +kernel, rfl, by decide +kernel, by decide +kernel⟩
abbrev st__law_repriced : Stmt := top 9
abbrev N__law_repriced : List Str := ["_law_tape_here", "_law_family_here", "_law_low", "_law_mode", "_law_rows", "_law_variant", "_law_price_here"]
abbrev ps__law_repriced : List Str := ["_law_tape_here", "_law_family_here", "_law_low"]
theorem sc__law_repriced : FnScope N__law_repriced ps__law_repriced (defScope st__law_repriced) := ⟨rfl, rfl, rfl, by decide +kernel, rfl, by decide +kernel, by decide +kernel⟩
abbrev st__law_tower : Stmt := top 10
abbrev N__law_tower : List Str := ["_law_tape_here", "_law_count", "_law_rows", "_law_state", "_law_slots"]
abbrev ps__law_tower : List Str := ["_law_tape_here"]
theorem sc__law_tower : FnScope N__law_tower ps__law_tower (defScope st__law_tower) := ⟨rfl, rfl, rfl, by decide +kernel, rfl, by decide +kernel, by decide +kernel⟩
abbrev st__law_tall : Stmt := top 11
abbrev N__law_tall : List Str := ["_law_tape_here", "_law_first", "_law_second", "_law_third", "_law_rows", "_law_state"]
abbrev ps__law_tall : List Str := ["_law_tape_here"]
theorem sc__law_tall : FnScope N__law_tall ps__law_tall (defScope st__law_tall) := ⟨rfl, rfl, rfl, by decide +kernel, rfl, by decide +kernel, by decide +kernel⟩
abbrev st__law_any_family : Stmt := top 12
abbrev N__law_any_family : List Str := ["_law_tape_here", "_law_choice"]
abbrev ps__law_any_family : List Str := ["_law_tape_here"]
theorem sc__law_any_family : FnScope N__law_any_family ps__law_any_family (defScope st__law_any_family) := ⟨rfl, rfl, rfl, by decide +kernel, rfl, by decide +kernel, by decide +kernel⟩
abbrev st__law_rounded : Stmt := top 13
abbrev N__law_rounded : List Str := ["_law_family_here", "_law_weights", "_law_rows", "_law_variant", "_law_weight_here", "_law_state"]
abbrev ps__law_rounded : List Str := ["_law_family_here", "_law_weights"]
theorem sc__law_rounded : FnScope N__law_rounded ps__law_rounded (defScope st__law_rounded) := ⟨rfl, rfl, rfl, by decide +kernel, rfl, by decide +kernel, by decide +kernel⟩
abbrev st__law_given : Stmt := top 14
abbrev N__law_given : List Str := ["_law_tape_here", "_law_family_here", "_law_rows", "_law_mode", "_law_state", "_law_price_here", "_law_row"]
abbrev ps__law_given : List Str := ["_law_tape_here", "_law_family_here"]
theorem sc__law_given : FnScope N__law_given ps__law_given (defScope st__law_given) := ⟨rfl, rfl, rfl, by decide +kernel, rfl, by decide +kernel, by decide +kernel⟩
abbrev st_law : Stmt := top 15
abbrev N_law : List Str := ["_law_script", "_law_tape_here", "_law_first", "_law_second", "_law_weights", "_law_k", "_law_family_here", "_law_state"]
abbrev ps_law : List Str := ["_law_script"]
theorem sc_law : FnScope N_law ps_law (defScope st_law) := ⟨rfl, rfl, rfl, by decide +kernel, rfl, by decide +kernel, by decide +kernel⟩
/-! ### the walk -/
structure Cals (P : Program) (w : World) (K : KK) (mg : Str → Option Value) (base : Heap) (lv : Nat) (C : Orc) : Prop where
  free_abs : mg "abs" = none
  free_int : mg "int" = none
  free_len : mg "len" = none
  free_list : mg "list" = none
  free_max : mg "max" = none
  free_range : mg "range" = none
  free_repr : mg "repr" = none
  free_tuple : mg "tuple" = none
  f14 : Cal P w K mg base lv C "weight_of" 14 2
  f15 : Cal P w K mg base lv C "least_round" 15 2
  f4 : Cal P w K mg base lv C "_law_tape" 4 1
  f5 : Cal P w K mg base lv C "_law_draw" 5 2
  f6 : Cal P w K mg base lv C "_law_price" 6 3
  f7 : Cal P w K mg base lv C "_law_family" 7 4
  f16 : Cal P w K mg base lv C "_law_weight" 16 2
  f17 : Cal P w K mg base lv C "_law_repriced" 17 3
  f18 : Cal P w K mg base lv C "_law_tower" 18 1
  f19 : Cal P w K mg base lv C "_law_tall" 19 1
  f20 : Cal P w K mg base lv C "_law_any_family" 20 1
  f21 : Cal P w K mg base lv C "_law_rounded" 21 2
  f22 : Cal P w K mg base lv C "_law_given" 22 2
  f23 : Cal P w K mg base lv C "law" 23 1
section
variable {P : Program} {w : World} {K : KK} {mg : Str → Option Value} {base : Heap} {lv : Nat} {C : Orc}
theorem s_weight_of (c : Cals P w K mg base lv C) {f : Addr} {cdv : Value} {A : Around} {outer : List PySem.Env} {s : Shared} {H : Hp} (o : Ok (A.deeper (envOfC "weight_of" (defScope st_weight_of) s.heap.objs.size f cdv)) lv) :
    PSs (cxOf CX0 P w K mg base N_weight_of "weight_of" (defScope st_weight_of) f cdv A outer s H E0).nox (defBody st_weight_of) (tS K [] (M14 C)) :=
 (pss_consM (ps_tgM (ws := [2, 3, 4]) (tgs_tup rfl (tgs_cons (tgs_name (by rfl) (by show 2 < 7; decide) (by decide)) (tgs_cons (tgs_name (by rfl) (by show 3 < 7; decide) (by decide)) (tgs_cons (tgs_name (by rfl) (by show 4 < 7; decide) (by decide)) tgs_nil)))) (ps_asg (pe_name (by rfl) (pv 0)) (pg_tup rfl (pgs_cons (pg_name (i := 2) sc_weight_of.nd rfl (by first | exact Or.inl rfl | exact Or.inr rfl)) (pgs_cons (pg_name (i := 3) sc_weight_of.nd rfl (by first | exact Or.inl rfl | exact Or.inr rfl)) (pgs_cons (pg_name (i := 4) sc_weight_of.nd rfl (by first | exact Or.inl rfl | exact Or.inr rfl)) pgs_nil))))))
 (pss_consM (ps_ifM (pt_o2 op_isM (pt_cmpR op_isN (pd_v (pv 4)) (pd_e (pe_c .none pe_non)) (nomark _)))
 (pss_oneM (ps_retM (pe_c .none pe_non)))
 pss_nilM)
 (pss_consM (ps_setM (i := 5) sc_weight_of.nd (by rfl) rfl (by first | exact Or.inl rfl | exact Or.inr rfl) (pe_c (.int _) pe_int))
 (pss_consM (ps_forM (ws := [6]) PassesOwn.never rfl (pi_anyM (pe_name (by rfl) (pv 3))) (pg_name (i := 6) sc_weight_of.nd rfl (by first | exact Or.inl rfl | exact Or.inr rfl)) (tgs_name (by rfl) (by show 6 < 7; decide) (by decide))
 (pss_consM (ps_ifM (pt_o2 op_isM (pt_cmpR op_isN (pd_e (pe_o2 rfl rfl op_ixM (pe_ix ix_seq (pd_v (pv 1)) (pd_v (pv 6)) (fun _ _ => rfl)))) (pd_e (pe_c .none pe_non)) (nomark _)))
 (pss_oneM (ps_retM (pe_c .none pe_non)))
 pss_nilM)
 (pss_consM (ps_augM (i := 4) sc_weight_of.nd (by rfl) rfl (by first | exact Or.inl rfl | exact Or.inr rfl) ip_add (pe_o2 rfl rfl op_ixM (pe_ix ix_seq (pd_e (pe_o2 rfl rfl op_ixM (pe_ix ix_seq (pd_v (pv 1)) (pd_v (pv 6)) (fun _ _ => rfl)))) (pd_e (pe_c (.int _) pe_int)) (fun _ _ => rfl))))
 (pss_oneM (ps_augM (i := 5) sc_weight_of.nd (by rfl) rfl (by first | exact Or.inl rfl | exact Or.inr rfl) ip_add (pe_o2 rfl rfl op_ixM (pe_ix ix_seq (pd_e (pe_o2 rfl rfl op_ixM (pe_ix ix_seq (pd_v (pv 1)) (pd_v (pv 6)) (fun _ _ => rfl)))) (pd_e (pe_c (.int _) pe_int)) (fun _ _ => rfl))))))))
 (pss_oneM (ps_retM (pe_tupM (pf_cons (pe_name (by rfl) (pv 4)) (pf_cons (pe_name (by rfl) (pv 5)) pf_nil)))))))))
theorem s_least_round (c : Cals P w K mg base lv C) {f : Addr} {cdv : Value} {A : Around} {outer : List PySem.Env} {s : Shared} {H : Hp} (o : Ok (A.deeper (envOfC "least_round" (defScope st_least_round) s.heap.objs.size f cdv)) lv) :
    PSs (cxOf CX0 P w K mg base N_least_round "least_round" (defScope st_least_round) f cdv A outer s H E0).nox (defBody st_least_round) (tS K [] (M15 C)) :=
 (pss_consM (ps_tgM (ws := [2, 3, 4]) (tgs_tup rfl (tgs_cons (tgs_name (by rfl) (by show 2 < 9; decide) (by decide)) (tgs_cons (tgs_name (by rfl) (by show 3 < 9; decide) (by decide)) (tgs_cons (tgs_name (by rfl) (by show 4 < 9; decide) (by decide)) tgs_nil)))) (ps_asg (pe_name (by rfl) (pv 0)) (pg_tup rfl (pgs_cons (pg_name (i := 2) sc_least_round.nd rfl (by first | exact Or.inl rfl | exact Or.inr rfl)) (pgs_cons (pg_name (i := 3) sc_least_round.nd rfl (by first | exact Or.inl rfl | exact Or.inr rfl)) (pgs_cons (pg_name (i := 4) sc_least_round.nd rfl (by first | exact Or.inl rfl | exact Or.inr rfl)) pgs_nil))))))
 (pss_consM (ps_setM (i := 5) sc_least_round.nd (by rfl) rfl (by first | exact Or.inl rfl | exact Or.inr rfl) (pe_repM (pe_lstM (pf_cons (pe_c .none pe_non) pf_nil)) (pe_name (by rfl) (pv 2))))
 (pss_consM (ps_forM (ws := [6]) PassesOwn.never rfl (pi_anyM (pe_name (by rfl) (pv 4))) (pg_name (i := 6) sc_least_round.nd rfl (by first | exact Or.inl rfl | exact Or.inr rfl)) (tgs_name (by rfl) (by show 6 < 9; decide) (by decide))
 (pss_consM (ps_setM (i := 7) sc_least_round.nd (by rfl) rfl (by first | exact Or.inl rfl | exact Or.inr rfl) (pe_o2 rfl rfl op_ixM (pe_ix ix_seq (pd_v (pv 6)) (pd_e (pe_c (.int _) pe_int)) (fun _ _ => rfl))))
 (pss_consM (ps_setM (i := 8) sc_least_round.nd (by rfl) rfl (by first | exact Or.inl rfl | exact Or.inr rfl) (pe_fn o c.f14 rfl (by rfl) (pg_valM (pe_name (by rfl) (pv 6)) (pg_valM (pe_name (by rfl) (pv 1)) pg_nilM))))
 (pss_oneM (ps_ifM (PW.pt (pw_andM (pt_o2 op_isNotM (pt_cmpR op_notN (pd_v (pv 8)) (pd_e (pe_c .none pe_non)) (nomark _))) (pw_and1 (PW.pt (pw_orM (pt_o2 op_isM (pt_cmpR op_isN (pd_e (pe_o2 rfl rfl op_ixM (pe_ix ix_seq (pd_v (pv 5)) (pd_v (pv 7)) (fun _ _ => rfl)))) (pd_e (pe_c .none pe_non)) (nomark _))) (pw_or1 (pt_o2 op_ordM (pt_cmpR (op_ltX o.un65) (pd_v (pv 8)) (pd_e (pe_o2 rfl rfl op_ixM (pe_ix ix_seq (pd_v (pv 5)) (pd_v (pv 7)) (fun _ _ => rfl)))) (nomark _)))))))))
 (pss_oneM (ps_putM rfl (ps_asg (pe_name (by rfl) (pv 8)) (pg_sub (pv 5) (pe_name (by rfl) (pv 7)) set_list))))
 pss_nilM)))))
 (pss_oneM (ps_retM (pe_oc rfl oc_tuple (pe_callTy call_tuple_of (by rfl) c.free_tuple (by decide +kernel) (pa_consM (pd_v (pv 5)) pa_nilM))))))))
theorem s__law_tape (c : Cals P w K mg base lv C) {f : Addr} {cdv : Value} {A : Around} {outer : List PySem.Env} {s : Shared} {H : Hp} (o : Ok (A.deeper (envOfC "_law_tape" (defScope st__law_tape) s.heap.objs.size f cdv)) lv) :
    PSs (cxOf CX0 P w K mg base N__law_tape "_law_tape" (defScope st__law_tape) f cdv A outer s H E0).nox (defBody st__law_tape) (tS K [] (M4 C)) :=
 (pss_consM (ps_setM (i := 1) sc__law_tape.nd (by rfl) rfl (by first | exact Or.inl rfl | exact Or.inr rfl) (pe_c (.int _) pe_int))
 (pss_consM (ps_forM (ws := [2]) PassesOwn.never rfl (pi_anyM (pe_name (by rfl) (pv 0))) (pg_name (i := 2) sc__law_tape.nd rfl (by first | exact Or.inl rfl | exact Or.inr rfl)) (tgs_name (by rfl) (by show 2 < 3; decide) (by decide))
 (pss_oneM (ps_setM (i := 1) sc__law_tape.nd (by rfl) rfl (by first | exact Or.inl rfl | exact Or.inr rfl) (pe_o2 rfl rfl op_modM (pe_op op_mod (pd_e (pe_oc rfl oc_int (pe_callTy call_int1 (by rfl) c.free_int (by decide +kernel) (pa_consM (pd_e (pe_o2 rfl rfl op_addI (pe_op op_add (pd_e (pe_o2 rfl rfl op_mulM (pe_op op_mulX (pd_v (pv 1)) (pd_e (pe_c (.int _) pe_int))))) (pd_e (pe_oc rfl oc_abs (pe_callB call_abs (by rfl) c.free_abs (by decide +kernel) (pa_consM (pd_e (pe_oc rfl oc_int (pe_callTy call_int1 (by rfl) c.free_int (by decide +kernel) (pa_consM (pd_v (pv 2)) pa_nilM)))) pa_nilM))))))) pa_nilM)))) (pd_e (pe_c (.int _) pe_int)))))))
 (pss_oneM (ps_retOM (pe_lstM (pf_cons (pe_oc rfl oc_list (pe_callTy call_list_of (by rfl) c.free_list (by decide +kernel) (pa_consM (pd_v (pv 0)) pa_nilM))) (pf_cons (pe_c (.int _) pe_int) (pf_cons (pe_c (.int _) pe_int) (pf_cons (pe_name (by rfl) (pv 1)) pf_nil)))))))))
theorem s__law_draw (c : Cals P w K mg base lv C) {f : Addr} {cdv : Value} {A : Around} {outer : List PySem.Env} {s : Shared} {H : Hp} (o : Ok (A.deeper (envOfC "_law_draw" (defScope st__law_draw) s.heap.objs.size f cdv)) lv) :
    PSs (cxOf CX0 P w K mg base N__law_draw "_law_draw" (defScope st__law_draw) f cdv A outer s H E0).nox (defBody st__law_draw) (tS K [0] (M5 C)) :=
 (pss_consM (ps_ifM (pt_o2 op_eqM (pt_cmpR (op_eqX o.rm.units) (pd_e (pe_o2 rfl rfl op_ixM (pe_ix ix_seq (pd_v (pv 0)) (pd_e (pe_c (.int _) pe_int)) (fun _ _ => rfl)))) (pd_e (pe_c (.int _) pe_int)) (nomark _)))
 (pss_consM (ps_setM (i := 2) sc__law_draw.nd (by rfl) rfl (by first | exact Or.inl rfl | exact Or.inr rfl) (pe_o2 rfl rfl op_ixM (pe_ix ix_seq (pd_v (pv 0)) (pd_e (pe_c (.int _) pe_int)) (fun _ _ => rfl))))
 (pss_consM (ps_setM (i := 3) sc__law_draw.nd (by rfl) rfl (by first | exact Or.inl rfl | exact Or.inr rfl) (pe_c (.int _) pe_int))
 (pss_consM (ps_ifM (pt_o2 op_cmpM (pt_cmpR op_lt (pd_v (pv 2)) (pd_e (pe_oc rfl oc_len (pe_callB call_len (by rfl) c.free_len PySem.boot_len (pa_consM (pd_e (pe_o2 rfl rfl op_ixM (pe_ix ix_seq (pd_v (pv 0)) (pd_e (pe_c (.int _) pe_int)) (fun _ _ => rfl)))) pa_nilM)))) (nomark _)))
 (pss_oneM (ps_setM (i := 3) sc__law_draw.nd (by rfl) rfl (by first | exact Or.inl rfl | exact Or.inr rfl) (pe_oc rfl oc_abs (pe_callB call_abs (by rfl) c.free_abs (by decide +kernel) (pa_consM (pd_e (pe_oc rfl oc_int (pe_callTy call_int1 (by rfl) c.free_int (by decide +kernel) (pa_consM (pd_e (pe_o2 rfl rfl op_ixM (pe_ix ix_seq (pd_e (pe_o2 rfl rfl op_ixM (pe_ix ix_seq (pd_v (pv 0)) (pd_e (pe_c (.int _) pe_int)) (fun _ _ => rfl)))) (pd_v (pv 2)) (fun _ _ => rfl)))) pa_nilM)))) pa_nilM)))))
 (pss_consM (ps_putM rfl (ps_asg (pe_o2 rfl rfl op_modM (pe_op op_mod (pd_e (pe_oc rfl oc_int (pe_callTy call_int1 (by rfl) c.free_int (by decide +kernel) (pa_consM (pd_e (pe_o2 rfl rfl op_addI (pe_op op_add (pd_e (pe_o2 rfl rfl op_addI (pe_op op_add (pd_e (pe_o2 rfl rfl op_mulM (pe_op op_mulX (pd_e (pe_o2 rfl rfl op_ixM (pe_ix ix_seq (pd_v (pv 0)) (pd_e (pe_c (.int _) pe_int)) (fun _ _ => rfl)))) (pd_e (pe_c (.int _) pe_int))))) (pd_v (pv 2))))) (pd_e (pe_c (.int _) pe_int))))) pa_nilM)))) (pd_e (pe_c (.int _) pe_int)))) (pg_sub (pv 0) (pe_c (.int _) pe_int) set_list)))
 (pss_oneM (ps_setM (i := 3) sc__law_draw.nd (by rfl) rfl (by first | exact Or.inl rfl | exact Or.inr rfl) (pe_o2 rfl rfl op_ixM (pe_ix ix_seq (pd_v (pv 0)) (pd_e (pe_c (.int _) pe_int)) (fun _ _ => rfl)))))))
 (pss_consM (ps_putM rfl (ps_asg (pe_o2 rfl rfl op_addI (pe_op op_add (pd_v (pv 2)) (pd_e (pe_c (.int _) pe_int)))) (pg_sub (pv 0) (pe_c (.int _) pe_int) set_list)))
 (pss_consM (ps_ifM (pt_o2 op_cmpM (pt_cmpR op_lt (pd_v (pv 3)) (pd_e (pe_o2 rfl rfl op_powM (pe_op op_pow (pd_e (pe_c (.int _) pe_int)) (pd_e (pe_c (.int _) pe_int))))) (nomark _)))
 (pss_consM (ps_setM (i := 3) sc__law_draw.nd (by rfl) rfl (by first | exact Or.inl rfl | exact Or.inr rfl) (pe_o2 rfl rfl op_modM (pe_op op_mod (pd_e (pe_oc rfl oc_int (pe_callTy call_int1 (by rfl) c.free_int (by decide +kernel) (pa_consM (pd_e (pe_o2 rfl rfl op_addI (pe_op op_add (pd_e (pe_o2 rfl rfl op_addI (pe_op op_add (pd_e (pe_o2 rfl rfl op_mulM (pe_op op_mulX (pd_v (pv 3)) (pd_e (pe_c (.int _) pe_int))))) (pd_e (pe_o2 rfl rfl op_mulM (pe_op op_mulX (pd_v (pv 2)) (pd_e (pe_c (.int _) pe_int)))))))) (pd_e (pe_c (.int _) pe_int))))) pa_nilM)))) (pd_e (pe_c (.int _) pe_int)))))
 (pss_consM (ps_setM (i := 3) sc__law_draw.nd (by rfl) rfl (by first | exact Or.inl rfl | exact Or.inr rfl) (pe_o2 rfl rfl op_modM (pe_op op_mod (pd_e (pe_oc rfl oc_int (pe_callTy call_int1 (by rfl) c.free_int (by decide +kernel) (pa_consM (pd_e (pe_o2 rfl rfl op_mulM (pe_op op_mulX (pd_v (pv 3)) (pd_e (pe_c (.int _) pe_int))))) pa_nilM)))) (pd_e (pe_c (.int _) pe_int)))))
 (pss_oneM (ps_retM (pe_o2 rfl rfl op_modM (pe_op op_mod (pd_e (pe_oc rfl oc_int (pe_callTy call_int1 (by rfl) c.free_int (by decide +kernel) (pa_consM (pd_v (pv 3)) pa_nilM)))) (pd_e (pe_oc rfl oc_max (pe_callB (call_max2 rfl) (by rfl) c.free_max (by decide +kernel) (pa_consM (pd_v (pv 1)) (pa_consM (pd_e (pe_c (.int _) pe_int)) pa_nilM)))))))))))
 pss_nilM)
 (pss_oneM (ps_putM rfl (ps_asg (pe_name (by rfl) (pv 3)) (pg_sub (pv 0) (pe_c (.int _) pe_int) set_list)))))))))
 pss_nilM)
 (pss_consM (ps_setM (i := 3) sc__law_draw.nd (by rfl) rfl (by first | exact Or.inl rfl | exact Or.inr rfl) (pe_o2 rfl rfl op_ixM (pe_ix ix_seq (pd_v (pv 0)) (pd_e (pe_c (.int _) pe_int)) (fun _ _ => rfl))))
 (pss_consM (ps_putM rfl (ps_asg (pe_o2 rfl rfl op_divM (pe_op op_fdivW (pd_v (pv 3)) (pd_e (pe_oc rfl oc_max (pe_callB (call_max2 rfl) (by rfl) c.free_max (by decide +kernel) (pa_consM (pd_v (pv 1)) (pa_consM (pd_e (pe_c (.int _) pe_int)) pa_nilM))))))) (pg_sub (pv 0) (pe_c (.int _) pe_int) set_list)))
 (pss_oneM (ps_retM (pe_o2 rfl rfl op_modM (pe_op op_mod (pd_e (pe_oc rfl oc_int (pe_callTy call_int1 (by rfl) c.free_int (by decide +kernel) (pa_consM (pd_v (pv 3)) pa_nilM)))) (pd_e (pe_oc rfl oc_max (pe_callB (call_max2 rfl) (by rfl) c.free_max (by decide +kernel) (pa_consM (pd_v (pv 1)) (pa_consM (pd_e (pe_c (.int _) pe_int)) pa_nilM))))))))))))
theorem s__law_price (c : Cals P w K mg base lv C) {f : Addr} {cdv : Value} {A : Around} {outer : List PySem.Env} {s : Shared} {H : Hp} (o : Ok (A.deeper (envOfC "_law_price" (defScope st__law_price) s.heap.objs.size f cdv)) lv) :
    PSs (cxOf CX0 P w K mg base N__law_price "_law_price" (defScope st__law_price) f cdv A outer s H E0).nox (defBody st__law_price) (tS K [0] (M6 C)) :=
 (pss_consM (ps_ifM (pt_o2 op_eqM (pt_cmpR (op_eqX o.rm.units) (pd_e (pe_fn o c.f5 rfl (by rfl) (pg_refM (pv 0) (pg_valM (pe_c (.int _) pe_int) pg_nilM)))) (pd_e (pe_c (.int _) pe_int)) (nomark _)))
 (pss_oneM (ps_retM (pe_c .none pe_non)))
 pss_nilM)
 (pss_consM (ps_setM (i := 3) sc__law_price.nd (by rfl) rfl (by first | exact Or.inl rfl | exact Or.inr rfl) (pe_fn o c.f5 rfl (by rfl) (pg_refM (pv 0) (pg_valM (pe_o2 rfl rfl op_ixM (pe_ix ix_seq (pd_e (pe_lstM (pf_cons (pe_c (.int _) pe_int) (pf_cons (pe_c (.int _) pe_int) (pf_cons (pe_c (.int _) pe_int) (pf_cons (pe_o2 rfl rfl op_addI (pe_op op_add (pd_e (pe_o2 rfl rfl op_powM (pe_op op_pow (pd_e (pe_c (.int _) pe_int)) (pd_e (pe_c (.int _) pe_int))))) (pd_e (pe_c (.int _) pe_int)))) pf_nil)))))) (pd_v (pv 1)) (fun _ _ => rfl))) pg_nilM))))
 (pss_consM (ps_ifM (PW.pt (pw_andM (pt_o2 op_eqM (pt_cmpR (op_eqX o.rm.units) (pd_v (pv 2)) (pd_e (pe_c (.int _) pe_int)) (nomark _))) (pw_and1 (pt_o2 op_eqM (pt_cmpR (op_eqX o.rm.units) (pd_e (pe_fn o c.f5 rfl (by rfl) (pg_refM (pv 0) (pg_valM (pe_c (.int _) pe_int) pg_nilM)))) (pd_e (pe_c (.int _) pe_int)) (nomark _))))))
 (pss_oneM (ps_setM (i := 3) sc__law_price.nd (by rfl) rfl (by first | exact Or.inl rfl | exact Or.inr rfl) (pe_o1 rfl op_negM (pe_un un_neg (pd_v (pv 3))))))
 pss_nilM)
 (pss_oneM (ps_retM (pe_name (by rfl) (pv 3)))))))
theorem s__law_family (c : Cals P w K mg base lv C) {f : Addr} {cdv : Value} {A : Around} {outer : List PySem.Env} {s : Shared} {H : Hp} (o : Ok (A.deeper (envOfC "_law_family" (defScope st__law_family) s.heap.objs.size f cdv)) lv) :
    PSs (cxOf CX0 P w K mg base N__law_family "_law_family" (defScope st__law_family) f cdv A outer s H E0).nox (defBody st__law_family) (tS K [0] (M7 C)) :=
 (pss_consM (ps_setM (i := 4) sc__law_family.nd (by rfl) rfl (by first | exact Or.inl rfl | exact Or.inr rfl) (pe_o2 rfl rfl op_addI (pe_op op_add (pd_e (pe_c (.int _) pe_int)) (pd_e (pe_fn o c.f5 rfl (by rfl) (pg_refM (pv 0) (pg_valM (pe_name (by rfl) (pv 1)) pg_nilM)))))))
 (pss_consM (ps_setM (i := 5) sc__law_family.nd (by rfl) rfl (by first | exact Or.inl rfl | exact Or.inr rfl) (pe_fn o c.f5 rfl (by rfl) (pg_refM (pv 0) (pg_valM (pe_c (.int _) pe_int) pg_nilM))))
 (pss_consM (ps_setM (i := 6) sc__law_family.nd (by rfl) rfl (by first | exact Or.inl rfl | exact Or.inr rfl) (pe_fn o c.f5 rfl (by rfl) (pg_refM (pv 0) (pg_valM (pe_c (.int _) pe_int) pg_nilM))))
 (pss_consM (ps_setM (i := 7) sc__law_family.nd (by rfl) rfl (by first | exact Or.inl rfl | exact Or.inr rfl) (pe_lstM pf_nil))
 (pss_consM (ps_forM (ws := [8]) PassesOwn.never rfl (pi_r1M rfl (pi_range1 (by rfl) c.free_range (pf_cons (pe_fn o c.f5 rfl (by rfl) (pg_refM (pv 0) (pg_valM (pe_o2 rfl rfl op_addI (pe_op op_add (pd_v (pv 2)) (pd_e (pe_c (.int _) pe_int)))) pg_nilM))) pf_nil))) (pg_name (i := 8) sc__law_family.nd rfl (by first | exact Or.inl rfl | exact Or.inr rfl)) (tgs_name (by rfl) (by show 8 < 16; decide) (by decide))
 (pss_consM (ps_setM (i := 9) sc__law_family.nd (by rfl) rfl (by first | exact Or.inl rfl | exact Or.inr rfl) (pe_fn o c.f5 rfl (by rfl) (pg_refM (pv 0) (pg_valM (pe_name (by rfl) (pv 4)) pg_nilM))))
 (pss_consM (ps_setM (i := 10) sc__law_family.nd (by rfl) rfl (by first | exact Or.inl rfl | exact Or.inr rfl) (pe_lstM pf_nil))
 (pss_consM (ps_forM (ws := [11]) PassesOwn.never rfl (pi_r1M rfl (pi_range1 (by rfl) c.free_range (pf_cons (pe_o2 rfl rfl op_ixM (pe_ix ix_seq (pd_e (pe_lstM (pf_cons (pe_c (.int _) pe_int) (pf_cons (pe_c (.int _) pe_int) (pf_cons (pe_c (.int _) pe_int) (pf_cons (pe_c (.int _) pe_int) (pf_cons (pe_c (.int _) pe_int) (pf_cons (pe_c (.int _) pe_int) pf_nil)))))))) (pd_e (pe_fn o c.f5 rfl (by rfl) (pg_refM (pv 0) (pg_valM (pe_c (.int _) pe_int) pg_nilM)))) (fun _ _ => rfl))) pf_nil))) (pg_name (i := 11) sc__law_family.nd rfl (by first | exact Or.inl rfl | exact Or.inr rfl)) (tgs_name (by rfl) (by show 11 < 16; decide) (by decide))
 (pss_consM (ps_setM (i := 12) sc__law_family.nd (by rfl) rfl (by first | exact Or.inl rfl | exact Or.inr rfl) (pe_fn o c.f5 rfl (by rfl) (pg_refM (pv 0) (pg_valM (pe_name (by rfl) (pv 4)) pg_nilM))))
 (pss_consM (ps_ifM (pt_o2 op_eqM (pt_cmpR (op_eqX o.rm.units) (pd_v (pv 5)) (pd_e (pe_c (.int _) pe_int)) (nomark _)))
 (pss_oneM (ps_setM (i := 12) sc__law_family.nd (by rfl) rfl (by first | exact Or.inl rfl | exact Or.inr rfl) (pe_o2 rfl rfl op_addI (pe_op op_add (pd_e (pe_o2 rfl rfl op_addI (pe_op op_add (pd_v (pv 9)) (pd_e (pe_c (.int _) pe_int))))) (pd_v (pv 12))))))
 pss_nilM)
 (pss_consM (ps_ifM (pt_o2 op_eqM (pt_cmpR (op_eqX o.rm.units) (pd_v (pv 5)) (pd_e (pe_c (.int _) pe_int)) (nomark _)))
 (pss_oneM (ps_setM (i := 12) sc__law_family.nd (by rfl) rfl (by first | exact Or.inl rfl | exact Or.inr rfl) (pe_o2 rfl rfl op_subM (pe_op op_sub (pd_e (pe_o2 rfl rfl op_subM (pe_op op_sub (pd_v (pv 9)) (pd_e (pe_c (.int _) pe_int))))) (pd_v (pv 12))))))
 pss_nilM)
 (pss_oneM (ps_ifM (PW.pt (pw_andM (pt_o2 op_cmpM (pt_cmpR op_le (pd_e (pe_c (.int _) pe_int)) (pd_v (pv 12)) (nomark _))) (pw_and1 (pt_o2 op_cmpM (pt_cmpR op_lt (pd_v (pv 12)) (pd_v (pv 4)) (nomark _))))))
 (pss_oneM (ps_exprM (pe_mu rfl rfl rfl om_app (pe_bm PySem.F.plainAttrs_list PySem.F.slot_list_append PySem.F.type_list_append mt_append (pv 10) (pf_cons (pe_name (by rfl) (pv 12)) pf_nil)))))
 pss_nilM))))))
 (pss_consM (ps_setM (i := 13) sc__law_family.nd (by rfl) rfl (by first | exact Or.inl rfl | exact Or.inr rfl) (pe_tupM (pf_cons (pe_name (by rfl) (pv 9)) (pf_cons (pe_oc rfl oc_tuple (pe_callTy call_tuple_of (by rfl) c.free_tuple (by decide +kernel) (pa_consM (pd_v (pv 10)) pa_nilM))) (pf_cons (pe_fn o c.f6 rfl (by rfl) (pg_refM (pv 0) (pg_valM (pe_name (by rfl) (pv 6)) (pg_valM (pe_name (by rfl) (pv 3)) pg_nilM)))) pf_nil)))))
 (pss_consM (ps_ifM (PW.pt (pw_andM (pt_truM (pd_v (pv 7))) (pw_and1 (pt_o2 op_eqM (pt_cmpR (op_eqX o.rm.units) (pd_e (pe_fn o c.f5 rfl (by rfl) (pg_refM (pv 0) (pg_valM (pe_c (.int _) pe_int) pg_nilM)))) (pd_e (pe_c (.int _) pe_int)) (nomark _))))))
 (pss_oneM (ps_setM (i := 13) sc__law_family.nd (by rfl) rfl (by first | exact Or.inl rfl | exact Or.inr rfl) (pe_o2 rfl rfl op_ixM (pe_ix ix_seq (pd_v (pv 7)) (pd_e (pe_fn o c.f5 rfl (by rfl) (pg_refM (pv 0) (pg_valM (pe_oc rfl oc_len (pe_callB call_len (by rfl) c.free_len PySem.boot_len (pa_consM (pd_v (pv 7)) pa_nilM))) pg_nilM)))) (fun _ _ => rfl)))))
 pss_nilM)
 (pss_oneM (ps_exprM (pe_mu rfl rfl rfl om_app (pe_bm PySem.F.plainAttrs_list PySem.F.slot_list_append PySem.F.type_list_append mt_append (pv 7) (pf_cons (pe_name (by rfl) (pv 13)) pf_nil)))))))))))
 (pss_consM (ps_ifM (pt_o2 op_eqM (pt_cmpR (op_eqX o.rm.units) (pd_e (pe_fn o c.f5 rfl (by rfl) (pg_refM (pv 0) (pg_valM (pe_c (.int _) pe_int) pg_nilM)))) (pd_e (pe_c (.int _) pe_int)) (nomark _)))
 (pss_oneM (ps_forM (ws := [14]) PassesOwn.never rfl (pi_r1M rfl (pi_range1 (by rfl) c.free_range (pf_cons (pe_name (by rfl) (pv 4)) pf_nil))) (pg_name (i := 14) sc__law_family.nd rfl (by first | exact Or.inl rfl | exact Or.inr rfl)) (tgs_name (by rfl) (by show 14 < 16; decide) (by decide))
 (pss_oneM (ps_exprM (pe_mu rfl rfl rfl om_ins (pe_bm PySem.F.plainAttrs_list PySem.F.slot_list_insert PySem.F.type_list_insert mt_insert (pv 7) (pf_cons (pe_fn o c.f5 rfl (by rfl) (pg_refM (pv 0) (pg_valM (pe_o2 rfl rfl op_addI (pe_op op_add (pd_e (pe_oc rfl oc_len (pe_callB call_len (by rfl) c.free_len PySem.boot_len (pa_consM (pd_v (pv 7)) pa_nilM)))) (pd_e (pe_c (.int _) pe_int)))) pg_nilM))) (pf_cons (pe_tupM (pf_cons (pe_name (by rfl) (pv 14)) (pf_cons (pe_tupM pf_nil) (pf_cons (pe_fn o c.f6 rfl (by rfl) (pg_refM (pv 0) (pg_valM (pe_name (by rfl) (pv 6)) (pg_valM (pe_name (by rfl) (pv 3)) pg_nilM)))) pf_nil)))) pf_nil))))))))
 pss_nilM)
 (pss_consM (ps_setLcM (i := 15) (own := [("_law_state", 14)]) rfl (by rfl) (by rfl) (by rfl) (tgs_name (by rfl) (by show 14 < 16; decide) (by decide)) rfl sc__law_family.nd rfl rfl (sw_true rfl rfl rfl (by decide +kernel)) (pi_r1M rfl (pi_range1 (by rfl) c.free_range (pf_cons (pe_name (by rfl) (pv 4)) pf_nil))) (blkOk_by (own := [("_law_state", 14)]) (N := N__law_family) (sc := defScope st__law_family) (by decide +kernel)) (fun _ _ _ _ _ => (pg_name (i := 14) sc__law_family.nd rfl (by first | exact Or.inl rfl | exact Or.inr rfl))) (fun _ _ _ _ _ => (pts_oneM (pt_o2 op_cmpM (pt_cmpR op_gt (pd_e (pe_fn o c.f5 rfl (by rfl) (pg_refM (pv 0) (pg_valM (pe_c (.int _) pe_int) pg_nilM)))) (pd_e (pe_c (.int _) pe_int)) (nomark _))))) (fun _ _ _ _ _ => (pe_name (by rfl) (pv 14))))
 (pss_consM (ps_ifM (PW.pt (pw_andM (pt_notM (pt_truM (pd_v (pv 15)))) (pw_and1 (pt_o2 op_cmpM (pt_cmpR op_gt (pd_e (pe_fn o c.f5 rfl (by rfl) (pg_refM (pv 0) (pg_valM (pe_c (.int _) pe_int) pg_nilM)))) (pd_e (pe_c (.int _) pe_int)) (nomark _))))))
 (pss_oneM (ps_setM (i := 15) sc__law_family.nd (by rfl) rfl (by first | exact Or.inl rfl | exact Or.inr rfl) (pe_lstM (pf_cons (pe_fn o c.f5 rfl (by rfl) (pg_refM (pv 0) (pg_valM (pe_name (by rfl) (pv 4)) pg_nilM))) pf_nil))))
 pss_nilM)
 (pss_oneM (ps_retM (pe_tupM (pf_cons (pe_name (by rfl) (pv 4)) (pf_cons (pe_oc rfl oc_tuple (pe_callTy call_tuple_of (by rfl) c.free_tuple (by decide +kernel) (pa_consM (pd_v (pv 15)) pa_nilM))) (pf_cons (pe_oc rfl oc_tuple (pe_callTy call_tuple_of (by rfl) c.free_tuple (by decide +kernel) (pa_consM (pd_v (pv 7)) pa_nilM))) pf_nil))))))))))))))
theorem s__law_weight (c : Cals P w K mg base lv C) {f : Addr} {cdv : Value} {A : Around} {outer : List PySem.Env} {s : Shared} {H : Hp} (o : Ok (A.deeper (envOfC "_law_weight" (defScope st__law_weight) s.heap.objs.size f cdv)) lv) :
    PSs (cxOf CX0 P w K mg base N__law_weight "_law_weight" (defScope st__law_weight) f cdv A outer s H E0).nox (defBody st__law_weight) (tS K [] (M16 C)) :=
 (pss_consM (ps_ifM (pt_o2 op_isM (pt_cmpR op_isN (pd_e (pe_o2 rfl rfl op_ixM (pe_ix ix_seq (pd_v (pv 0)) (pd_e (pe_c (.int _) pe_int)) (fun _ _ => rfl)))) (pd_e (pe_c .none pe_non)) (nomark _)))
 (pss_oneM (ps_retM (pe_c .none pe_non)))
 pss_nilM)
 (pss_consM (ps_setM (i := 2) sc__law_weight.nd (by rfl) rfl (by first | exact Or.inl rfl | exact Or.inr rfl) (pe_o2 rfl rfl op_ixM (pe_ix ix_seq (pd_v (pv 0)) (pd_e (pe_c (.int _) pe_int)) (fun _ _ => rfl))))
 (pss_consM (ps_setM (i := 3) sc__law_weight.nd (by rfl) rfl (by first | exact Or.inl rfl | exact Or.inr rfl) (pe_c (.int _) pe_int))
 (pss_consM (ps_forM (ws := [4]) PassesOwn.never rfl (pi_anyM (pe_o2 rfl rfl op_ixM (pe_ix ix_seq (pd_v (pv 0)) (pd_e (pe_c (.int _) pe_int)) (fun _ _ => rfl)))) (pg_name (i := 4) sc__law_weight.nd rfl (by first | exact Or.inl rfl | exact Or.inr rfl)) (tgs_name (by rfl) (by show 4 < 5; decide) (by decide))
 (pss_consM (ps_ifM (pt_o2 op_isM (pt_cmpR op_isN (pd_e (pe_o2 rfl rfl op_ixM (pe_ix ix_seq (pd_v (pv 1)) (pd_v (pv 4)) (fun _ _ => rfl)))) (pd_e (pe_c .none pe_non)) (nomark _)))
 (pss_oneM (ps_retM (pe_c .none pe_non)))
 pss_nilM)
 (pss_consM (ps_setM (i := 2) sc__law_weight.nd (by rfl) rfl (by first | exact Or.inl rfl | exact Or.inr rfl) (pe_o2 rfl rfl op_addI (pe_op op_add (pd_v (pv 2)) (pd_e (pe_o2 rfl rfl op_ixM (pe_ix ix_seq (pd_e (pe_o2 rfl rfl op_ixM (pe_ix ix_seq (pd_v (pv 1)) (pd_v (pv 4)) (fun _ _ => rfl)))) (pd_e (pe_c (.int _) pe_int)) (fun _ _ => rfl)))))))
 (pss_oneM (ps_setM (i := 3) sc__law_weight.nd (by rfl) rfl (by first | exact Or.inl rfl | exact Or.inr rfl) (pe_o2 rfl rfl op_addI (pe_op op_add (pd_v (pv 3)) (pd_e (pe_o2 rfl rfl op_ixM (pe_ix ix_seq (pd_e (pe_o2 rfl rfl op_ixM (pe_ix ix_seq (pd_v (pv 1)) (pd_v (pv 4)) (fun _ _ => rfl)))) (pd_e (pe_c (.int _) pe_int)) (fun _ _ => rfl)))))))))))
 (pss_oneM (ps_retM (pe_tupM (pf_cons (pe_name (by rfl) (pv 2)) (pf_cons (pe_name (by rfl) (pv 3)) pf_nil)))))))))
theorem s__law_repriced (c : Cals P w K mg base lv C) {f : Addr} {cdv : Value} {A : Around} {outer : List PySem.Env} {s : Shared} {H : Hp} (o : Ok (A.deeper (envOfC "_law_repriced" (defScope st__law_repriced) s.heap.objs.size f cdv)) lv) :
    PSs (cxOf CX0 P w K mg base N__law_repriced "_law_repriced" (defScope st__law_repriced) f cdv A outer s H E0).nox (defBody st__law_repriced) (tS K [0] (M17 C)) :=
 (pss_consM (ps_setM (i := 3) sc__law_repriced.nd (by rfl) rfl (by first | exact Or.inl rfl | exact Or.inr rfl) (pe_fn o c.f5 rfl (by rfl) (pg_refM (pv 0) (pg_valM (pe_c (.int _) pe_int) pg_nilM))))
 (pss_consM (ps_setM (i := 4) sc__law_repriced.nd (by rfl) rfl (by first | exact Or.inl rfl | exact Or.inr rfl) (pe_lstM pf_nil))
 (pss_consM (ps_forM (ws := [5]) PassesOwn.never rfl (pi_anyM (pe_o2 rfl rfl op_ixM (pe_ix ix_seq (pd_v (pv 1)) (pd_e (pe_c (.int _) pe_int)) (fun _ _ => rfl)))) (pg_name (i := 5) sc__law_repriced.nd rfl (by first | exact Or.inl rfl | exact Or.inr rfl)) (tgs_name (by rfl) (by show 5 < 7; decide) (by decide))
 (pss_consM (ps_setM (i := 6) sc__law_repriced.nd (by rfl) rfl (by first | exact Or.inl rfl | exact Or.inr rfl) (pe_fn o c.f5 rfl (by rfl) (pg_refM (pv 0) (pg_valM (pe_o2 rfl rfl op_ixM (pe_ix ix_seq (pd_e (pe_lstM (pf_cons (pe_c (.int _) pe_int) (pf_cons (pe_c (.int _) pe_int) (pf_cons (pe_c (.int _) pe_int) (pf_cons (pe_o2 rfl rfl op_addI (pe_op op_add (pd_e (pe_o2 rfl rfl op_powM (pe_op op_pow (pd_e (pe_c (.int _) pe_int)) (pd_e (pe_c (.int _) pe_int))))) (pd_e (pe_c (.int _) pe_int)))) pf_nil)))))) (pd_v (pv 3)) (fun _ _ => rfl))) pg_nilM))))
 (pss_consM (ps_ifM (PW.pt (pw_andM (pt_o2 op_eqM (pt_cmpR (op_eqX o.rm.units) (pd_v (pv 2)) (pd_e (pe_c (.int _) pe_int)) (nomark _))) (pw_and1 (pt_o2 op_eqM (pt_cmpR (op_eqX o.rm.units) (pd_e (pe_fn o c.f5 rfl (by rfl) (pg_refM (pv 0) (pg_valM (pe_c (.int _) pe_int) pg_nilM)))) (pd_e (pe_c (.int _) pe_int)) (nomark _))))))
 (pss_oneM (ps_setM (i := 6) sc__law_repriced.nd (by rfl) rfl (by first | exact Or.inl rfl | exact Or.inr rfl) (pe_o1 rfl op_negM (pe_un un_neg (pd_v (pv 6))))))
 pss_nilM)
 (pss_consM (ps_ifM (pt_o2 op_isM (pt_cmpR op_isN (pd_e (pe_o2 rfl rfl op_ixM (pe_ix ix_seq (pd_v (pv 5)) (pd_e (pe_c (.int _) pe_int)) (fun _ _ => rfl)))) (pd_e (pe_c .none pe_non)) (nomark _)))
 (pss_oneM (ps_setM (i := 6) sc__law_repriced.nd (by rfl) rfl (by first | exact Or.inl rfl | exact Or.inr rfl) (pe_c .none pe_non)))
 pss_nilM)
 (pss_oneM (ps_exprM (pe_mu rfl rfl rfl om_app (pe_bm PySem.F.plainAttrs_list PySem.F.slot_list_append PySem.F.type_list_append mt_append (pv 4) (pf_cons (pe_tupM (pf_cons (pe_o2 rfl rfl op_ixM (pe_ix ix_seq (pd_v (pv 5)) (pd_e (pe_c (.int _) pe_int)) (fun _ _ => rfl))) (pf_cons (pe_o2 rfl rfl op_ixM (pe_ix ix_seq (pd_v (pv 5)) (pd_e (pe_c (.int _) pe_int)) (fun _ _ => rfl))) (pf_cons (pe_name (by rfl) (pv 6)) pf_nil)))) pf_nil)))))))))
 (pss_oneM (ps_retM (pe_tupM (pf_cons (pe_o2 rfl rfl op_ixM (pe_ix ix_seq (pd_v (pv 1)) (pd_e (pe_c (.int _) pe_int)) (fun _ _ => rfl))) (pf_cons (pe_o2 rfl rfl op_ixM (pe_ix ix_seq (pd_v (pv 1)) (pd_e (pe_c (.int _) pe_int)) (fun _ _ => rfl))) (pf_cons (pe_oc rfl oc_tuple (pe_callTy call_tuple_of (by rfl) c.free_tuple (by decide +kernel) (pa_consM (pd_v (pv 4)) pa_nilM))) pf_nil)))))))))
theorem s__law_tower (c : Cals P w K mg base lv C) {f : Addr} {cdv : Value} {A : Around} {outer : List PySem.Env} {s : Shared} {H : Hp} (o : Ok (A.deeper (envOfC "_law_tower" (defScope st__law_tower) s.heap.objs.size f cdv)) lv) :
    PSs (cxOf CX0 P w K mg base N__law_tower "_law_tower" (defScope st__law_tower) f cdv A outer s H E0).nox (defBody st__law_tower) (tS K [0] (M18 C)) :=
 (pss_consM (ps_setM (i := 1) sc__law_tower.nd (by rfl) rfl (by first | exact Or.inl rfl | exact Or.inr rfl) (pe_o2 rfl rfl op_ixM (pe_ix ix_seq (pd_e (pe_lstM (pf_cons (pe_c (.int _) pe_int) (pf_cons (pe_c (.int _) pe_int) (pf_cons (pe_c (.int _) pe_int) (pf_cons (pe_c (.int _) pe_int) (pf_cons (pe_c (.int _) pe_int) (pf_cons (pe_c (.int _) pe_int) (pf_cons (pe_c (.int _) pe_int) pf_nil))))))))) (pd_e (pe_fn o c.f5 rfl (by rfl) (pg_refM (pv 0) (pg_valM (pe_c (.int _) pe_int) pg_nilM)))) (fun _ _ => rfl))))
 (pss_consM (ps_setM (i := 2) sc__law_tower.nd (by rfl) rfl (by first | exact Or.inl rfl | exact Or.inr rfl) (pe_lstM pf_nil))
 (pss_consM (ps_forM (ws := [3]) PassesOwn.never rfl (pi_r1M rfl (pi_range1 (by rfl) c.free_range (pf_cons (pe_name (by rfl) (pv 1)) pf_nil))) (pg_name (i := 3) sc__law_tower.nd rfl (by first | exact Or.inl rfl | exact Or.inr rfl)) (tgs_name (by rfl) (by show 3 < 5; decide) (by decide))
 (pss_consM (ps_setM (i := 4) sc__law_tower.nd (by rfl) rfl (by first | exact Or.inl rfl | exact Or.inr rfl) (pe_o2 rfl rfl op_repTM (pe_op op_repX (pd_e (pe_tupM (pf_cons (pe_o2 rfl rfl op_addI (pe_op op_add (pd_v (pv 3)) (pd_e (pe_c (.int _) pe_int)))) pf_nil))) (pd_e (pe_o2 rfl rfl op_addI (pe_op op_add (pd_e (pe_c (.int _) pe_int)) (pd_e (pe_fn o c.f5 rfl (by rfl) (pg_refM (pv 0) (pg_valM (pe_o2 rfl rfl op_ixM (pe_ix ix_seq (pd_e (pe_lstM (pf_cons (pe_c (.int _) pe_int) (pf_cons (pe_c (.int _) pe_int) pf_nil)))) (pd_e (pe_fn o c.f5 rfl (by rfl) (pg_refM (pv 0) (pg_valM (pe_c (.int _) pe_int) pg_nilM)))) (fun _ _ => rfl))) pg_nilM))))))))))
 (pss_consM (ps_ifM (pt_o2 op_eqM (pt_cmpR (op_eqX o.rm.units) (pd_v (pv 3)) (pd_e (pe_o2 rfl rfl op_subM (pe_op op_sub (pd_v (pv 1)) (pd_e (pe_c (.int _) pe_int))))) (nomark _)))
 (pss_oneM (ps_setM (i := 4) sc__law_tower.nd (by rfl) rfl (by first | exact Or.inl rfl | exact Or.inr rfl) (pe_tupM pf_nil)))
 pss_nilM)
 (pss_oneM (ps_exprM (pe_mu rfl rfl rfl om_ins (pe_bm PySem.F.plainAttrs_list PySem.F.slot_list_insert PySem.F.type_list_insert mt_insert (pv 2) (pf_cons (pe_fn o c.f5 rfl (by rfl) (pg_refM (pv 0) (pg_valM (pe_o2 rfl rfl op_addI (pe_op op_add (pd_e (pe_oc rfl oc_len (pe_callB call_len (by rfl) c.free_len PySem.boot_len (pa_consM (pd_v (pv 2)) pa_nilM)))) (pd_e (pe_c (.int _) pe_int)))) pg_nilM))) (pf_cons (pe_tupM (pf_cons (pe_name (by rfl) (pv 3)) (pf_cons (pe_name (by rfl) (pv 4)) (pf_cons (pe_fn o c.f5 rfl (by rfl) (pg_refM (pv 0) (pg_valM (pe_c (.int _) pe_int) pg_nilM))) pf_nil)))) pf_nil)))))))))
 (pss_oneM (ps_retM (pe_tupM (pf_cons (pe_name (by rfl) (pv 1)) (pf_cons (pe_tupM (pf_cons (pe_c (.int _) pe_int) pf_nil)) (pf_cons (pe_oc rfl oc_tuple (pe_callTy call_tuple_of (by rfl) c.free_tuple (by decide +kernel) (pa_consM (pd_v (pv 2)) pa_nilM))) pf_nil)))))))))
theorem s__law_tall (c : Cals P w K mg base lv C) {f : Addr} {cdv : Value} {A : Around} {outer : List PySem.Env} {s : Shared} {H : Hp} (o : Ok (A.deeper (envOfC "_law_tall" (defScope st__law_tall) s.heap.objs.size f cdv)) lv) :
    PSs (cxOf CX0 P w K mg base N__law_tall "_law_tall" (defScope st__law_tall) f cdv A outer s H E0).nox (defBody st__law_tall) (tS K [0] (M19 C)) :=
 (pss_consM (ps_setM (i := 1) sc__law_tall.nd (by rfl) rfl (by first | exact Or.inl rfl | exact Or.inr rfl) (pe_o2 rfl rfl op_addI (pe_op op_add (pd_e (pe_c (.int _) pe_int)) (pd_e (pe_fn o c.f5 rfl (by rfl) (pg_refM (pv 0) (pg_valM (pe_c (.int _) pe_int) pg_nilM)))))))
 (pss_consM (ps_setM (i := 2) sc__law_tall.nd (by rfl) rfl (by first | exact Or.inl rfl | exact Or.inr rfl) (pe_o2 rfl rfl op_addI (pe_op op_add (pd_e (pe_c (.int _) pe_int)) (pd_e (pe_fn o c.f5 rfl (by rfl) (pg_refM (pv 0) (pg_valM (pe_c (.int _) pe_int) pg_nilM)))))))
 (pss_consM (ps_setM (i := 3) sc__law_tall.nd (by rfl) rfl (by first | exact Or.inl rfl | exact Or.inr rfl) (pe_o2 rfl rfl op_subM (pe_op op_sub (pd_e (pe_o2 rfl rfl op_subM (pe_op op_sub (pd_e (pe_o2 rfl rfl op_addI (pe_op op_add (pd_e (pe_c (.int _) pe_int)) (pd_e (pe_fn o c.f5 rfl (by rfl) (pg_refM (pv 0) (pg_valM (pe_c (.int _) pe_int) pg_nilM))))))) (pd_v (pv 1))))) (pd_v (pv 2)))))
 (pss_consM (ps_setM (i := 4) sc__law_tall.nd (by rfl) rfl (by first | exact Or.inl rfl | exact Or.inr rfl) (pe_lstM (pf_cons (pe_tupM (pf_cons (pe_c (.int _) pe_int) (pf_cons (pe_tupM (pf_cons (pe_name (by rfl) (pv 1)) (pf_cons (pe_name (by rfl) (pv 2)) (pf_cons (pe_name (by rfl) (pv 3)) pf_nil)))) (pf_cons (pe_fn o c.f5 rfl (by rfl) (pg_refM (pv 0) (pg_valM (pe_c (.int _) pe_int) pg_nilM))) pf_nil)))) (pf_cons (pe_tupM (pf_cons (pe_c (.int _) pe_int) (pf_cons (pe_tupM pf_nil) (pf_cons (pe_fn o c.f5 rfl (by rfl) (pg_refM (pv 0) (pg_valM (pe_c (.int _) pe_int) pg_nilM))) pf_nil)))) pf_nil))))
 (pss_consM (ps_forM (ws := [5]) PassesOwn.never rfl (pi_r2M rfl (pi_range2 (by rfl) c.free_range (pf_cons (pe_c (.int _) pe_int) (pf_cons (pe_c (.int _) pe_int) pf_nil)))) (pg_name (i := 5) sc__law_tall.nd rfl (by first | exact Or.inl rfl | exact Or.inr rfl)) (tgs_name (by rfl) (by show 5 < 6; decide) (by decide))
 (pss_oneM (ps_exprM (pe_mu rfl rfl rfl om_ins (pe_bm PySem.F.plainAttrs_list PySem.F.slot_list_insert PySem.F.type_list_insert mt_insert (pv 4) (pf_cons (pe_fn o c.f5 rfl (by rfl) (pg_refM (pv 0) (pg_valM (pe_o2 rfl rfl op_addI (pe_op op_add (pd_e (pe_oc rfl oc_len (pe_callB call_len (by rfl) c.free_len PySem.boot_len (pa_consM (pd_v (pv 4)) pa_nilM)))) (pd_e (pe_c (.int _) pe_int)))) pg_nilM))) (pf_cons (pe_tupM (pf_cons (pe_name (by rfl) (pv 5)) (pf_cons (pe_tupM (pf_cons (pe_o2 rfl rfl op_addI (pe_op op_add (pd_v (pv 5)) (pd_e (pe_c (.int _) pe_int)))) pf_nil)) (pf_cons (pe_fn o c.f5 rfl (by rfl) (pg_refM (pv 0) (pg_valM (pe_c (.int _) pe_int) pg_nilM))) pf_nil)))) pf_nil)))))))
 (pss_oneM (ps_retM (pe_tupM (pf_cons (pe_c (.int _) pe_int) (pf_cons (pe_tupM (pf_cons (pe_c (.int _) pe_int) pf_nil)) (pf_cons (pe_oc rfl oc_tuple (pe_callTy call_tuple_of (by rfl) c.free_tuple (by decide +kernel) (pa_consM (pd_v (pv 4)) pa_nilM))) pf_nil)))))))))))
theorem s__law_any_family (c : Cals P w K mg base lv C) {f : Addr} {cdv : Value} {A : Around} {outer : List PySem.Env} {s : Shared} {H : Hp} (o : Ok (A.deeper (envOfC "_law_any_family" (defScope st__law_any_family) s.heap.objs.size f cdv)) lv) :
    PSs (cxOf CX0 P w K mg base N__law_any_family "_law_any_family" (defScope st__law_any_family) f cdv A outer s H E0).nox (defBody st__law_any_family) (tS K [0] (M20 C)) :=
 (pss_consM (ps_setM (i := 1) sc__law_any_family.nd (by rfl) rfl (by first | exact Or.inl rfl | exact Or.inr rfl) (pe_fn o c.f5 rfl (by rfl) (pg_refM (pv 0) (pg_valM (pe_c (.int _) pe_int) pg_nilM))))
 (pss_consM (ps_ifM (pt_o2 op_eqM (pt_cmpR (op_eqX o.rm.units) (pd_v (pv 1)) (pd_e (pe_c (.int _) pe_int)) (nomark _)))
 (pss_oneM (ps_retM (pe_fn o c.f18 rfl (by rfl) (pg_refM (pv 0) pg_nilM))))
 pss_nilM)
 (pss_consM (ps_ifM (pt_o2 op_eqM (pt_cmpR (op_eqX o.rm.units) (pd_v (pv 1)) (pd_e (pe_c (.int _) pe_int)) (nomark _)))
 (pss_oneM (ps_retM (pe_fn o c.f19 rfl (by rfl) (pg_refM (pv 0) pg_nilM))))
 pss_nilM)
 (pss_oneM (ps_retM (pe_fn o c.f7 rfl (by rfl) (pg_refM (pv 0) (pg_valM (pe_c (.int _) pe_int) (pg_valM (pe_c (.int _) pe_int) (pg_valM (pe_c (.int _) pe_int) pg_nilM))))))))))
theorem s__law_rounded (c : Cals P w K mg base lv C) {f : Addr} {cdv : Value} {A : Around} {outer : List PySem.Env} {s : Shared} {H : Hp} (o : Ok (A.deeper (envOfC "_law_rounded" (defScope st__law_rounded) s.heap.objs.size f cdv)) lv) :
    PSs (cxOf CX0 P w K mg base N__law_rounded "_law_rounded" (defScope st__law_rounded) f cdv A outer s H E0).nox (defBody st__law_rounded) (tS K [] (M21 C)) :=
 (pss_consM (ps_setLcM (i := 2) (own := [("_law_state", 5)]) rfl (by rfl) (by rfl) (by rfl) (tgs_name (by rfl) (by show 5 < 6; decide) (by decide)) rfl sc__law_rounded.nd rfl rfl (sw_true rfl rfl rfl (by decide +kernel)) (pi_r1M rfl (pi_range1 (by rfl) c.free_range (pf_cons (pe_o2 rfl rfl op_ixM (pe_ix ix_seq (pd_v (pv 0)) (pd_e (pe_c (.int _) pe_int)) (fun _ _ => rfl))) pf_nil))) (blkOk_by (own := [("_law_state", 5)]) (N := N__law_rounded) (sc := defScope st__law_rounded) (by decide +kernel)) (fun _ _ _ _ _ => (pg_name (i := 5) sc__law_rounded.nd rfl (by first | exact Or.inl rfl | exact Or.inr rfl))) (fun _ _ _ _ _ => pts_yesM) (fun _ _ _ _ _ => (pe_c .none pe_non)))
 (pss_consM (ps_forM (ws := [3]) PassesOwn.never rfl (pi_anyM (pe_o2 rfl rfl op_ixM (pe_ix ix_seq (pd_v (pv 0)) (pd_e (pe_c (.int _) pe_int)) (fun _ _ => rfl)))) (pg_name (i := 3) sc__law_rounded.nd rfl (by first | exact Or.inl rfl | exact Or.inr rfl)) (tgs_name (by rfl) (by show 3 < 6; decide) (by decide))
 (pss_consM (ps_setM (i := 4) sc__law_rounded.nd (by rfl) rfl (by first | exact Or.inl rfl | exact Or.inr rfl) (pe_fn o c.f16 rfl (by rfl) (pg_valM (pe_name (by rfl) (pv 3)) (pg_valM (pe_name (by rfl) (pv 1)) pg_nilM))))
 (pss_oneM (ps_ifM (PW.pt (pw_andM (pt_o2 op_isNotM (pt_cmpR op_notN (pd_v (pv 4)) (pd_e (pe_c .none pe_non)) (nomark _))) (pw_and1 (PW.pt (pw_orM (pt_o2 op_isM (pt_cmpR op_isN (pd_e (pe_o2 rfl rfl op_ixM (pe_ix ix_seq (pd_v (pv 2)) (pd_e (pe_o2 rfl rfl op_ixM (pe_ix ix_seq (pd_v (pv 3)) (pd_e (pe_c (.int _) pe_int)) (fun _ _ => rfl)))) (fun _ _ => rfl)))) (pd_e (pe_c .none pe_non)) (nomark _))) (pw_or1 (pt_o2 op_ordM (pt_cmpR (op_ltX o.un65) (pd_v (pv 4)) (pd_e (pe_o2 rfl rfl op_ixM (pe_ix ix_seq (pd_v (pv 2)) (pd_e (pe_o2 rfl rfl op_ixM (pe_ix ix_seq (pd_v (pv 3)) (pd_e (pe_c (.int _) pe_int)) (fun _ _ => rfl)))) (fun _ _ => rfl)))) (nomark _)))))))))
 (pss_oneM (ps_putM rfl (ps_asg (pe_name (by rfl) (pv 4)) (pg_sub (pv 2) (pe_o2 rfl rfl op_ixM (pe_ix ix_seq (pd_v (pv 3)) (pd_e (pe_c (.int _) pe_int)) (fun _ _ => rfl))) set_list))))
 pss_nilM))))
 (pss_oneM (ps_retM (pe_oc rfl oc_tuple (pe_callTy call_tuple_of (by rfl) c.free_tuple (by decide +kernel) (pa_consM (pd_v (pv 2)) pa_nilM)))))))
theorem s__law_given (c : Cals P w K mg base lv C) {f : Addr} {cdv : Value} {A : Around} {outer : List PySem.Env} {s : Shared} {H : Hp} (o : Ok (A.deeper (envOfC "_law_given" (defScope st__law_given) s.heap.objs.size f cdv)) lv) :
    PSs (cxOf CX0 P w K mg base N__law_given "_law_given" (defScope st__law_given) f cdv A outer s H E0).nox (defBody st__law_given) (tS K [0] (M22 C)) :=
 (pss_consM (ps_setM (i := 2) sc__law_given.nd (by rfl) rfl (by first | exact Or.inl rfl | exact Or.inr rfl) (pe_lstM pf_nil))
 (pss_consM (ps_setM (i := 3) sc__law_given.nd (by rfl) rfl (by first | exact Or.inl rfl | exact Or.inr rfl) (pe_fn o c.f5 rfl (by rfl) (pg_refM (pv 0) (pg_valM (pe_c (.int _) pe_int) pg_nilM))))
 (pss_consM (ps_forM (ws := [4]) PassesOwn.never rfl (pi_r1M rfl (pi_range1 (by rfl) c.free_range (pf_cons (pe_o2 rfl rfl op_ixM (pe_ix ix_seq (pd_v (pv 1)) (pd_e (pe_c (.int _) pe_int)) (fun _ _ => rfl))) pf_nil))) (pg_name (i := 4) sc__law_given.nd rfl (by first | exact Or.inl rfl | exact Or.inr rfl)) (tgs_name (by rfl) (by show 4 < 7; decide) (by decide))
 (pss_consM (ps_setM (i := 5) sc__law_given.nd (by rfl) rfl (by first | exact Or.inl rfl | exact Or.inr rfl) (pe_o2 rfl rfl op_addI (pe_op op_add (pd_e (pe_fn o c.f5 rfl (by rfl) (pg_refM (pv 0) (pg_valM (pe_o2 rfl rfl op_ixM (pe_ix ix_seq (pd_e (pe_lstM (pf_cons (pe_c (.int _) pe_int) (pf_cons (pe_c (.int _) pe_int) (pf_cons (pe_o2 rfl rfl op_powM (pe_op op_pow (pd_e (pe_c (.int _) pe_int)) (pd_e (pe_c (.int _) pe_int)))) (pf_cons (pe_c (.int _) pe_int) pf_nil)))))) (pd_v (pv 3)) (fun _ _ => rfl))) pg_nilM)))) (pd_e (pe_o2 rfl rfl op_ixM (pe_ix ix_seq (pd_e (pe_lstM (pf_cons (pe_c (.int _) pe_int) (pf_cons (pe_c (.int _) pe_int) (pf_cons (pe_c (.int _) pe_int) (pf_cons (pe_o2 rfl rfl op_mulM (pe_op op_mulX (pd_e (pe_o2 rfl rfl op_powM (pe_op op_pow (pd_e (pe_c (.int _) pe_int)) (pd_e (pe_c (.int _) pe_int))))) (pd_e (pe_o2 rfl rfl op_powM (pe_op op_pow (pd_e (pe_c (.int _) pe_int)) (pd_e (pe_c (.int _) pe_int))))))) pf_nil)))))) (pd_v (pv 3)) (fun _ _ => rfl)))))))
 (pss_consM (ps_setM (i := 6) sc__law_given.nd (by rfl) rfl (by first | exact Or.inl rfl | exact Or.inr rfl) (pe_tupM (pf_cons (pe_name (by rfl) (pv 5)) (pf_cons (pe_o2 rfl rfl op_addI (pe_op op_add (pd_e (pe_fn o c.f5 rfl (by rfl) (pg_refM (pv 0) (pg_valM (pe_o2 rfl rfl op_ixM (pe_ix ix_seq (pd_e (pe_lstM (pf_cons (pe_c (.int _) pe_int) (pf_cons (pe_c (.int _) pe_int) (pf_cons (pe_o2 rfl rfl op_powM (pe_op op_pow (pd_e (pe_c (.int _) pe_int)) (pd_e (pe_c (.int _) pe_int)))) (pf_cons (pe_c (.int _) pe_int) pf_nil)))))) (pd_v (pv 3)) (fun _ _ => rfl))) pg_nilM)))) (pd_e (pe_o2 rfl rfl op_ixM (pe_ix ix_seq (pd_e (pe_lstM (pf_cons (pe_c (.int _) pe_int) (pf_cons (pe_c (.int _) pe_int) (pf_cons (pe_c (.int _) pe_int) (pf_cons (pe_o2 rfl rfl op_mulM (pe_op op_mulX (pd_e (pe_o2 rfl rfl op_powM (pe_op op_pow (pd_e (pe_c (.int _) pe_int)) (pd_e (pe_c (.int _) pe_int))))) (pd_e (pe_o2 rfl rfl op_powM (pe_op op_pow (pd_e (pe_c (.int _) pe_int)) (pd_e (pe_c (.int _) pe_int))))))) pf_nil)))))) (pd_v (pv 3)) (fun _ _ => rfl)))))) pf_nil))))
 (pss_consM (ps_ifM (pt_o2 op_eqM (pt_cmpR (op_eqX o.rm.units) (pd_e (pe_fn o c.f5 rfl (by rfl) (pg_refM (pv 0) (pg_valM (pe_o2 rfl rfl op_ixM (pe_ix ix_seq (pd_e (pe_lstM (pf_cons (pe_c (.int _) pe_int) (pf_cons (pe_c (.int _) pe_int) (pf_cons (pe_c (.int _) pe_int) (pf_cons (pe_c (.int _) pe_int) pf_nil)))))) (pd_v (pv 3)) (fun _ _ => rfl))) pg_nilM)))) (pd_e (pe_c (.int _) pe_int)) (nomark _)))
 (pss_oneM (ps_setM (i := 6) sc__law_given.nd (by rfl) rfl (by first | exact Or.inl rfl | exact Or.inr rfl) (pe_c .none pe_non)))
 pss_nilM)
 (pss_oneM (ps_exprM (pe_mu rfl rfl rfl om_app (pe_bm PySem.F.plainAttrs_list PySem.F.slot_list_append PySem.F.type_list_append mt_append (pv 2) (pf_cons (pe_name (by rfl) (pv 6)) pf_nil)))))))))
 (pss_oneM (ps_retM (pe_oc rfl oc_tuple (pe_callTy call_tuple_of (by rfl) c.free_tuple (by decide +kernel) (pa_consM (pd_v (pv 2)) pa_nilM))))))))
theorem s_law (c : Cals P w K mg base lv C) {f : Addr} {cdv : Value} {A : Around} {outer : List PySem.Env} {s : Shared} {H : Hp} (o : Ok (A.deeper (envOfC "law" (defScope st_law) s.heap.objs.size f cdv)) lv) :
    PSs (cxOf CX0 P w K mg base N_law "law" (defScope st_law) f cdv A outer s H E0).nox (defBody st_law) (tS K [] (M23 C)) :=
 (pss_consM (ps_setM (i := 1) sc_law.nd (by rfl) rfl (by first | exact Or.inl rfl | exact Or.inr rfl) (pe_fn o c.f4 rfl (by rfl) (pg_valM (pe_name (by rfl) (pv 0)) pg_nilM)))
 (pss_consM (ps_setM (i := 2) sc_law.nd (by rfl) rfl (by first | exact Or.inl rfl | exact Or.inr rfl) (pe_fn o c.f20 rfl (by rfl) (pg_refM (pv 1) pg_nilM)))
 (pss_consM (ps_setM (i := 3) sc_law.nd (by rfl) rfl (by first | exact Or.inl rfl | exact Or.inr rfl) (pe_fn o c.f17 rfl (by rfl) (pg_refM (pv 1) (pg_valM (pe_name (by rfl) (pv 2)) (pg_valM (pe_c (.int _) pe_int) pg_nilM)))))
 (pss_consM (ps_setM (i := 4) sc_law.nd (by rfl) rfl (by first | exact Or.inl rfl | exact Or.inr rfl) (pe_lstM (pf_cons (pe_fn o c.f22 rfl (by rfl) (pg_refM (pv 1) (pg_valM (pe_name (by rfl) (pv 2)) pg_nilM))) (pf_cons (pe_oc rfl oc_tuple (pe_callTy call_tuple_of (by rfl) c.free_tuple (by decide +kernel) (pa_consM (pd_e (pe_lcM (own := [("_law_state", 7)]) rfl (by rfl) (by rfl) (tgs_name (by rfl) (by show 7 < 8; decide) (by decide)) rfl sc_law.nd (pi_r1M rfl (pi_range1 (by rfl) c.free_range (pf_cons (pe_o2 rfl rfl op_ixM (pe_ix ix_seq (pd_v (pv 2)) (pd_e (pe_c (.int _) pe_int)) (fun _ _ => rfl))) pf_nil))) (blkOk_by (own := [("_law_state", 7)]) (N := N_law) (sc := defScope st_law) (by decide +kernel)) (fun _ _ _ _ _ => (pg_name (i := 7) sc_law.nd rfl (by first | exact Or.inl rfl | exact Or.inr rfl))) (fun _ _ _ _ _ => pts_yesM) (fun _ _ _ _ _ => (pe_c .none pe_non)))) pa_nilM))) pf_nil))))
 (pss_consM (ps_forM (ws := [5]) PassesOwn.never rfl (pi_r1M rfl (pi_range1 (by rfl) c.free_range (pf_cons (pe_fn o c.f5 rfl (by rfl) (pg_refM (pv 1) (pg_valM (pe_c (.int _) pe_int) pg_nilM))) pf_nil))) (pg_name (i := 5) sc_law.nd rfl (by first | exact Or.inl rfl | exact Or.inr rfl)) (tgs_name (by rfl) (by show 5 < 8; decide) (by decide))
 (pss_oneM (ps_putM rfl (ps_asg (pe_fn o c.f21 rfl (by rfl) (pg_valM (pe_name (by rfl) (pv 2)) (pg_valM (pe_o2 rfl rfl op_ixM (pe_ix ix_seq (pd_v (pv 4)) (pd_e (pe_c (.int _) pe_int)) (fun _ _ => rfl))) pg_nilM))) (pg_sub (pv 4) (pe_c (.int _) pe_int) set_list)))))
 (pss_consM (ps_forM (ws := [5]) PassesOwn.never rfl (pi_r1M rfl (pi_range1 (by rfl) c.free_range (pf_cons (pe_c (.int _) pe_int) pf_nil))) (pg_name (i := 5) sc_law.nd rfl (by first | exact Or.inl rfl | exact Or.inr rfl)) (tgs_name (by rfl) (by show 5 < 8; decide) (by decide))
 (pss_consM (ps_setM (i := 6) sc_law.nd (by rfl) rfl (by first | exact Or.inl rfl | exact Or.inr rfl) (pe_o2 rfl rfl op_ixM (pe_ix ix_seq (pd_e (pe_lstM (pf_cons (pe_name (by rfl) (pv 2)) (pf_cons (pe_name (by rfl) (pv 3)) pf_nil)))) (pd_e (pe_o2 rfl rfl op_divM (pe_op op_fdivW (pd_v (pv 5)) (pd_e (pe_c (.int _) pe_int))))) (fun _ _ => rfl))))
 (pss_oneM (ps_ifM (pt_o2 op_neM (pt_cmpR (op_neX o.rm.units) (pd_e (pe_oc rfl oc_repr (pe_callB (call_repr o.gd o.un66) (by rfl) c.free_repr (by decide +kernel) (pa_consM (pd_e (pe_fn o c.f15 rfl (by rfl) (pg_valM (pe_name (by rfl) (pv 6)) (pg_valM (pe_o2 rfl rfl op_ixM (pe_ix ix_seq (pd_v (pv 4)) (pd_e (pe_o2 rfl rfl op_modM (pe_op op_mod (pd_e (pe_oc rfl oc_int (pe_callTy call_int1 (by rfl) c.free_int (by decide +kernel) (pa_consM (pd_v (pv 5)) pa_nilM)))) (pd_e (pe_c (.int _) pe_int))))) (fun _ _ => rfl))) pg_nilM)))) pa_nilM)))) (pd_e (pe_oc rfl oc_repr (pe_callB (call_repr o.gd o.un66) (by rfl) c.free_repr (by decide +kernel) (pa_consM (pd_e (pe_fn o c.f21 rfl (by rfl) (pg_valM (pe_name (by rfl) (pv 6)) (pg_valM (pe_o2 rfl rfl op_ixM (pe_ix ix_seq (pd_v (pv 4)) (pd_e (pe_o2 rfl rfl op_modM (pe_op op_mod (pd_e (pe_oc rfl oc_int (pe_callTy call_int1 (by rfl) c.free_int (by decide +kernel) (pa_consM (pd_v (pv 5)) pa_nilM)))) (pd_e (pe_c (.int _) pe_int))))) (fun _ _ => rfl))) pg_nilM)))) pa_nilM)))) (nomark _)))
 (pss_oneM (ps_retM (pe_c (.bool _) pe_bl)))
 pss_nilM))))
 (pss_oneM (ps_retM (pe_o2 rfl rfl op_eqM.op (pe_cmpR (op_eqX o.rm.units) (pd_e (pe_oc rfl oc_repr (pe_callB (call_repr o.gd o.un66) (by rfl) c.free_repr (by decide +kernel) (pa_consM (pd_e (pe_fn o c.f15 rfl (by rfl) (pg_valM (pe_name (by rfl) (pv 2)) (pg_valM (pe_o2 rfl rfl op_ixM (pe_ix ix_seq (pd_v (pv 4)) (pd_e (pe_c (.int _) pe_int)) (fun _ _ => rfl))) pg_nilM)))) pa_nilM)))) (pd_e (pe_oc rfl oc_repr (pe_callB (call_repr o.gd o.un66) (by rfl) c.free_repr (by decide +kernel) (pa_consM (pd_e (pe_fn o c.f21 rfl (by rfl) (pg_valM (pe_name (by rfl) (pv 2)) (pg_valM (pe_o2 rfl rfl op_ixM (pe_ix ix_seq (pd_v (pv 4)) (pd_e (pe_c (.int _) pe_int)) (fun _ _ => rfl))) pg_nilM)))) pa_nilM)))) (nomark _)))))))))))
structure Hd (K : KK) (mg : Str → Option Value) : Prop where
  free_abs : mg "abs" = none
  free_int : mg "int" = none
  free_len : mg "len" = none
  free_list : mg "list" = none
  free_max : mg "max" = none
  free_range : mg "range" = none
  free_repr : mg "repr" = none
  free_tuple : mg "tuple" = none
  d14 : ∃ (f : Addr) (fd : FuncData), mg "weight_of" = some (.ref f) ∧ FunD K "weight_of" "weight_of" (defArgs st_weight_of) (defBody st_weight_of) (defScope st_weight_of) [] [] f fd
  d15 : ∃ (f : Addr) (fd : FuncData), mg "least_round" = some (.ref f) ∧ FunD K "least_round" "least_round" (defArgs st_least_round) (defBody st_least_round) (defScope st_least_round) [] [] f fd
  d4 : ∃ (f : Addr) (fd : FuncData), mg "_law_tape" = some (.ref f) ∧ FunD K "_law_tape" "_law_tape" (defArgs st__law_tape) (defBody st__law_tape) (defScope st__law_tape) [] [] f fd
  d5 : ∃ (f : Addr) (fd : FuncData), mg "_law_draw" = some (.ref f) ∧ FunD K "_law_draw" "_law_draw" (defArgs st__law_draw) (defBody st__law_draw) (defScope st__law_draw) [] [] f fd
  d6 : ∃ (f : Addr) (fd : FuncData), mg "_law_price" = some (.ref f) ∧ FunD K "_law_price" "_law_price" (defArgs st__law_price) (defBody st__law_price) (defScope st__law_price) [] [] f fd
  d7 : ∃ (f : Addr) (fd : FuncData), mg "_law_family" = some (.ref f) ∧ FunD K "_law_family" "_law_family" (defArgs st__law_family) (defBody st__law_family) (defScope st__law_family) [] [] f fd
  d16 : ∃ (f : Addr) (fd : FuncData), mg "_law_weight" = some (.ref f) ∧ FunD K "_law_weight" "_law_weight" (defArgs st__law_weight) (defBody st__law_weight) (defScope st__law_weight) [] [] f fd
  d17 : ∃ (f : Addr) (fd : FuncData), mg "_law_repriced" = some (.ref f) ∧ FunD K "_law_repriced" "_law_repriced" (defArgs st__law_repriced) (defBody st__law_repriced) (defScope st__law_repriced) [] [] f fd
  d18 : ∃ (f : Addr) (fd : FuncData), mg "_law_tower" = some (.ref f) ∧ FunD K "_law_tower" "_law_tower" (defArgs st__law_tower) (defBody st__law_tower) (defScope st__law_tower) [] [] f fd
  d19 : ∃ (f : Addr) (fd : FuncData), mg "_law_tall" = some (.ref f) ∧ FunD K "_law_tall" "_law_tall" (defArgs st__law_tall) (defBody st__law_tall) (defScope st__law_tall) [] [] f fd
  d20 : ∃ (f : Addr) (fd : FuncData), mg "_law_any_family" = some (.ref f) ∧ FunD K "_law_any_family" "_law_any_family" (defArgs st__law_any_family) (defBody st__law_any_family) (defScope st__law_any_family) [] [] f fd
  d21 : ∃ (f : Addr) (fd : FuncData), mg "_law_rounded" = some (.ref f) ∧ FunD K "_law_rounded" "_law_rounded" (defArgs st__law_rounded) (defBody st__law_rounded) (defScope st__law_rounded) [] [] f fd
  d22 : ∃ (f : Addr) (fd : FuncData), mg "_law_given" = some (.ref f) ∧ FunD K "_law_given" "_law_given" (defArgs st__law_given) (defBody st__law_given) (defScope st__law_given) [] [] f fd
  d23 : ∃ (f : Addr) (fd : FuncData), mg "law" = some (.ref f) ∧ FunD K "law" "law" (defArgs st_law) (defBody st_law) (defScope st_law) [] [] f fd
theorem z_weight_of (h : Hd K mg) : Cal P w K mg base 0 (callN 0) "weight_of" 14 2 := by
  obtain ⟨f, fd, hm, F⟩ := h.d14
  exact .zero (fun _ => rfl) hm F.kp (F.bindsN (ps := ps_weight_of) fun _ _ _ _ _ _ us hl => match us, hl with | [_, _], _ => rfl) rfl
theorem u_weight_of (h : Hd K mg) (c : Cals P w K mg base lv (callN lv)) : Cal P w K mg base (lv + 1) (callN (lv + 1)) "weight_of" 14 2 := by
  obtain ⟨f, fd, hm, F⟩ := h.d14
  exact .succ hm F (F.bindsN (ps := ps_weight_of) fun _ _ _ _ _ _ us hl => match us, hl with | [_, _], _ => rfl) sc_weight_of rfl rfl rfl fun cdv A outer s H o => s_weight_of c o
theorem z_least_round (h : Hd K mg) : Cal P w K mg base 0 (callN 0) "least_round" 15 2 := by
  obtain ⟨f, fd, hm, F⟩ := h.d15
  exact .zero (fun _ => rfl) hm F.kp (F.bindsN (ps := ps_least_round) fun _ _ _ _ _ _ us hl => match us, hl with | [_, _], _ => rfl) rfl
theorem u_least_round (h : Hd K mg) (c : Cals P w K mg base lv (callN lv)) : Cal P w K mg base (lv + 1) (callN (lv + 1)) "least_round" 15 2 := by
  obtain ⟨f, fd, hm, F⟩ := h.d15
  exact .succ hm F (F.bindsN (ps := ps_least_round) fun _ _ _ _ _ _ us hl => match us, hl with | [_, _], _ => rfl) sc_least_round rfl rfl rfl fun cdv A outer s H o => s_least_round c o
theorem z__law_tape (h : Hd K mg) : Cal P w K mg base 0 (callN 0) "_law_tape" 4 1 := by
  obtain ⟨f, fd, hm, F⟩ := h.d4
  exact .zero (fun _ => rfl) hm F.kp (F.bindsN (ps := ps__law_tape) fun _ _ _ _ _ _ us hl => match us, hl with | [_], _ => rfl) rfl
theorem u__law_tape (h : Hd K mg) (c : Cals P w K mg base lv (callN lv)) : Cal P w K mg base (lv + 1) (callN (lv + 1)) "_law_tape" 4 1 := by
  obtain ⟨f, fd, hm, F⟩ := h.d4
  exact .succ hm F (F.bindsN (ps := ps__law_tape) fun _ _ _ _ _ _ us hl => match us, hl with | [_], _ => rfl) sc__law_tape rfl rfl rfl fun cdv A outer s H o => s__law_tape c o
theorem z__law_draw (h : Hd K mg) : Cal P w K mg base 0 (callN 0) "_law_draw" 5 2 := by
  obtain ⟨f, fd, hm, F⟩ := h.d5
  exact .zero (fun _ => rfl) hm F.kp (F.bindsN (ps := ps__law_draw) fun _ _ _ _ _ _ us hl => match us, hl with | [_, _], _ => rfl) rfl
theorem u__law_draw (h : Hd K mg) (c : Cals P w K mg base lv (callN lv)) : Cal P w K mg base (lv + 1) (callN (lv + 1)) "_law_draw" 5 2 := by
  obtain ⟨f, fd, hm, F⟩ := h.d5
  exact .succ hm F (F.bindsN (ps := ps__law_draw) fun _ _ _ _ _ _ us hl => match us, hl with | [_, _], _ => rfl) sc__law_draw rfl rfl rfl fun cdv A outer s H o => s__law_draw c o
theorem z__law_price (h : Hd K mg) : Cal P w K mg base 0 (callN 0) "_law_price" 6 3 := by
  obtain ⟨f, fd, hm, F⟩ := h.d6
  exact .zero (fun _ => rfl) hm F.kp (F.bindsN (ps := ps__law_price) fun _ _ _ _ _ _ us hl => match us, hl with | [_, _, _], _ => rfl) rfl
theorem u__law_price (h : Hd K mg) (c : Cals P w K mg base lv (callN lv)) : Cal P w K mg base (lv + 1) (callN (lv + 1)) "_law_price" 6 3 := by
  obtain ⟨f, fd, hm, F⟩ := h.d6
  exact .succ hm F (F.bindsN (ps := ps__law_price) fun _ _ _ _ _ _ us hl => match us, hl with | [_, _, _], _ => rfl) sc__law_price rfl rfl rfl fun cdv A outer s H o => s__law_price c o
theorem z__law_family (h : Hd K mg) : Cal P w K mg base 0 (callN 0) "_law_family" 7 4 := by
  obtain ⟨f, fd, hm, F⟩ := h.d7
  exact .zero (fun _ => rfl) hm F.kp (F.bindsN (ps := ps__law_family) fun _ _ _ _ _ _ us hl => match us, hl with | [_, _, _, _], _ => rfl) rfl
theorem u__law_family (h : Hd K mg) (c : Cals P w K mg base lv (callN lv)) : Cal P w K mg base (lv + 1) (callN (lv + 1)) "_law_family" 7 4 := by
  obtain ⟨f, fd, hm, F⟩ := h.d7
  exact .succ hm F (F.bindsN (ps := ps__law_family) fun _ _ _ _ _ _ us hl => match us, hl with | [_, _, _, _], _ => rfl) sc__law_family rfl rfl rfl fun cdv A outer s H o => s__law_family c o
theorem z__law_weight (h : Hd K mg) : Cal P w K mg base 0 (callN 0) "_law_weight" 16 2 := by
  obtain ⟨f, fd, hm, F⟩ := h.d16
  exact .zero (fun _ => rfl) hm F.kp (F.bindsN (ps := ps__law_weight) fun _ _ _ _ _ _ us hl => match us, hl with | [_, _], _ => rfl) rfl
theorem u__law_weight (h : Hd K mg) (c : Cals P w K mg base lv (callN lv)) : Cal P w K mg base (lv + 1) (callN (lv + 1)) "_law_weight" 16 2 := by
  obtain ⟨f, fd, hm, F⟩ := h.d16
  exact .succ hm F (F.bindsN (ps := ps__law_weight) fun _ _ _ _ _ _ us hl => match us, hl with | [_, _], _ => rfl) sc__law_weight rfl rfl rfl fun cdv A outer s H o => s__law_weight c o
theorem z__law_repriced (h : Hd K mg) : Cal P w K mg base 0 (callN 0) "_law_repriced" 17 3 := by
  obtain ⟨f, fd, hm, F⟩ := h.d17
  exact .zero (fun _ => rfl) hm F.kp (F.bindsN (ps := ps__law_repriced) fun _ _ _ _ _ _ us hl => match us, hl with | [_, _, _], _ => rfl) rfl
theorem u__law_repriced (h : Hd K mg) (c : Cals P w K mg base lv (callN lv)) : Cal P w K mg base (lv + 1) (callN (lv + 1)) "_law_repriced" 17 3 := by
  obtain ⟨f, fd, hm, F⟩ := h.d17
  exact .succ hm F (F.bindsN (ps := ps__law_repriced) fun _ _ _ _ _ _ us hl => match us, hl with | [_, _, _], _ => rfl) sc__law_repriced rfl rfl rfl fun cdv A outer s H o => s__law_repriced c o
theorem z__law_tower (h : Hd K mg) : Cal P w K mg base 0 (callN 0) "_law_tower" 18 1 := by
  obtain ⟨f, fd, hm, F⟩ := h.d18
  exact .zero (fun _ => rfl) hm F.kp (F.bindsN (ps := ps__law_tower) fun _ _ _ _ _ _ us hl => match us, hl with | [_], _ => rfl) rfl
theorem u__law_tower (h : Hd K mg) (c : Cals P w K mg base lv (callN lv)) : Cal P w K mg base (lv + 1) (callN (lv + 1)) "_law_tower" 18 1 := by
  obtain ⟨f, fd, hm, F⟩ := h.d18
  exact .succ hm F (F.bindsN (ps := ps__law_tower) fun _ _ _ _ _ _ us hl => match us, hl with | [_], _ => rfl) sc__law_tower rfl rfl rfl fun cdv A outer s H o => s__law_tower c o
theorem z__law_tall (h : Hd K mg) : Cal P w K mg base 0 (callN 0) "_law_tall" 19 1 := by
  obtain ⟨f, fd, hm, F⟩ := h.d19
  exact .zero (fun _ => rfl) hm F.kp (F.bindsN (ps := ps__law_tall) fun _ _ _ _ _ _ us hl => match us, hl with | [_], _ => rfl) rfl
theorem u__law_tall (h : Hd K mg) (c : Cals P w K mg base lv (callN lv)) : Cal P w K mg base (lv + 1) (callN (lv + 1)) "_law_tall" 19 1 := by
  obtain ⟨f, fd, hm, F⟩ := h.d19
  exact .succ hm F (F.bindsN (ps := ps__law_tall) fun _ _ _ _ _ _ us hl => match us, hl with | [_], _ => rfl) sc__law_tall rfl rfl rfl fun cdv A outer s H o => s__law_tall c o
theorem z__law_any_family (h : Hd K mg) : Cal P w K mg base 0 (callN 0) "_law_any_family" 20 1 := by
  obtain ⟨f, fd, hm, F⟩ := h.d20
  exact .zero (fun _ => rfl) hm F.kp (F.bindsN (ps := ps__law_any_family) fun _ _ _ _ _ _ us hl => match us, hl with | [_], _ => rfl) rfl
theorem u__law_any_family (h : Hd K mg) (c : Cals P w K mg base lv (callN lv)) : Cal P w K mg base (lv + 1) (callN (lv + 1)) "_law_any_family" 20 1 := by
  obtain ⟨f, fd, hm, F⟩ := h.d20
  exact .succ hm F (F.bindsN (ps := ps__law_any_family) fun _ _ _ _ _ _ us hl => match us, hl with | [_], _ => rfl) sc__law_any_family rfl rfl rfl fun cdv A outer s H o => s__law_any_family c o
theorem z__law_rounded (h : Hd K mg) : Cal P w K mg base 0 (callN 0) "_law_rounded" 21 2 := by
  obtain ⟨f, fd, hm, F⟩ := h.d21
  exact .zero (fun _ => rfl) hm F.kp (F.bindsN (ps := ps__law_rounded) fun _ _ _ _ _ _ us hl => match us, hl with | [_, _], _ => rfl) rfl
theorem u__law_rounded (h : Hd K mg) (c : Cals P w K mg base lv (callN lv)) : Cal P w K mg base (lv + 1) (callN (lv + 1)) "_law_rounded" 21 2 := by
  obtain ⟨f, fd, hm, F⟩ := h.d21
  exact .succ hm F (F.bindsN (ps := ps__law_rounded) fun _ _ _ _ _ _ us hl => match us, hl with | [_, _], _ => rfl) sc__law_rounded rfl rfl rfl fun cdv A outer s H o => s__law_rounded c o
theorem z__law_given (h : Hd K mg) : Cal P w K mg base 0 (callN 0) "_law_given" 22 2 := by
  obtain ⟨f, fd, hm, F⟩ := h.d22
  exact .zero (fun _ => rfl) hm F.kp (F.bindsN (ps := ps__law_given) fun _ _ _ _ _ _ us hl => match us, hl with | [_, _], _ => rfl) rfl
theorem u__law_given (h : Hd K mg) (c : Cals P w K mg base lv (callN lv)) : Cal P w K mg base (lv + 1) (callN (lv + 1)) "_law_given" 22 2 := by
  obtain ⟨f, fd, hm, F⟩ := h.d22
  exact .succ hm F (F.bindsN (ps := ps__law_given) fun _ _ _ _ _ _ us hl => match us, hl with | [_, _], _ => rfl) sc__law_given rfl rfl rfl fun cdv A outer s H o => s__law_given c o
theorem z_law (h : Hd K mg) : Cal P w K mg base 0 (callN 0) "law" 23 1 := by
  obtain ⟨f, fd, hm, F⟩ := h.d23
  exact .zero (fun _ => rfl) hm F.kp (F.bindsN (ps := ps_law) fun _ _ _ _ _ _ us hl => match us, hl with | [_], _ => rfl) rfl
theorem u_law (h : Hd K mg) (c : Cals P w K mg base lv (callN lv)) : Cal P w K mg base (lv + 1) (callN (lv + 1)) "law" 23 1 := by
  obtain ⟨f, fd, hm, F⟩ := h.d23
  exact .succ hm F (F.bindsN (ps := ps_law) fun _ _ _ _ _ _ us hl => match us, hl with | [_], _ => rfl) sc_law rfl rfl rfl fun cdv A outer s H o => s_law c o
theorem cals (h : Hd K mg) : ∀ lv, Cals P w K mg base lv (callN lv)
  | 0 => ⟨h.free_abs, h.free_int, h.free_len, h.free_list, h.free_max, h.free_range, h.free_repr, h.free_tuple, z_weight_of h, z_least_round h, z__law_tape h, z__law_draw h, z__law_price h, z__law_family h, z__law_weight h, z__law_repriced h, z__law_tower h, z__law_tall h, z__law_any_family h, z__law_rounded h, z__law_given h, z_law h⟩
  | lv + 1 => ⟨h.free_abs, h.free_int, h.free_len, h.free_list, h.free_max, h.free_range, h.free_repr, h.free_tuple, u_weight_of h (cals h lv), u_least_round h (cals h lv), u__law_tape h (cals h lv), u__law_draw h (cals h lv), u__law_price h (cals h lv), u__law_family h (cals h lv), u__law_weight h (cals h lv), u__law_repriced h (cals h lv), u__law_tower h (cals h lv), u__law_tall h (cals h lv), u__law_any_family h (cals h lv), u__law_rounded h (cals h lv), u__law_given h (cals h lv), u_law h (cals h lv)⟩
end
/-! ### the head -/
def fn : List He.DefD := [⟨("weight_of", none), "weight_of", "weight_of", defArgs st_weight_of, defBody st_weight_of, defScope st_weight_of, [], []⟩,
 ⟨("least_round", none), "least_round", "least_round", defArgs st_least_round, defBody st_least_round, defScope st_least_round, [], []⟩,
 ⟨("_law_tape", none), "_law_tape", "_law_tape", defArgs st__law_tape, defBody st__law_tape, defScope st__law_tape, [], []⟩,
 ⟨("_law_draw", none), "_law_draw", "_law_draw", defArgs st__law_draw, defBody st__law_draw, defScope st__law_draw, [], []⟩,
 ⟨("_law_price", none), "_law_price", "_law_price", defArgs st__law_price, defBody st__law_price, defScope st__law_price, [], []⟩,
 ⟨("_law_family", none), "_law_family", "_law_family", defArgs st__law_family, defBody st__law_family, defScope st__law_family, [], []⟩,
 ⟨("_law_weight", none), "_law_weight", "_law_weight", defArgs st__law_weight, defBody st__law_weight, defScope st__law_weight, [], []⟩,
 ⟨("_law_repriced", none), "_law_repriced", "_law_repriced", defArgs st__law_repriced, defBody st__law_repriced, defScope st__law_repriced, [], []⟩,
 ⟨("_law_tower", none), "_law_tower", "_law_tower", defArgs st__law_tower, defBody st__law_tower, defScope st__law_tower, [], []⟩,
 ⟨("_law_tall", none), "_law_tall", "_law_tall", defArgs st__law_tall, defBody st__law_tall, defScope st__law_tall, [], []⟩,
 ⟨("_law_any_family", none), "_law_any_family", "_law_any_family", defArgs st__law_any_family, defBody st__law_any_family, defScope st__law_any_family, [], []⟩,
 ⟨("_law_rounded", none), "_law_rounded", "_law_rounded", defArgs st__law_rounded, defBody st__law_rounded, defScope st__law_rounded, [], []⟩,
 ⟨("_law_given", none), "_law_given", "_law_given", defArgs st__law_given, defBody st__law_given, defScope st__law_given, [], []⟩,
 ⟨("law", none), "law", "law", defArgs st_law, defBody st_law, defScope st_law, [], []⟩]
def fa : List He.Fa := [.glo "weight_of", .glo "least_round", .glo "_law_tape", .glo "_law_draw", .glo "_law_price", .glo "_law_family", .glo "_law_weight", .glo "_law_repriced", .glo "_law_tower", .glo "_law_tall", .glo "_law_any_family", .glo "_law_rounded", .glo "_law_given", .glo "law", .free "abs", .free "int", .free "len", .free "list", .free "max", .free "range", .free "repr", .free "tuple"]
abbrev R : PySem.W.OpenRow := PySem.W.OpenLaw.row PySem.Challenge.rw_slotwise_k25_one_round
abbrev hk : PySem.W.Hook := He.hookD 4 fa fn
def ob (s : PySem.W.SharedT) : He.AlD := He.obsDG 4 fa fn (HandSHeadRun.getT s)
theorem ob_eq (s : PySem.W.SharedT) : ob s = hk.obs s.abs := He.obsDG_eq (HandSHeadRun.getT_eq s)
def names0 : List PySem.Str := ["weight_of", "least_round", "_law_tape", "_law_draw", "_law_price", "_law_family", "_law_weight", "_law_repriced", "_law_tower", "_law_tall", "_law_any_family", "_law_rounded", "_law_given"]
abbrev names : List PySem.Str := names0
theorem run (w : World) : HandSHeadRun.RunEq R (PySem.W.view R.prog [15]) hk ob 600 names w := by
  intro os
  kernel_rfl
theorem hd_of {K : KK} {h : Heap} {mg : Str → Option Value} (X : K.In h) (G : h.Ns mainGlobals mg) (c : He.SaysD fa fn K) : Hd K mg where
  free_abs := He.free_ok X G (c.fact 14 (f := .free "abs") rfl)
  free_int := He.free_ok X G (c.fact 15 (f := .free "int") rfl)
  free_len := He.free_ok X G (c.fact 16 (f := .free "len") rfl)
  free_list := He.free_ok X G (c.fact 17 (f := .free "list") rfl)
  free_max := He.free_ok X G (c.fact 18 (f := .free "max") rfl)
  free_range := He.free_ok X G (c.fact 19 (f := .free "range") rfl)
  free_repr := He.free_ok X G (c.fact 20 (f := .free "repr") rfl)
  free_tuple := He.free_ok X G (c.fact 21 (f := .free "tuple") rfl)
  d14 := by
    obtain ⟨fd, F⟩ := c.def_ 0 (d := ⟨("weight_of", none), "weight_of", "weight_of", defArgs st_weight_of, defBody st_weight_of, defScope st_weight_of, [], []⟩) rfl
    exact ⟨_, fd, He.glo_ok X G (c.fact 0 (f := .glo "weight_of") rfl), F⟩
  d15 := by
    obtain ⟨fd, F⟩ := c.def_ 1 (d := ⟨("least_round", none), "least_round", "least_round", defArgs st_least_round, defBody st_least_round, defScope st_least_round, [], []⟩) rfl
    exact ⟨_, fd, He.glo_ok X G (c.fact 1 (f := .glo "least_round") rfl), F⟩
  d4 := by
    obtain ⟨fd, F⟩ := c.def_ 2 (d := ⟨("_law_tape", none), "_law_tape", "_law_tape", defArgs st__law_tape, defBody st__law_tape, defScope st__law_tape, [], []⟩) rfl
    exact ⟨_, fd, He.glo_ok X G (c.fact 2 (f := .glo "_law_tape") rfl), F⟩
  d5 := by
    obtain ⟨fd, F⟩ := c.def_ 3 (d := ⟨("_law_draw", none), "_law_draw", "_law_draw", defArgs st__law_draw, defBody st__law_draw, defScope st__law_draw, [], []⟩) rfl
    exact ⟨_, fd, He.glo_ok X G (c.fact 3 (f := .glo "_law_draw") rfl), F⟩
  d6 := by
    obtain ⟨fd, F⟩ := c.def_ 4 (d := ⟨("_law_price", none), "_law_price", "_law_price", defArgs st__law_price, defBody st__law_price, defScope st__law_price, [], []⟩) rfl
    exact ⟨_, fd, He.glo_ok X G (c.fact 4 (f := .glo "_law_price") rfl), F⟩
  d7 := by
    obtain ⟨fd, F⟩ := c.def_ 5 (d := ⟨("_law_family", none), "_law_family", "_law_family", defArgs st__law_family, defBody st__law_family, defScope st__law_family, [], []⟩) rfl
    exact ⟨_, fd, He.glo_ok X G (c.fact 5 (f := .glo "_law_family") rfl), F⟩
  d16 := by
    obtain ⟨fd, F⟩ := c.def_ 6 (d := ⟨("_law_weight", none), "_law_weight", "_law_weight", defArgs st__law_weight, defBody st__law_weight, defScope st__law_weight, [], []⟩) rfl
    exact ⟨_, fd, He.glo_ok X G (c.fact 6 (f := .glo "_law_weight") rfl), F⟩
  d17 := by
    obtain ⟨fd, F⟩ := c.def_ 7 (d := ⟨("_law_repriced", none), "_law_repriced", "_law_repriced", defArgs st__law_repriced, defBody st__law_repriced, defScope st__law_repriced, [], []⟩) rfl
    exact ⟨_, fd, He.glo_ok X G (c.fact 7 (f := .glo "_law_repriced") rfl), F⟩
  d18 := by
    obtain ⟨fd, F⟩ := c.def_ 8 (d := ⟨("_law_tower", none), "_law_tower", "_law_tower", defArgs st__law_tower, defBody st__law_tower, defScope st__law_tower, [], []⟩) rfl
    exact ⟨_, fd, He.glo_ok X G (c.fact 8 (f := .glo "_law_tower") rfl), F⟩
  d19 := by
    obtain ⟨fd, F⟩ := c.def_ 9 (d := ⟨("_law_tall", none), "_law_tall", "_law_tall", defArgs st__law_tall, defBody st__law_tall, defScope st__law_tall, [], []⟩) rfl
    exact ⟨_, fd, He.glo_ok X G (c.fact 9 (f := .glo "_law_tall") rfl), F⟩
  d20 := by
    obtain ⟨fd, F⟩ := c.def_ 10 (d := ⟨("_law_any_family", none), "_law_any_family", "_law_any_family", defArgs st__law_any_family, defBody st__law_any_family, defScope st__law_any_family, [], []⟩) rfl
    exact ⟨_, fd, He.glo_ok X G (c.fact 10 (f := .glo "_law_any_family") rfl), F⟩
  d21 := by
    obtain ⟨fd, F⟩ := c.def_ 11 (d := ⟨("_law_rounded", none), "_law_rounded", "_law_rounded", defArgs st__law_rounded, defBody st__law_rounded, defScope st__law_rounded, [], []⟩) rfl
    exact ⟨_, fd, He.glo_ok X G (c.fact 11 (f := .glo "_law_rounded") rfl), F⟩
  d22 := by
    obtain ⟨fd, F⟩ := c.def_ 12 (d := ⟨("_law_given", none), "_law_given", "_law_given", defArgs st__law_given, defBody st__law_given, defScope st__law_given, [], []⟩) rfl
    exact ⟨_, fd, He.glo_ok X G (c.fact 12 (f := .glo "_law_given") rfl), F⟩
  d23 := by
    obtain ⟨fd, F⟩ := c.def_ 13 (d := ⟨("law", none), "law", "law", defArgs st_law, defBody st_law, defScope st_law, [], []⟩) rfl
    exact ⟨_, fd, He.glo_ok X G (c.fact 13 (f := .glo "law") rfl), F⟩
end L25
set_option Elab.async false
set_option linter.all false
set_option maxRecDepth 100000
set_option maxHeartbeats 4000000
namespace Mi
open PySem L2
local macro_rules | `(tactic| walk_at "ev") => `(tactic| simp only [
ev_seq, ev_if, ev_ifE, ev_nx, ev_bk, ev_ct, ev_E, ev_set, ev_tg, ev_ret, ev_retO, ev_retN, ev_put, ev_for, ev_C, ev_V, ev_vr, ev_ex, ev_o1, ev_o2, ev_t2, ev_tru, ev_and, ev_or, ev_not, ev_yes, ev_andE, ev_orE, ev_notE, ev_LN, ev_LC, ev_B, ev_TN, ev_TC, ev_tup, ev_lst, ev_GN, ev_GV, ev_GR, ev_call, ev_mu, ev_lc, ev_any, ev_r1, ev_r2, ev_rep,
 kS_nx, kS_bk, kS_ct, kS_rt, kIf_t, kIf_f, kM_ok, kSet_ok, kAnd_t, kAnd_f, kOr_t, kOr_f, kAndE_t, kAndE_f, kOrE_t, kOrE_f, kNotE_b, oVr_s, kO1_l, kO1_r, kO2_ok, kO2'_ok, g2_ss, gv_l, gv_r, kL_ok, kL'_ok, kB_ok, gB_s, gvL_n, gvL_c, kV_ss, kT_ok, kT'_ok, kG_ok, kG'_ok, gG_s, kC_ok, kC1_s, kC2_ok, kP_s, take_n, take_l, tk1_l, take_r, tkL_s, tkD_s, put_n, put_l, put_r, pt1_s, kPut1_ok, kPut2_ok, gPut_l, isL_l, kMu_ok, gMu_l, kFor_ok, kLc_ok, kSeqI_l, kSeqI_l', kSeqI_t, kR1_i, kR2_ok, kR2'_i, kTru_l, kTru_r, kRep_ok, kRep2_i, rV_d, rV_l, kF_r, kF_n, kFr_s, cont_n, cont_c, ct1_s, wp_ok, wpC_ok, atI_0, atI_1, atI_2, atI_3, fIx_l, fIx_t,
 List.length_cons, List.length_nil, Nat.zero_add, Nat.reduceAdd, Int.reduceLT, Int.reduceLE, Int.reduceAdd, Int.reduceMul, Int.reduceToNat, Int.reduceNeg, Int.reduceSub, Nat.reduceLT, Nat.reduceLeDiff, Nat.reduceMul, gt_iff_lt, ge_iff_le, ixN_4_0, ixN_4_1, ixN_4_2, ixN_4_3, wipe_n, wipe_c, tgN_r, tgT_r, tgL_n, tgL_c, ofO_some, vw_d, vw_l, fAddI_int, fSub_int, fNeg_int, fMod_p, fMul_31, fMul_48271, fMul_69621, fPow18, fPow9, cCmp_int, cEq_int, cNe_int, cEq_str, cNe_str, cOrd_int, ev_aug, kAug_ok, cIs_none, cIsNot_none, isNone_none, isNone_int, isNone_str, isNone_tuple, isNone_list, isNone_bool, truD_l, truD_t, truD_b, truD_n, bLen_l, bLen_t, bAbs_int, bInt_int, bMax_int, bMin_int, bList_l, bList_t, bTuple_l, bTuple_t, Option.map_some, Option.bind_some, List.getD_cons_zero, List.getD_cons_succ, List.set_cons_zero, List.set_cons_succ, if_true, if_false, lB, ↓reduceIte, Bool.not_true, Bool.not_false
])
theorem forL_nx {tg : Tg} {b : MS} {x : D} {xs : List D} {e e0 e1 : Env} (h1 : tg x e = some e0) (h2 : b e0 = .ok .nx e1) : forL tg b (x :: xs) e = forL tg b xs e1 := by
  show (match tg x e with | none => Res.no | some e0 => bnd (b e0) fun o e1 => match o with | .nx => forL tg b xs e1 | .ct => forL tg b xs e1 | .bk => .ok .nx e1 | .rt w => .ok (.rt w) e1) = _
  rw [h1]
  show bnd (b e0) _ = _
  rw [h2]
  rfl
theorem forL_rt {tg : Tg} {b : MS} {x : D} {xs : List D} {e e0 e1 : Env} {w : W} (h1 : tg x e = some e0) (h2 : b e0 = .ok (.rt w) e1) : forL tg b (x :: xs) e = .ok (.rt w) e1 := by
  show (match tg x e with | none => Res.no | some e0 => bnd (b e0) fun o e1 => match o with | .nx => forL tg b xs e1 | .ct => forL tg b xs e1 | .bk => .ok .nx e1 | .rt w => .ok (.rt w) e1) = _
  rw [h1]
  show bnd (b e0) _ = _
  rw [h2]
  rfl
/-! ### weights -/
abbrev Wt := Option (Int × Int)
def wD : Wt → D
  | none => .none
  | some p => .tuple [.int p.1, .int p.2]
def wsum (ws : List Wt) : List Nat → Int → Int → Wt
  | [], p, n => some (p, n)
  | s :: ss, p, n => match ws.getD s none with
    | none => none
    | some q => wsum ws ss (p + q.1) (n + q.2)
def weight (v : Var) (ws : List Wt) : Wt := match v.price with
  | none => none
  | some p => wsum ws v.slots p 1
theorem wt_at {ts : List Wt} {s : Nat} (h : s < ts.length) : atI (ts.map wD) (s : Int) = some (wD (ts.getD s none)) := by
  refine atI_get ?_
  rw [List.getElem?_map, List.getD_eq_getElem?_getD]
  simp [h]
theorem isNone_wD (z : Wt) : isNone (wD z) = z.isNone := by cases z <;> rfl
theorem wof_loop (C : Orc) (ws : List Wt) (x0 x2 x3 : Option W) : ∀ (sl : List Nat) (p n : Int) (x6 : Option W), (∀ s ∈ sl, s < ws.length) →
    Wp (forL (tgN 6) (M14b0 C) (sl.map natD) [x0, some (.d (.tuple (ws.map wD))), x2, x3, some (.d (.int p)), some (.d (.int n)), x6]) fun o e =>
      match wsum ws sl p n with
      | some q => o = .nx ∧ ∃ y, e = [x0, some (.d (.tuple (ws.map wD))), x2, x3, some (.d (.int q.1)), some (.d (.int q.2)), y]
      | none => o = .rt (.d .none)
  | [], p, n, x6, _ => ⟨.nx, _, rfl, rfl, x6, rfl⟩
  | s :: ss, p, n, x6, h => by
    have hs := h s List.mem_cons_self
    have ih := fun p n x6 => wof_loop C ws x0 x2 x3 ss p n x6 fun z hz => h z (List.mem_cons_of_mem _ hz)
    have at1 := wt_at hs
    unfold wsum
    cases hw : ws.getD s none with
    | none =>
      rw [hw] at at1
      have hb : ∃ e1, M14b0 C [x0, some (.d (.tuple (ws.map wD))), x2, x3, some (.d (.int p)), some (.d (.int n)), some (.d (.int (s : Int)))] = .ok (.rt (.d .none)) e1 := by
        refine ⟨[x0, some (.d (.tuple (ws.map wD))), x2, x3, some (.d (.int p)), some (.d (.int n)), some (.d (.int (s : Int)))], ?_⟩
        unfold M14b0
        walk_at "ev"
        rw [at1]
        simp only [wD]
        walk_at "ev"
      obtain ⟨e1, hb⟩ := hb
      rw [List.map_cons, forL_rt (e0 := [x0, some (.d (.tuple (ws.map wD))), x2, x3, some (.d (.int p)), some (.d (.int n)), some (.d (.int (s : Int)))]) rfl hb]
      exact ⟨_, _, rfl, rfl⟩
    | some q =>
      rw [hw] at at1
      have hb : M14b0 C [x0, some (.d (.tuple (ws.map wD))), x2, x3, some (.d (.int p)), some (.d (.int n)), some (.d (.int (s : Int)))] = .ok .nx [x0, some (.d (.tuple (ws.map wD))), x2, x3, some (.d (.int (p + q.1))), some (.d (.int (n + q.2))), some (.d (.int (s : Int)))] := by
        unfold M14b0
        walk_at "ev"
        rw [at1]
        simp only [wD]
        walk_at "ev"
        rw [at1]
        simp only [wD]
        walk_at "ev"
        rw [at1]
        simp only [wD]
        walk_at "ev"
      rw [List.map_cons, forL_nx (e0 := [x0, some (.d (.tuple (ws.map wD))), x2, x3, some (.d (.int p)), some (.d (.int n)), some (.d (.int (s : Int)))]) rfl hb]
      exact ih _ _ _

theorem kTg_s {t : Tg} {w : W} {e e2 : Env} (h : t (vw w) e = some e2) : kTg t (.ok w e) = .ok .nx e2 := by
  show (match t (vw w) e with | some e2 => _ | none => _) = _
  rw [h]
theorem isNone_pd (p : Option Int) : isNone (priceD p) = p.isNone := by cases p <;> rfl
theorem weight_of_ok (C : Orc) (v : Var) (ws : List Wt) (hs : ∀ s ∈ v.slots, s < ws.length) (vd : D) (hvd : vd = .tuple [natD v.plug, .tuple (v.slots.map natD), priceD v.price]) : F14 C [.d vd, .d (.tuple (ws.map wD))] = .ok (.d (wD (weight v ws))) [] := by
  have run : WpC (F14 C [.d vd, .d (.tuple (ws.map wD))]) fun w o => w = .d (wD (weight v ws)) ∧ o = [] := by
    refine wpC_run (m := M14 C) rfl rfl ?_
    simp only [List.map_cons, List.map_nil, List.cons_append, List.nil_append, List.replicate]
    unfold M14
    walk_at "ev"
    have ht : tgT [tgN 2, tgN 3, tgN 4] vd [some (.d vd), some (.d (.tuple (ws.map wD))), none, none, none, none, none] = some [some (.d vd), some (.d (.tuple (ws.map wD))), some (.d (natD v.plug)), some (.d (.tuple (v.slots.map natD))), some (.d (priceD v.price)), none, none] := by
      subst hvd; rfl
    rw [kTg_s ht]
    walk_at "ev"
    rw [isNone_pd]
    unfold weight
    cases hp : v.price with
    | none =>
      simp only [Option.isNone_none]
      walk_at "ev"
      exact ⟨by trivial, by trivial⟩
    | some p =>
      simp only [Option.isNone_some, priceD]
      walk_at "ev"
      obtain ⟨o, e, h1, h2⟩ := wof_loop C ws (some (.d vd)) (some (.d (natD v.plug))) (some (.d (.tuple (v.slots.map natD)))) v.slots p 1 none hs
      rw [h1]
      cases hw : wsum ws v.slots p 1 with
      | none =>
        rw [hw] at h2
        subst h2
        walk_at "ev"
        exact ⟨by trivial, by trivial⟩
      | some q =>
        rw [hw] at h2
        obtain ⟨rfl, y, rfl⟩ := h2
        walk_at "ev"
        exact ⟨by trivial, by trivial⟩
  obtain ⟨w, o, h, rfl, rfl⟩ := run
  exact h
theorem lw_loop (C : Orc) (ws : List Wt) (x0 : Option W) : ∀ (sl : List Nat) (p n : Int) (x6 : Option W), (∀ s ∈ sl, s < ws.length) →
    Wp (forL (tgN 4) (M16b0 C) (sl.map natD) [x0, some (.d (.tuple (ws.map wD))), some (.d (.int p)), some (.d (.int n)), x6]) fun o e =>
      match wsum ws sl p n with
      | some q => o = .nx ∧ ∃ y, e = [x0, some (.d (.tuple (ws.map wD))), some (.d (.int q.1)), some (.d (.int q.2)), y]
      | none => o = .rt (.d .none)
  | [], p, n, x6, _ => ⟨.nx, _, rfl, rfl, x6, rfl⟩
  | s :: ss, p, n, x6, h => by
    have hs := h s List.mem_cons_self
    have ih := fun p n x6 => lw_loop C ws x0 ss p n x6 fun z hz => h z (List.mem_cons_of_mem _ hz)
    have at1 := wt_at hs
    unfold wsum
    cases hw : ws.getD s none with
    | none =>
      rw [hw] at at1
      have hb : ∃ e1, M16b0 C [x0, some (.d (.tuple (ws.map wD))), some (.d (.int p)), some (.d (.int n)), some (.d (.int (s : Int)))] = .ok (.rt (.d .none)) e1 := by
        refine ⟨[x0, some (.d (.tuple (ws.map wD))), some (.d (.int p)), some (.d (.int n)), some (.d (.int (s : Int)))], ?_⟩
        unfold M16b0
        walk_at "ev"
        rw [at1]
        simp only [wD]
        walk_at "ev"
      obtain ⟨e1, hb⟩ := hb
      rw [List.map_cons, forL_rt (e0 := [x0, some (.d (.tuple (ws.map wD))), some (.d (.int p)), some (.d (.int n)), some (.d (.int (s : Int)))]) rfl hb]
      exact ⟨_, _, rfl, rfl⟩
    | some q =>
      rw [hw] at at1
      have hb : M16b0 C [x0, some (.d (.tuple (ws.map wD))), some (.d (.int p)), some (.d (.int n)), some (.d (.int (s : Int)))] = .ok .nx [x0, some (.d (.tuple (ws.map wD))), some (.d (.int (p + q.1))), some (.d (.int (n + q.2))), some (.d (.int (s : Int)))] := by
        unfold M16b0
        walk_at "ev"
        rw [at1]
        simp only [wD]
        walk_at "ev"
        rw [at1]
        simp only [wD]
        walk_at "ev"
        rw [at1]
        simp only [wD]
        walk_at "ev"
      rw [List.map_cons, forL_nx (e0 := [x0, some (.d (.tuple (ws.map wD))), some (.d (.int p)), some (.d (.int n)), some (.d (.int (s : Int)))]) rfl hb]
      exact ih _ _ _
theorem law_weight_ok (C : Orc) (v : Var) (ws : List Wt) (hs : ∀ s ∈ v.slots, s < ws.length) (vd : D) (hvd : vd = .tuple [natD v.plug, .tuple (v.slots.map natD), priceD v.price]) : F16 C [.d vd, .d (.tuple (ws.map wD))] = .ok (.d (wD (weight v ws))) [] := by
  have run : WpC (F16 C [.d vd, .d (.tuple (ws.map wD))]) fun w o => w = .d (wD (weight v ws)) ∧ o = [] := by
    refine wpC_run (m := M16 C) rfl rfl ?_
    simp only [List.map_cons, List.map_nil, List.cons_append, List.nil_append, List.replicate]
    unfold M16
    have v1 : fIx vd (.int 1) = some (.d (.tuple (v.slots.map natD))) := by subst hvd; rfl
    have v2 : fIx vd (.int 2) = some (.d (priceD v.price)) := by subst hvd; rfl
    walk_at "ev"
    rw [v2]
    walk_at "ev"
    rw [isNone_pd]
    unfold weight
    cases hp : v.price with
    | none =>
      simp only [Option.isNone_none]
      walk_at "ev"
      exact ⟨by trivial, by trivial⟩
    | some p =>
      simp only [Option.isNone_some]
      walk_at "ev"
      rw [v2, hp]
      simp only [priceD]
      walk_at "ev"
      rw [v1]
      walk_at "ev"
      obtain ⟨o, e, h1, h2⟩ := lw_loop C ws (some (.d vd)) v.slots p 1 none hs
      rw [h1]
      cases hw : wsum ws v.slots p 1 with
      | none =>
        rw [hw] at h2
        subst h2
        walk_at "ev"
        exact ⟨by trivial, by trivial⟩
      | some q =>
        rw [hw] at h2
        obtain ⟨rfl, y, rfl⟩ := h2
        walk_at "ev"
        exact ⟨by trivial, by trivial⟩
  obtain ⟨w, o, h, rfl, rfl⟩ := run
  exact h
/-! ### a round -/
def wless (a b : Int × Int) : Bool := PySem.W.dataLt (wD (some a)) (wD (some b))
theorem dLt_w {a b : Int × Int} : dLt (wD (some a)) (wD (some b)) = some (wless a b) := by
  show (if PySem.W.alike (wD (some a)) (wD (some b)) = true ∧ isNone (wD (some a)) = false ∧ min (wD (some a)).depth (wD (some b)).depth ≤ 64 then some (PySem.W.dataLt (wD (some a)) (wD (some b))) else none) = some (wless a b)
  exact if_pos ⟨rfl, rfl, by simp [wD, PyData.depth, PyData.depthAll]⟩
def wtake : Wt → Wt → Bool
  | none, _ => false
  | some _, none => true
  | some a, some b => wless a b
theorem wtake_t {a b : Int × Int} (h : wless a b = true) : wtake (some a) (some b) = true := h
theorem wtake_f {a b : Int × Int} (h : wless a b = false) : ¬ wtake (some a) (some b) = true := by
  rw [show wtake (some a) (some b) = wless a b from rfl, h]
  decide
def wStep (ws row : List Wt) (v : Var) : List Wt := if wtake (weight v ws) (row.getD v.plug none) = true then row.set v.plug (weight v ws) else row
def wRound (f : Fam) (ws : List Wt) : List Wt := f.vars.foldl (wStep ws) (List.replicate f.count none)
structure WtFor (f : Fam) (ws : List Wt) : Prop where
  len : ws.length = f.count
  plug : ∀ v ∈ f.vars, v.plug < f.count
  slots : ∀ v ∈ f.vars, ∀ s ∈ v.slots, s < f.count
  small : f.count ≤ 1000
theorem wStep_len {ws row : List Wt} {v : Var} : (wStep ws row v).length = row.length := by
  unfold wStep
  split <;> simp
theorem wset_map {row : List Wt} {i : Nat} {x : Wt} : (row.map wD).set i (wD x) = (row.set i x).map wD := (List.map_set ..).symm
theorem ixN_nat {n i : Nat} (h : i < n) : ixN n (i : Int) = some i := by
  rw [ixN_lit (by omega) (by omega)]; simp
theorem wnone : wD none = .none := rfl
theorem least_step (C : Orc) (h14 : ∀ (v : Var) (ws : List Wt), (∀ s ∈ v.slots, s < ws.length) → C 14 [.d v.dat, .d (.tuple (ws.map wD))] = .ok (.d (wD (weight v ws))) []) (ws row : List Wt) (v : Var) (hs : ∀ s ∈ v.slots, s < ws.length) (hp : v.plug < row.length) (x0 x2 x3 x4 y7 y8 : Option W) :
    Wp (M15b0 C [x0, some (.d (.tuple (ws.map wD))), x2, x3, x4, some (.l (row.map wD)), some (.d v.dat), y7, y8]) fun o e => o = .nx ∧ ∃ y6 y7 y8 : Option W, e = [x0, some (.d (.tuple (ws.map wD))), x2, x3, x4, some (.l ((wStep ws row v).map wD)), y6, y7, y8] := by
  have v0 : fIx v.dat (.int 0) = some (.d (.int (v.plug : Int))) := rfl
  have a1 := wt_at hp
  unfold M15b0
  walk_at "ev"
  rw [v0]
  walk_at "ev"
  rw [h14 v ws hs]
  walk_at "ev"
  rw [isNone_wD]
  unfold wStep
  cases hw : weight v ws with
  | none =>
    simp only [Option.isNone_none]
    walk_at "ev"
    exact ⟨by trivial, _, _, _, rfl⟩
  | some a =>
    simp only [Option.isNone_some]
    walk_at "ev"
    rw [a1]
    walk_at "ev"
    rw [isNone_wD]
    cases ho : row.getD v.plug none with
    | none =>
      simp only [Option.isNone_none]
      walk_at "ev"
      rw [ixN_nat (by rw [List.length_map]; exact hp)]
      walk_at "ev"
      exact ⟨by trivial, _, _, _, by rw [wset_map]; rfl⟩
    | some b =>
      rw [ho] at a1
      simp only [Option.isNone_some]
      walk_at "ev"
      rw [a1]
      walk_at "ev"
      rw [dLt_w]
      walk_at "ev"
      cases hl : wless a b with
      | true =>
        walk_at "ev"
        rw [ixN_nat (by rw [List.length_map]; exact hp)]
        walk_at "ev"
        exact ⟨by trivial, _, _, _, by rw [wset_map, if_pos (wtake_t hl)]⟩
      | false =>
        walk_at "ev"
        exact ⟨by trivial, _, _, _, by rw [if_neg (wtake_f hl)]⟩
theorem round_step (C : Orc) (h16 : ∀ (v : Var) (ws : List Wt), (∀ s ∈ v.slots, s < ws.length) → C 16 [.d v.dat, .d (.tuple (ws.map wD))] = .ok (.d (wD (weight v ws))) []) (ws row : List Wt) (v : Var) (hs : ∀ s ∈ v.slots, s < ws.length) (hp : v.plug < row.length) (x0 y4 x5 : Option W) :
    Wp (M21b0 C [x0, some (.d (.tuple (ws.map wD))), some (.l (row.map wD)), some (.d v.dat), y4, x5]) fun o e => o = .nx ∧ ∃ y3 y4 : Option W, e = [x0, some (.d (.tuple (ws.map wD))), some (.l ((wStep ws row v).map wD)), y3, y4, x5] := by
  have v0 : fIx v.dat (.int 0) = some (.d (.int (v.plug : Int))) := rfl
  have a1 := wt_at hp
  unfold M21b0
  walk_at "ev"
  rw [h16 v ws hs]
  walk_at "ev"
  rw [isNone_wD]
  unfold wStep
  cases hw : weight v ws with
  | none =>
    simp only [Option.isNone_none]
    walk_at "ev"
    exact ⟨by trivial, _, _, rfl⟩
  | some a =>
    simp only [Option.isNone_some]
    walk_at "ev"
    rw [v0]
    walk_at "ev"
    rw [a1]
    walk_at "ev"
    rw [isNone_wD]
    cases ho : row.getD v.plug none with
    | none =>
      simp only [Option.isNone_none]
      walk_at "ev"
      rw [v0]
      walk_at "ev"
      rw [ixN_nat (by rw [List.length_map]; exact hp)]
      walk_at "ev"
      exact ⟨by trivial, _, _, by rw [wset_map]; rfl⟩
    | some b =>
      rw [ho] at a1
      simp only [Option.isNone_some]
      walk_at "ev"
      rw [v0]
      walk_at "ev"
      rw [a1]
      walk_at "ev"
      rw [dLt_w]
      walk_at "ev"
      cases hl : wless a b with
      | true =>
        walk_at "ev"
        rw [v0]
        walk_at "ev"
        rw [ixN_nat (by rw [List.length_map]; exact hp)]
        walk_at "ev"
        exact ⟨by trivial, _, _, by rw [wset_map, if_pos (wtake_t hl)]⟩
      | false =>
        walk_at "ev"
        exact ⟨by trivial, _, _, by rw [if_neg (wtake_f hl)]⟩
theorem least_round_ok (C : Orc) (h14 : ∀ (v : Var) (ws : List Wt), (∀ s ∈ v.slots, s < ws.length) → C 14 [.d v.dat, .d (.tuple (ws.map wD))] = .ok (.d (wD (weight v ws))) []) (f : Fam) (fd : D) (hfd : fd = .tuple [natD f.count, .tuple (f.roots.map natD), .tuple (f.vars.map Var.dat)]) (ws : List Wt) (hf : WtFor f ws) :
    F15 C [.d fd, .d (.tuple (ws.map wD))] = .ok (.d (.tuple ((wRound f ws).map wD))) [] := by
  have run : WpC (F15 C [.d fd, .d (.tuple (ws.map wD))]) fun w o => w = .d (.tuple ((wRound f ws).map wD)) ∧ o = [] := by
    refine wpC_run (m := M15 C) rfl rfl ?_
    simp only [List.map_cons, List.map_nil, List.cons_append, List.nil_append, List.replicate]
    unfold M15
    walk_at "ev"
    have ht : tgT [tgN 2, tgN 3, tgN 4] fd [some (.d fd), some (.d (.tuple (ws.map wD))), none, none, none, none, none, none, none] = some [some (.d fd), some (.d (.tuple (ws.map wD))), some (.d (natD f.count)), some (.d (.tuple (f.roots.map natD))), some (.d (.tuple (f.vars.map Var.dat))), none, none, none, none] := by
      subst hfd; rfl
    obtain ⟨c, hc, hc0, hcn⟩ : ∃ c : Int, natD f.count = .int c ∧ 0 ≤ c ∧ c.toNat = f.count := ⟨f.count, rfl, by omega, by simp⟩
    rw [kTg_s ht, hc]
    walk_at "ev"
    have hz := hf.small
    rw [if_pos (by omega)]
    walk_at "ev"
    have hrep : (List.replicate c.toNat [PyData.none]).flatten = (List.replicate f.count (none : Wt)).map wD := by
      rw [hcn, List.map_replicate]
      generalize f.count = n
      induction n with
      | zero => rfl
      | succ n ih => simp only [List.replicate_succ, List.flatten_cons, ih]; rfl
    rw [hrep]
    generalize some (W.d (PyData.int c)) = x2
    obtain ⟨e', hfor, ⟨y6, y7, y8, rfl⟩, _⟩ := forL_fold (tg := tgN 6) (b := M15b0 C) (dat := Var.dat) (step := wStep ws) (xs := f.vars) (s := List.replicate f.count none)
      (env := fun row e => ∃ y6 y7 y8 : Option W, e = [some (.d fd), some (.d (.tuple (ws.map wD))), x2, some (.d (.tuple (f.roots.map natD))), some (.d (.tuple (f.vars.map Var.dat))), some (.l (row.map wD)), y6, y7, y8])
      (P := fun row => row.length = f.count) ⟨none, none, none, rfl⟩ (by simp) (fun v row e hv hr he => by
        obtain ⟨y6, y7, y8, rfl⟩ := he
        refine ⟨by rw [wStep_len]; exact hr, _, rfl, ?_⟩
        exact (least_step C h14 ws row v (fun s hs => by rw [hf.len]; exact hf.slots v hv s hs) (by rw [hr]; exact hf.plug v hv) _ _ _ _ _ _).mono fun o e1 ⟨h1, h2⟩ => ⟨.inl h1, h2⟩)
    rw [hfor]
    walk_at "ev"
    exact ⟨by trivial, by trivial⟩
  obtain ⟨w, o, h, rfl, rfl⟩ := run
  exact h
theorem rounded_ok (C : Orc) (h16 : ∀ (v : Var) (ws : List Wt), (∀ s ∈ v.slots, s < ws.length) → C 16 [.d v.dat, .d (.tuple (ws.map wD))] = .ok (.d (wD (weight v ws))) []) (f : Fam) (fd : D) (hfd : fd = .tuple [natD f.count, .tuple (f.roots.map natD), .tuple (f.vars.map Var.dat)]) (ws : List Wt) (hf : WtFor f ws) :
    F21 C [.d fd, .d (.tuple (ws.map wD))] = .ok (.d (.tuple ((wRound f ws).map wD))) [] := by
  have run : WpC (F21 C [.d fd, .d (.tuple (ws.map wD))]) fun w o => w = .d (.tuple ((wRound f ws).map wD)) ∧ o = [] := by
    refine wpC_run (m := M21 C) rfl rfl ?_
    simp only [List.map_cons, List.map_nil, List.cons_append, List.nil_append, List.replicate]
    unfold M21
    obtain ⟨c, hc, hc0, hcn⟩ : ∃ c : Int, natD f.count = .int c ∧ 0 ≤ c ∧ c.toNat = f.count := ⟨f.count, rfl, by omega, by simp⟩
    have hz := hf.small
    have e0 : fIx fd (.int 0) = some (.d (.int c)) := by rw [← hc]; subst hfd; rfl
    have e2 : fIx fd (.int 2) = some (.d (.tuple (f.vars.map Var.dat))) := by subst hfd; rfl
    walk_at "ev"
    rw [e0]
    walk_at "ev"
    rw [if_pos (by omega)]
    walk_at "ev"
    rw [if_pos (by rw [rng_len]; omega)]
    obtain ⟨ds, e3, hcm, rfl, rfl⟩ := cmpR_inv (tg := tgN 5) (tt := mYes) (te := eC .none) (vs := [5]) (lo := 0) (n := c.toNat)
        (e := [some (.d fd), some (.d (.tuple (ws.map wD))), none, none, none, none])
        (fun i acc e => acc = (List.replicate i (none : Wt)).map wD ∧ e = [some (.d fd), some (.d (.tuple (ws.map wD))), none, none, none, none])
        ⟨rfl, rfl⟩ (fun i acc e hi hI => by
          obtain ⟨rfl, rfl⟩ := hI
          refine ⟨_, rfl, ?_⟩
          walk_at "ev"
          refine .inr ⟨by trivial, ?_⟩
          exact ⟨by simp [List.replicate_succ']; rfl, by trivial⟩)
    rw [hcm]
    walk_at "ev"
    rw [hcn, e2]
    walk_at "ev"
    obtain ⟨e', hfor, ⟨y3, y4, rfl⟩, _⟩ := forL_fold (tg := tgN 3) (b := M21b0 C) (dat := Var.dat) (step := wStep ws) (xs := f.vars) (s := List.replicate f.count none)
      (env := fun row e => ∃ y3 y4 : Option W, e = [some (.d fd), some (.d (.tuple (ws.map wD))), some (.l (row.map wD)), y3, y4, none])
      (P := fun row => row.length = f.count) ⟨none, none, rfl⟩ (by simp) (fun v row e hv hr he => by
        obtain ⟨y3, y4, rfl⟩ := he
        refine ⟨by rw [wStep_len]; exact hr, _, rfl, ?_⟩
        exact (round_step C h16 ws row v (fun s hs => by rw [hf.len]; exact hf.slots v hv s hs) (by rw [hr]; exact hf.plug v hv) _ _ _).mono fun o e1 ⟨h1, h2⟩ => ⟨.inl h1, h2⟩)
    rw [hfor]
    walk_at "ev"
    exact ⟨by trivial, by trivial⟩
  obtain ⟨w, o, h, rfl, rfl⟩ := run
  exact h
/-! ### given weights -/
def p60 : Int := 10 ^ 60
def p39 : Int := 10 ^ 39
def p30 : Int := 10 ^ 30
def bigI : Int := 10 ^ 99
def bigJ : Int := 10 ^ 90
theorem fPow60 : fPow (.int 10) (.int 60) = some (.d (.int p60)) := by
  rw [fPow_p (by decide)]; rfl
theorem fPow39 : fPow (.int 10) (.int 39) = some (.d (.int p39)) := by
  rw [fPow_p (by decide)]; rfl
theorem fPow30 : fPow (.int 10) (.int 30) = some (.d (.int p30)) := by
  rw [fPow_p (by decide)]; rfl
theorem fMulB : fMul (.int p60) (.int p39) = some (.d (.int bigI)) := by
  have h : p60 * p39 = bigI := by decide +kernel
  show (if p60.natAbs < 18446744073709551616 ∨ p39.natAbs < 18446744073709551616 ∨ p60.natAbs.log2 + p39.natAbs.log2 < 1000000 then some (W.d (PyData.int (p60 * p39))) else none) = _
  rw [if_pos (Or.inr (Or.inr (by decide +kernel))), h]
theorem fMulC : fMul (.int p60) (.int p30) = some (.d (.int bigJ)) := by
  have h : p60 * p30 = bigJ := by decide +kernel
  show (if p60.natAbs < 18446744073709551616 ∨ p30.natAbs < 18446744073709551616 ∨ p60.natAbs.log2 + p30.natAbs.log2 < 1000000 then some (W.d (PyData.int (p60 * p30))) else none) = _
  rw [if_pos (Or.inr (Or.inr (by decide +kernel))), h]
theorem bigI_ge : 1000000000 ≤ bigI := by unfold bigI; omega
theorem bigJ_le : bigJ ≤ bigI ∧ 0 ≤ bigJ := by unfold bigI bigJ; omega
def Bd (B : Int) (z : Wt) : Prop := ∀ q, z = some q → -B ≤ q.1 ∧ q.1 ≤ B ∧ -B ≤ q.2 ∧ q.2 ≤ B
theorem menuA {mode : Int} (h0 : 0 ≤ mode) (h1 : mode < 4) : ∃ m : Int, atI [PyData.int 4, PyData.int 4, PyData.int 1000000000, PyData.int 10] mode = some (.int m) ∧ m.natAbs < 2 ^ 64 ∧ 0 < m ∧ m ≤ 1000000000 := by
  rcases (show mode = 0 ∨ mode = 1 ∨ mode = 2 ∨ mode = 3 by omega) with rfl | rfl | rfl | rfl
  · exact ⟨4, atI_0, by decide, by decide, by decide⟩
  · exact ⟨4, atI_1, by decide, by decide, by decide⟩
  · exact ⟨1000000000, atI_2, by decide, by decide, by decide⟩
  · exact ⟨10, atI_3, by decide, by decide, by decide⟩
theorem menuB {mode : Int} (h0 : 0 ≤ mode) (h1 : mode < 4) : ∃ m : Int, atI [PyData.int 3, PyData.int 4, PyData.int 1000000000, PyData.int 10] mode = some (.int m) ∧ m.natAbs < 2 ^ 64 ∧ 0 < m ∧ m ≤ 1000000000 := by
  rcases (show mode = 0 ∨ mode = 1 ∨ mode = 2 ∨ mode = 3 by omega) with rfl | rfl | rfl | rfl
  · exact ⟨3, atI_0, by decide, by decide, by decide⟩
  · exact ⟨4, atI_1, by decide, by decide, by decide⟩
  · exact ⟨1000000000, atI_2, by decide, by decide, by decide⟩
  · exact ⟨10, atI_3, by decide, by decide, by decide⟩
theorem menuC {mode : Int} (h0 : 0 ≤ mode) (h1 : mode < 4) : ∃ m : Int, atI [PyData.int 2, PyData.int 4, PyData.int 4, PyData.int 8] mode = some (.int m) ∧ m.natAbs < 2 ^ 64 := by
  rcases (show mode = 0 ∨ mode = 1 ∨ mode = 2 ∨ mode = 3 by omega) with rfl | rfl | rfl | rfl
  · exact ⟨2, atI_0, by decide⟩
  · exact ⟨4, atI_1, by decide⟩
  · exact ⟨4, atI_2, by decide⟩
  · exact ⟨8, atI_3, by decide⟩
theorem menuD {mode b : Int} (h0 : 0 ≤ mode) (h1 : mode < 4) (hb : 0 ≤ b) : ∃ m : Int, atI [PyData.int 0, PyData.int 0, PyData.int 0, PyData.int b] mode = some (.int m) ∧ 0 ≤ m ∧ m ≤ b := by
  rcases (show mode = 0 ∨ mode = 1 ∨ mode = 2 ∨ mode = 3 by omega) with rfl | rfl | rfl | rfl
  · exact ⟨0, atI_0, by omega, by omega⟩
  · exact ⟨0, atI_1, by omega, by omega⟩
  · exact ⟨0, atI_2, by omega, by omega⟩
  · exact ⟨b, atI_3, by omega, by omega⟩
theorem given_ok (C : Orc) (hD : DrawS C) {t : List D} (ht : TapeOk t) (f : Fam) (fd : D) (hfd : fd = .tuple [natD f.count, .tuple (f.roots.map natD), .tuple (f.vars.map Var.dat)]) (hz : f.count ≤ 1000) :
    ∃ (ws : List Wt) (t' : List D), F22 C [.l t, .d fd] = .ok (.d (.tuple (ws.map wD))) [t'] ∧ TapeOk t' ∧ ws.length = f.count ∧ ∀ z ∈ ws, Bd (bigI + 1000000000) z := by
  have run : WpC (F22 C [.l t, .d fd]) fun w o => ∃ (ws : List Wt) (t' : List D), w = .d (.tuple (ws.map wD)) ∧ o = [t'] ∧ TapeOk t' ∧ ws.length = f.count ∧ ∀ z ∈ ws, Bd (bigI + 1000000000) z := by
    refine wpC_run (m := M22 C) rfl rfl ?_
    simp only [List.map_cons, List.map_nil, List.cons_append, List.nil_append, List.replicate]
    unfold M22
    obtain ⟨c, hc, hc0, hcn⟩ : ∃ c : Int, natD f.count = .int c ∧ 0 ≤ c ∧ c.toNat = f.count := ⟨f.count, rfl, by omega, by simp⟩
    have e0 : fIx fd (.int 0) = some (.d (.int c)) := by rw [← hc]; subst hfd; rfl
    walk_at "ev"
    obtain ⟨mode, t1, h1, ht1, hm0, hm1⟩ := hD t ht 4 (by decide)
    rw [h1]
    walk_at "ev"
    rw [e0]
    walk_at "ev"
    rw [if_pos (by omega)]
    walk_at "ev"
    obtain ⟨e', hfor, t2, ws, x4, x5, x6, rfl, ht2, hl, hb⟩ := forR_inv (tg := tgN 4) (b := M22b0 C) (lo := 0) (n := c.toNat)
      (e := [some (.l t1), some (.d fd), some (.l []), some (.d (.int mode)), none, none, none])
      (fun i e => ∃ (t' : List D) (ws : List Wt) (x4 x5 x6 : Option W), e = [some (.l t'), some (.d fd), some (.l (ws.map wD)), some (.d (.int mode)), x4, x5, x6] ∧ TapeOk t' ∧ ws.length = i ∧ ∀ z ∈ ws, Bd (bigI + 1000000000) z)
      ⟨t1, [], none, none, none, rfl, ht1, rfl, fun z h => by cases h⟩ (fun i e hi hI => by
        obtain ⟨t', ws, x4, x5, x6, rfl, ht', hl, hb⟩ := hI
        refine ⟨_, rfl, ?_⟩
        have hg := bigI_ge
        have hj := bigJ_le
        obtain ⟨mA, hA, hA1, hA2, hA3⟩ := menuA hm0 (show mode < 4 by omega)
        obtain ⟨mB, hB, hB1, hB2, hB3⟩ := menuB hm0 (show mode < 4 by omega)
        obtain ⟨mC, hC, hC1⟩ := menuC hm0 (show mode < 4 by omega)
        obtain ⟨mE, hE, hE1, hE2⟩ := menuD (b := bigI) hm0 (show mode < 4 by omega) (by omega)
        obtain ⟨mF, hF, hF1, hF2⟩ := menuD (b := bigJ) hm0 (show mode < 4 by omega) (by omega)
        obtain ⟨k1, u1, g1, hu1, hk10, hk11⟩ := hD t' ht' mA (log_small hA1)
        obtain ⟨k2, u2, g2, hu2, hk20, hk21⟩ := hD u1 hu1 mB (log_small hB1)
        obtain ⟨k3, u3, g3, hu3, _, _⟩ := hD u2 hu2 mC (log_small hC1)
        unfold M22b0
        walk_at "ev"
        rw [hA]
        walk_at "ev"
        rw [g1]
        walk_at "ev"
        rw [fPow60]
        walk_at "ev"
        rw [fPow39]
        walk_at "ev"
        rw [fMulB]
        walk_at "ev"
        rw [hE]
        walk_at "ev"
        rw [hB]
        walk_at "ev"
        rw [g2]
        walk_at "ev"
        rw [fPow60]
        walk_at "ev"
        rw [fPow30]
        walk_at "ev"
        rw [fMulC]
        walk_at "ev"
        rw [hF]
        walk_at "ev"
        rw [hC]
        walk_at "ev"
        rw [g3]
        walk_at "ev"
        have happ : ∀ z : Wt, mApp (ws.map wD) [wD z] = some (.d .none, (ws ++ [z]).map wD) := fun z => by
          rw [mApp_s (by rw [List.length_map]; omega)]
          simp
        have hall : ∀ z : Wt, Bd (bigI + 1000000000) z → ∀ y ∈ ws ++ [z], Bd (bigI + 1000000000) y := fun z hz y hy => by
          rcases List.mem_append.mp hy with hy | hy
          · exact hb y hy
          · simp at hy
            rw [hy]; exact hz
        cases k3 == 0 with
        | true =>
          walk_at "ev"
          rw [show PyData.none = wD none from rfl, happ]
          walk_at "ev"
          exact ⟨by simp, u3, ws ++ [none], _, _, _, rfl, hu3, by simp [hl], hall _ fun q h => by cases h⟩
        | false =>
          walk_at "ev"
          rw [show PyData.tuple [PyData.int (k1 + mE), PyData.int (k2 + mF)] = wD (some (k1 + mE, k2 + mF)) from rfl, happ]
          walk_at "ev"
          exact ⟨by simp, u3, ws ++ [some (k1 + mE, k2 + mF)], _, _, _, rfl, hu3, by simp [hl], hall _ fun q h => by cases h; exact ⟨by show _ ≤ k1 + mE; omega, by show k1 + mE ≤ _; omega, by show _ ≤ k2 + mF; omega, by show k2 + mF ≤ _; omega⟩⟩)
    rw [hfor]
    walk_at "ev"
    exact ⟨ws, t2, rfl, rfl, ht2, by rw [hl, hcn], hb⟩
  obtain ⟨w, o, h, ws, t', rfl, rfl, h1, h2, h3⟩ := run
  exact ⟨ws, t', h, h1, h2, h3⟩
/-! ### how great the weights grow -/
theorem wsum_bd {ws : List Wt} {B : Int} (hB : 0 ≤ B) (hw : ∀ z ∈ ws, Bd B z) : ∀ (sl : List Nat) (p n P N : Int), -P ≤ p → p ≤ P → -N ≤ n → n ≤ N → ∀ q, wsum ws sl p n = some q →
    -(P + (sl.length : Int) * B) ≤ q.1 ∧ q.1 ≤ P + (sl.length : Int) * B ∧ -(N + (sl.length : Int) * B) ≤ q.2 ∧ q.2 ≤ N + (sl.length : Int) * B
  | [], p, n, P, N, h1, h2, h3, h4, q, h => by
    cases h
    simp
    omega
  | s :: ss, p, n, P, N, h1, h2, h3, h4, q, h => by
    unfold wsum at h
    cases hg : ws.getD s none with
    | none => rw [hg] at h; cases h
    | some r =>
      rw [hg] at h
      have hr : Bd B (some r) := by
        rw [List.getD_eq_getElem?_getD] at hg
        cases hz : ws[s]? with
        | none => rw [hz] at hg; cases hg
        | some y =>
          rw [hz] at hg
          have : y = some r := hg
          rw [← this]
          exact hw y (List.mem_of_getElem? hz)
      obtain ⟨a1, a2, a3, a4⟩ := hr r rfl
      have ih := wsum_bd hB hw ss (p + r.1) (n + r.2) (P + B) (N + B) (by omega) (by omega) (by omega) (by omega) q h
      have e : ((s :: ss).length : Int) * B = (ss.length : Int) * B + B := by
        rw [List.length_cons, show (((ss.length + 1 : Nat)) : Int) = (ss.length : Int) + 1 by simp, Int.add_mul, Int.one_mul]
      rw [e]
      omega
theorem weight_bd {c : Nat} {low B : Int} {v : Var} {ws : List Wt} (hv : v.Ok c low) (hB : 0 ≤ B) (hw : ∀ z ∈ ws, Bd B z) : Bd (3 * B + 1000000000) (weight v ws) := fun q hq => by
  unfold weight at hq
  cases hp : v.price with
  | none => rw [hp] at hq; cases hq
  | some p =>
    rw [hp] at hq
    have hpr := hv.price p hp
    have h := wsum_bd hB hw v.slots p 1 1000000000 1 (by omega) (by omega) (by omega) (by omega) q hq
    have h3 : (v.slots.length : Int) * B ≤ 3 * B := Int.mul_le_mul_of_nonneg_right (by have := hv.len; omega) hB
    omega
theorem wRound_bd {f : Fam} {low B : Int} {ws : List Wt} (hv : ∀ v ∈ f.vars, v.Ok f.count low) (hB : 0 ≤ B) (hw : ∀ z ∈ ws, Bd B z) : (∀ z ∈ wRound f ws, Bd (3 * B + 1000000000) z) ∧ (wRound f ws).length = f.count := by
  have : ∀ (vs : List Var) (row : List Wt), (∀ v ∈ vs, v.Ok f.count low) → (∀ z ∈ row, Bd (3 * B + 1000000000) z) → (∀ z ∈ vs.foldl (wStep ws) row, Bd (3 * B + 1000000000) z) ∧ (vs.foldl (wStep ws) row).length = row.length := by
    intro vs
    induction vs with
    | nil => intro row _ h; exact ⟨h, rfl⟩
    | cons v vs ih =>
      intro row hv hr
      have := ih (wStep ws row v) (fun u hu => hv u (List.mem_cons_of_mem _ hu)) (fun z hz => by
        unfold wStep at hz
        split at hz
        · rcases List.mem_or_eq_of_mem_set hz with h | h
          · exact hr z h
          · rw [h]; exact weight_bd (hv v List.mem_cons_self) hB hw
        · exact hr z hz)
      exact ⟨this.1, this.2.trans wStep_len⟩
  have h := this f.vars (List.replicate f.count none) hv (fun z hz => by
    obtain ⟨_, rfl⟩ := List.mem_replicate.mp hz
    intro i hi; cases hi)
  exact ⟨h.1, h.2.trans (by simp)⟩
theorem Bd.mono {B B' : Int} {z : Wt} (h : Bd B z) (hB : B ≤ B') : Bd B' z := fun q hq => by
  have := h q hq
  omega
theorem nice_big {i : Int} (h1 : -(4 * bigI) ≤ i) (h2 : i ≤ 4 * bigI) : nice (.int i) = true := by
  have hc : 4 * bigI < 2 ^ 1000 := by decide +kernel
  show decide (i.natAbs.log2 < 1000) = true
  refine decide_eq_true ?_
  by_cases h0 : i.natAbs = 0
  · rw [h0]; decide
  · refine (Nat.log2_lt h0).mpr ?_
    have : ((i.natAbs : Nat) : Int) < ((2 ^ 1000 : Nat) : Int) := by
      have e : ((2 ^ 1000 : Nat) : Int) = 2 ^ 1000 := by decide +kernel
      rw [e]
      omega
    exact Int.ofNat_lt.mp this
theorem wD_nice {z : Wt} (h : Bd (4 * bigI) z) : nice (wD z) = true := by
  cases z with
  | none => rfl
  | some q =>
    obtain ⟨a1, a2, a3, a4⟩ := h q rfl
    show (nice (.int q.1) && (nice (.int q.2) && true)) = true
    rw [nice_big a1 a2, nice_big a3 a4]; rfl
theorem wD_nodes : ∀ zs : List Wt, nodesAll (zs.map wD) ≤ 3 * zs.length
  | [] => by simp [nodesAll]
  | z :: zs => by
    have := wD_nodes zs
    simp only [List.map_cons, nodesAll, List.length_cons]
    have hz : nodes (wD z) ≤ 3 := by
      cases z with
      | none => decide
      | some q => exact Nat.le_refl 3
    omega
theorem wD_depth : ∀ zs : List Wt, PyData.depthAll (zs.map wD) ≤ 1
  | [] => by simp [PyData.depthAll]
  | z :: zs => by
    have := wD_depth zs
    have hz : (wD z).depth ≤ 1 := by
      cases z with
      | none => decide
      | some q => simp [wD, PyData.depth, PyData.depthAll]
    simp only [List.map_cons, PyData.depthAll]
    omega
theorem wt_repr {zs : List Wt} (h : ∀ z ∈ zs, Bd (4 * bigI) z) (hl : zs.length ≤ 1000) : bRepr [.tuple (zs.map wD)] = some (.d (.str (PyData.tuple (zs.map wD)).shown)) := by
  refine bRepr_nice ?_ ?_ ?_
  · exact niceAll_iff.mpr fun x hx => by
      obtain ⟨z, hz, rfl⟩ := List.mem_map.mp hx
      exact wD_nice (h z hz)
  · have := wD_nodes zs
    simp only [nodes]; omega
  · have := wD_depth zs
    simp only [PyData.depth]; omega
theorem famDat (f : Fam) : f.dat = .tuple [natD f.count, .tuple (f.roots.map natD), .tuple (f.vars.map Var.dat)] := rfl
/-! ### the law -/
theorem law_ok (C : Orc) (hD : DrawS C) (hT : ∀ ns : List Int, ∃ t, C 4 [.d (.list (ns.map PyData.int))] = .ok (.l t) [] ∧ TapeOk t)
    (hF : ∀ t, TapeOk t → ∃ (f : Fam) (t' : List D), C 20 [.l t] = .ok (.d f.dat) [t'] ∧ TapeOk t' ∧ f.Ok 40 100 0)
    (hP : ∀ t, TapeOk t → ∀ (f : Fam) (fd : D), fd = f.dat → f.Ok 40 100 0 → ∃ (g : Fam) (t' : List D), C 17 [.l t, .d fd, .d (.int 0)] = .ok (.d g.dat) [t'] ∧ TapeOk t' ∧ g.Ok 40 100 0 ∧ g.count = f.count)
    (hG : ∀ t, TapeOk t → ∀ (f : Fam) (fd : D), fd = f.dat → f.count ≤ 1000 → ∃ (ws : List Wt) (t' : List D), C 22 [.l t, .d fd] = .ok (.d (.tuple (ws.map wD))) [t'] ∧ TapeOk t' ∧ ws.length = f.count ∧ ∀ z ∈ ws, Bd (bigI + 1000000000) z)
    (hR : ∀ (f : Fam) (fd : D) (ws : List Wt), fd = f.dat → WtFor f ws → C 15 [.d fd, .d (.tuple (ws.map wD))] = .ok (.d (.tuple ((wRound f ws).map wD))) [])
    (hL : ∀ (f : Fam) (fd : D) (ws : List Wt), fd = f.dat → WtFor f ws → C 21 [.d fd, .d (.tuple (ws.map wD))] = .ok (.d (.tuple ((wRound f ws).map wD))) [])
    (ns : List Int) : F23 C [.d (.list (ns.map PyData.int))] = .ok (.d (.bool true)) [] := by
  have run : WpC (F23 C [.d (.list (ns.map PyData.int))]) fun w o => w = .d (.bool true) ∧ o = [] := by
    refine wpC_run (m := M23 C) rfl rfl ?_
    simp only [List.map_cons, List.map_nil, List.cons_append, List.nil_append, List.replicate]
    unfold M23
    walk_at "ev"
    obtain ⟨t0, h0, ht0⟩ := hT ns
    rw [h0]
    walk_at "ev"
    obtain ⟨f, t1, h1, ht1, hf⟩ := hF t0 ht0
    generalize hfd : f.dat = fd at h1
    rw [h1]
    walk_at "ev"
    obtain ⟨g, t2, h2, ht2, hg, hgc⟩ := hP t1 ht1 f fd hfd.symm hf
    generalize hgd : g.dat = gd at h2
    rw [h2]
    walk_at "ev"
    have cf := hf.count
    obtain ⟨ws, t3, h3, ht3, hwl, hwb⟩ := hG t2 ht2 f fd hfd.symm (by omega)
    rw [h3]
    walk_at "ev"
    obtain ⟨c, hc, hc0, hcn⟩ : ∃ c : Int, natD f.count = .int c ∧ 0 ≤ c ∧ c.toNat = f.count := ⟨f.count, rfl, by omega, by simp⟩
    have e0 : fIx fd (.int 0) = some (.d (.int c)) := by rw [← hc, ← hfd]; rfl
    rw [e0]
    walk_at "ev"
    rw [if_pos (by omega)]
    walk_at "ev"
    rw [if_pos (by rw [rng_len]; omega)]
    obtain ⟨ds, e3, hcm, rfl, rfl⟩ := cmpR_inv (tg := tgN 7) (tt := mYes) (te := eC .none) (vs := [7]) (lo := 0) (n := c.toNat)
        (e := [some (.d (.list (ns.map PyData.int))), some (.l t3), some (.d fd), some (.d gd), none, none, none, none])
        (fun i acc e => acc = (List.replicate i (none : Wt)).map wD ∧ e = [some (.d (.list (ns.map PyData.int))), some (.l t3), some (.d fd), some (.d gd), none, none, none, none])
        ⟨rfl, rfl⟩ (fun i acc e hi hI => by
          obtain ⟨rfl, rfl⟩ := hI
          refine ⟨_, rfl, ?_⟩
          walk_at "ev"
          refine .inr ⟨by trivial, ?_⟩
          exact ⟨by simp [List.replicate_succ']; rfl, by trivial⟩)
    rw [hcm]
    walk_at "ev"
    obtain ⟨k, t4, h4, ht4, hk0, hk1⟩ := hD t3 ht3 7 (by decide)
    rw [h4]
    walk_at "ev"
    rw [if_pos (by omega)]
    walk_at "ev"
    have wf : ∀ {us : List Wt}, us.length = f.count → WtFor f us := fun h => ⟨h, fun v hv => (hf.vars v hv).plug, fun v hv => (hf.vars v hv).slots, by omega⟩
    have wg : ∀ {us : List Wt}, us.length = f.count → WtFor g us := fun h => ⟨h.trans hgc.symm, fun v hv => (hg.vars v hv).plug, fun v hv => (hg.vars v hv).slots, by omega⟩
    have hbig : 1000000000000000 ≤ bigI := by unfold bigI; omega
    -- the rounds
    obtain ⟨e', hfor, us, x5, rfl, hul, hub⟩ := forR_inv (tg := tgN 5) (b := M23b0 C) (lo := 0) (n := k.toNat)
      (e := [some (.d (.list (ns.map PyData.int))), some (.l t4), some (.d fd), some (.d gd), some (.l [.tuple (ws.map wD), .tuple ((List.replicate c.toNat (none : Wt)).map wD)]), none, none, none])
      (fun i e => ∃ (us : List Wt) (x5 : Option W), e = [some (.d (.list (ns.map PyData.int))), some (.l t4), some (.d fd), some (.d gd), some (.l [.tuple (ws.map wD), .tuple (us.map wD)]), x5, none, none] ∧ us.length = f.count ∧ ∀ z ∈ us, Bd (1000000000 * 4 ^ i) z)
      ⟨List.replicate c.toNat none, none, rfl, by simp [hcn], fun z hz => by
        obtain ⟨_, rfl⟩ := List.mem_replicate.mp hz
        intro q hq; cases hq⟩ (fun i e hi hI => by
        obtain ⟨us, x5, rfl, hul, hub⟩ := hI
        refine ⟨_, rfl, ?_⟩
        unfold M23b0
        walk_at "ev"
        rw [hL f fd us hfd.symm (wf hul)]
        walk_at "ev"
        have hp : (0 : Int) < 4 ^ i := Int.pow_pos (by decide)
        have b := wRound_bd (ws := us) hf.vars (show (0 : Int) ≤ 1000000000 * 4 ^ i by omega) hub
        rw [show ixN 2 1 = some 1 from rfl]
        walk_at "ev"
        refine ⟨by simp, wRound f us, _, rfl, b.2, fun z hz => (b.1 z hz).mono ?_⟩
        rw [Int.pow_succ]
        omega)
    rw [hfor]
    walk_at "ev"
    have hu : ∀ z ∈ us, Bd (bigI + 1000000000) z := fun z hz => (hub z hz).mono (by
      have : (4 : Int) ^ k.toNat ≤ 4 ^ 7 := by
        have : (4 : Nat) ^ k.toNat ≤ 4 ^ 7 := Nat.pow_le_pow_right (by decide) (by omega)
        exact_mod_cast this
      omega)
    -- what is told is what is due
    have same : ∀ (F : Fam) (FD : D), (F = f ∧ FD = fd) ∨ (F = g ∧ FD = gd) → ∀ vs : List Wt, vs = ws ∨ vs = us → ∃ s : Str, C 15 [.d FD, .d (.tuple (vs.map wD))] = .ok (.d (.tuple ((wRound F vs).map wD))) [] ∧ C 21 [.d FD, .d (.tuple (vs.map wD))] = .ok (.d (.tuple ((wRound F vs).map wD))) [] ∧ bRepr [.tuple ((wRound F vs).map wD)] = some (.d (.str s)) := fun F FD hF2 vs hvs => by
      have hvl : vs.length = f.count := by rcases hvs with rfl | rfl <;> assumption
      have hvb : ∀ z ∈ vs, Bd (bigI + 1000000000) z := by rcases hvs with rfl | rfl <;> assumption
      have hok : F.Ok 40 100 0 ∧ FD = F.dat ∧ WtFor F vs := by
        rcases hF2 with ⟨rfl, rfl⟩ | ⟨rfl, rfl⟩
        · exact ⟨hf, hfd.symm, wf hvl⟩
        · exact ⟨hg, hgd.symm, wg hvl⟩
      have b := wRound_bd (ws := vs) hok.1.vars (show (0 : Int) ≤ bigI + 1000000000 by omega) hvb
      have hc2 := hok.1.count
      exact ⟨_, hR F FD vs hok.2.1 hok.2.2, hL F FD vs hok.2.1 hok.2.2, wt_repr (fun z hz => (b.1 z hz).mono (by omega)) (by omega)⟩
    rw [if_pos (by decide)]
    walk_at "ev"
    obtain ⟨e', hfor, x5, x6, rfl⟩ := forR_inv (tg := tgN 5) (b := M23b1 C) (lo := 0) (n := 4)
      (e := [some (.d (.list (ns.map PyData.int))), some (.l t4), some (.d fd), some (.d gd), some (.l [.tuple (ws.map wD), .tuple (us.map wD)]), x5, none, none])
      (fun i e => ∃ (x5 x6 : Option W), e = [some (.d (.list (ns.map PyData.int))), some (.l t4), some (.d fd), some (.d gd), some (.l [.tuple (ws.map wD), .tuple (us.map wD)]), x5, x6, none])
      ⟨_, _, rfl⟩ (fun i e hi hI => by
        obtain ⟨x5, x6, rfl⟩ := hI
        refine ⟨_, rfl, ?_⟩
        obtain ⟨F, FD, hFD, hF1⟩ : ∃ (F : Fam) (FD : D), ((F = f ∧ FD = fd) ∨ (F = g ∧ FD = gd)) ∧ atI [fd, gd] ((0 + (i : Int)) / 2) = some FD := by
          rcases (show i = 0 ∨ i = 1 ∨ i = 2 ∨ i = 3 by omega) with rfl | rfl | rfl | rfl
          · exact ⟨f, fd, .inl ⟨rfl, rfl⟩, rfl⟩
          · exact ⟨f, fd, .inl ⟨rfl, rfl⟩, rfl⟩
          · exact ⟨g, gd, .inr ⟨rfl, rfl⟩, rfl⟩
          · exact ⟨g, gd, .inr ⟨rfl, rfl⟩, rfl⟩
        obtain ⟨vs, hvs, hv1⟩ : ∃ vs : List Wt, (vs = ws ∨ vs = us) ∧ atI [PyData.tuple (ws.map wD), PyData.tuple (us.map wD)] ((0 + (i : Int)) % 2) = some (PyData.tuple (vs.map wD)) := by
          rcases (show i = 0 ∨ i = 1 ∨ i = 2 ∨ i = 3 by omega) with rfl | rfl | rfl | rfl
          · exact ⟨ws, .inl rfl, rfl⟩
          · exact ⟨us, .inr rfl, rfl⟩
          · exact ⟨ws, .inl rfl, rfl⟩
          · exact ⟨us, .inr rfl, rfl⟩
        obtain ⟨s, q1, q2, q3⟩ := same F FD hFD vs hvs
        unfold M23b1
        walk_at "ev"
        rw [fDiv_p (by decide) (by decide)]
        walk_at "ev"
        rw [hF1]
        walk_at "ev"
        rw [hv1]
        walk_at "ev"
        rw [q1]
        walk_at "ev"
        rw [q3]
        walk_at "ev"
        rw [hv1]
        walk_at "ev"
        rw [q2]
        walk_at "ev"
        rw [q3]
        walk_at "ev"
        rw [beq_self_eq_true]
        walk_at "ev"
        exact ⟨by simp, _, _, rfl⟩)
    rw [hfor]
    walk_at "ev"
    obtain ⟨s, q1, q2, q3⟩ := same f fd (.inl ⟨rfl, rfl⟩) ws (.inl rfl)
    rw [q1]
    walk_at "ev"
    rw [q3]
    walk_at "ev"
    rw [q2]
    walk_at "ev"
    rw [q3]
    walk_at "ev"
    rw [beq_self_eq_true]
    exact ⟨by trivial, by trivial⟩
  obtain ⟨w, o, h, rfl, rfl⟩ := run
  exact h
end Mi
namespace L25
open Mi PySem L2
theorem dr (n : Nat) : DrawS (callN (n + 1)) := fun _ ht m hm => draw_ok (callN n) ht m hm
theorem pr (n : Nat) : PriceS (callN (n + 2)) := fun _ ht a b h1 h2 => price_ok (callN (n + 1)) (dr n) ht a b h1 h2
theorem tp (n : Nat) (ns : List Int) : ∃ t, callN (n + 1) 4 [.d (.list (ns.map PyData.int))] = .ok (.l t) [] ∧ TapeOk t := tape_ok (callN n) ns
theorem fm (n : Nat) (t : List D) (ht : TapeOk t) : ∃ (f : Fam) (t' : List D), callN (n + 3) 7 [.l t, .d (natD 6), .d (natD 10), .d (.int 0)] = .ok (.d f.dat) [t'] ∧ TapeOk t' ∧ f.Ok 6 10 0 :=
  family_ok (callN (n + 2)) (dr (n + 1)) (pr n) ht 6 10 0 (by decide) (by decide) (by decide)
theorem tw (n : Nat) (t : List D) (ht : TapeOk t) : ∃ (f : Fam) (t' : List D), callN (n + 2) 18 [.l t] = .ok (.d f.dat) [t'] ∧ TapeOk t' ∧ f.Ok 40 100 0 := tower_ok (callN (n + 1)) (dr n) ht
theorem tl (n : Nat) (t : List D) (ht : TapeOk t) : ∃ (f : Fam) (t' : List D), callN (n + 2) 19 [.l t] = .ok (.d f.dat) [t'] ∧ TapeOk t' ∧ f.Ok 40 100 0 := tall_ok (callN (n + 1)) (dr n) ht
theorem af (n : Nat) (t : List D) (ht : TapeOk t) : ∃ (f : Fam) (t' : List D), callN (n + 4) 20 [.l t] = .ok (.d f.dat) [t'] ∧ TapeOk t' ∧ f.Ok 40 100 0 :=
  any_family_ok (callN (n + 3)) (dr (n + 2)) (tw (n + 1)) (tl (n + 1)) (fm n) ht
theorem q17 (n : Nat) : callN (n + 1) 17 = F17 (callN n) := rfl
theorem q22 (n : Nat) : callN (n + 1) 22 = F22 (callN n) := rfl
theorem q15 (n : Nat) : callN (n + 1) 15 = F15 (callN n) := rfl
theorem q21 (n : Nat) : callN (n + 1) 21 = F21 (callN n) := rfl
theorem q14 (n : Nat) : callN (n + 1) 14 = F14 (callN n) := rfl
theorem q16 (n : Nat) : callN (n + 1) 16 = F16 (callN n) := rfl
theorem rp (n : Nat) (t : List D) (ht : TapeOk t) (f : Fam) (fd : D) (h : fd = f.dat) (hf : f.Ok 40 100 0) : ∃ (g : Fam) (t' : List D), callN (n + 2) 17 [.l t, .d fd, .d (.int 0)] = .ok (.d g.dat) [t'] ∧ TapeOk t' ∧ g.Ok 40 100 0 ∧ g.count = f.count := by
  rw [q17]
  exact repriced_ok (callN (n + 1)) (dr n) ht f fd (h.trans (famDat f)) 0 hf (by have := hf.len; omega)
theorem gv (n : Nat) (t : List D) (ht : TapeOk t) (f : Fam) (fd : D) (h : fd = f.dat) (hz : f.count ≤ 1000) : ∃ (ws : List Wt) (t' : List D), callN (n + 2) 22 [.l t, .d fd] = .ok (.d (.tuple (ws.map wD))) [t'] ∧ TapeOk t' ∧ ws.length = f.count ∧ ∀ z ∈ ws, Bd (bigI + 1000000000) z := by
  rw [q22]
  exact given_ok (callN (n + 1)) (dr n) ht f fd (h.trans (famDat f)) hz
theorem wo (n : Nat) (v : Var) (ws : List Wt) (h : ∀ s ∈ v.slots, s < ws.length) : callN (n + 1) 14 [.d v.dat, .d (.tuple (ws.map wD))] = .ok (.d (wD (weight v ws))) [] := by
  rw [q14]
  exact weight_of_ok (callN n) v ws h v.dat rfl
theorem lw (n : Nat) (v : Var) (ws : List Wt) (h : ∀ s ∈ v.slots, s < ws.length) : callN (n + 1) 16 [.d v.dat, .d (.tuple (ws.map wD))] = .ok (.d (wD (weight v ws))) [] := by
  rw [q16]
  exact law_weight_ok (callN n) v ws h v.dat rfl
theorem lr (n : Nat) (f : Fam) (fd : D) (ws : List Wt) (h : fd = f.dat) (hw : WtFor f ws) : callN (n + 2) 15 [.d fd, .d (.tuple (ws.map wD))] = .ok (.d (.tuple ((wRound f ws).map wD))) [] := by
  rw [q15]
  exact least_round_ok (callN (n + 1)) (wo n) f fd (h.trans (famDat f)) ws hw
theorem ro (n : Nat) (f : Fam) (fd : D) (ws : List Wt) (h : fd = f.dat) (hw : WtFor f ws) : callN (n + 2) 21 [.d fd, .d (.tuple (ws.map wD))] = .ok (.d (.tuple ((wRound f ws).map wD))) [] := by
  rw [q21]
  exact rounded_ok (callN (n + 1)) (lw n) f fd (h.trans (famDat f)) ws hw
theorem math_n (n : Nat) (ns : List Int) : callN (n + 5) 23 [.d (.list (ns.map .int))] = .ok (.d (.bool true)) [] :=
  law_ok (callN (n + 4)) (dr (n + 3)) (tp (n + 3)) (af n) (rp (n + 2)) (gv (n + 2)) (lr (n + 2)) (ro (n + 2)) ns
theorem math : ∀ ns : List Int, ns.length ≤ 63 → callN 12 23 [.d (.list (ns.map .int))] = .ok (.d (.bool true)) [] := fun ns _ => math_n 7 ns
end L25
open PySem PySem.W PySem.Calls PyProof.Rows
set_option maxRecDepth 100000 in
set_option maxHeartbeats 0 in
theorem PySem.Challenge.cw_slotwise_k25_one_round_holds : PySem.Challenge.rw_slotwise_k25_one_round.Holds := by
  w_on; o_law
  refine HandSHeadRun.head_any (r := OpenLaw.row PySem.Challenge.rw_slotwise_k25_one_round) (q := view (OpenLaw.row PySem.Challenge.rw_slotwise_k25_one_round).prog [15]) (H := L25.hk) (ob := L25.ob) (M := 600) (loose := L25.names) (d := HandSHeadRun.topDef (OpenLaw.row PySem.Challenge.rw_slotwise_k25_one_round).prog 15) (kwd := []) L25.ob_eq
    (by kernel_rfl) (fun s => by kernel_rfl) L25.run (by kernel_rfl) (by kernel_rfl) (by kernel_rfl) (by rfl) (by first | assumption | decide +kernel) (by decide +kernel) ⟨rfl, rfl, rfl, rfl, rfl, by decide +kernel⟩ ?hw ?hc
  case hw => w_witness2
  case hc =>
    refine Mi.walkG (l := PySem.Challenge.rw_slotwise_k25_one_round) (n := 63) (k := 12) (x := "_law_script") rfl (by decide) (by kernel_rfl) ⟨rfl, by decide, by decide⟩ ?F
    intro w mg fa h Y G hmg0
    obtain ⟨K, KX, c⟩ := Y
    have hd := L25.hd_of KX G c
    obtain ⟨f, fd, hm, F⟩ := hd.d23
    have hmg : mg ("law" : PySem.Str) = some (.ref fa) := by
      have e : (HandSHeadRun.topDef (OpenLaw.row PySem.Challenge.rw_slotwise_k25_one_round).prog 15).name = ("law" : PySem.Str) := by kernel_rfl
      rw [← e]
      exact hmg0
    have e := hm.symm.trans hmg
    cases e
    have b := L2.FunD.bindsA (ps := L25.ps_law) F fun _ _ _ _ _ _ us hl => match us, hl with | [_], _ => rfl
    exact ⟨K, fd, L25.callN 12 23, KX, fun s v => b s [v] rfl, L25.math, fun base _ _ => Mi.lawF F L25.sc_law rfl rfl rfl fun cdv A outer s H o => L25.s_law (L25.cals hd 11) o⟩
