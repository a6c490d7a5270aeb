import PyProof.Rows.All
import Wide.All
import OpenK.AllK
import Wide.FinOn
import HandS.ForMost
import HandS.Wide
import HandS.Defaults
import HandS.Deep
import HandS.IsInst
import HandS.Head0
import HandS.Head1
import HandS.Head2
import HandS.HeadEnd
import HandS.HeadHook1
import HandS.HeadHook2
import HandS.More
import KE.DataCmp
import HandS.TupMul
import KE.GoesEnum
import HandS.TupAny
import HandS.Style
import HandS.Rev
import HandS.Zip
import HandS.RevRange
import HandS.Conv
import HandS.Flow
import HandS.ExcValue
import KE.KDictItemsList
import PySem.Challenge.RW_slotwise_k53_price_range
set_option Elab.async false
set_option linter.all false
set_option maxRecDepth 100000
set_option maxHeartbeats 4000000
/-! Mi1: data trees in the abstract heap, owned trees, the relation between values and mirrors -/
namespace Mi
open PySem PySem.Spec PyProof.Rows L2

abbrev D := PyData
abbrev KK := PySem.W.Frag

/-- a key as data -/
def kD : Key → D
  | .inl i => .int i
  | .inr x => .str x
/-- the keys and the values of a dict, the attributes of an instance, at an address -/
inductive Mp : HO → List D → List V → Prop
  | dK (kvs : List (Key × V)) : Mp (.dK kvs) (kvs.map fun p => kD p.1) (kvs.map (·.2))
  | dT (kvs : List (List Key × V)) : Mp (.dT kvs) (kvs.map fun p => .tuple (p.1.map kD)) (kvs.map (·.2))
/-- a dict that stands still, or an instance -/
def MpAt (H : Hp) (a : Addr) (ks : List D) (vs : List V) : Prop :=
  (∃ u, Rd H a u ∧ Mp u ks vs) ∨ ∃ c dx fs, H a = some (.ins c dx fs) ∧ ks = .none :: fs.map (fun p => .str p.1) ∧ vs = .int (c : Int) :: fs.map (·.2)
mutual
/-- the value v bears the data tree; O: addresses that may still change -/
def Dat (K : KK) (H : Hp) (O : List Addr) : D → V → Prop
  | .none, v => v = .non
  | .bool b, v => v = .bl b
  | .int i, v => v = .int i
  | .str x, v => v = .str x
  | .list ds, v => ∃ a vs, v = .ref a ∧ SqL K H a vs ∧ a ∉ O ∧ Dats K H O ds vs
  | .tuple ds, v => ∃ a vs, v = .ref a ∧ SqT K H a vs ∧ a ∉ O ∧ Dats K H O ds vs
  | .dict kvs, v => ∃ a vs, v = .ref a ∧ MpAt H a (kvs.map (·.1)) vs ∧ a ∉ O ∧ Datk K H O kvs vs
def Dats (K : KK) (H : Hp) (O : List Addr) : List D → List V → Prop
  | [], vs => vs = []
  | d :: ds, vs => ∃ v r, vs = v :: r ∧ Dat K H O d v ∧ Dats K H O ds r
def Datk (K : KK) (H : Hp) (O : List Addr) : List (D × D) → List V → Prop
  | [], vs => vs = []
  | (_, d) :: ds, vs => ∃ v r, vs = v :: r ∧ Dat K H O d v ∧ Datk K H O ds r
end

/-- written objects are not tracked -/
def Good (K : KK) (H : Hp) : Prop := ∀ a o, K.lookup a = some o → H a = none

section
variable {K : KK} {H H' : Hp} {O O' : List Addr}
mutual
theorem Dat.mono (hL : ∀ a vs, a ∉ O → SqL K H a vs → SqL K H' a vs ∧ a ∉ O') (hT : ∀ a vs, a ∉ O → SqT K H a vs → SqT K H' a vs ∧ a ∉ O') (hD : ∀ a ks vs, a ∉ O → MpAt H a ks vs → MpAt H' a ks vs ∧ a ∉ O') :
    ∀ (d : D) (v : V), Dat K H O d v → Dat K H' O' d v
  | .none, _, h => by simpa [Dat] using h
  | .bool _, _, h => by simpa [Dat] using h
  | .int _, _, h => by simpa [Dat] using h
  | .str _, _, h => by simpa [Dat] using h
  | .list ds, v, h => by
    simp only [Dat] at h ⊢
    obtain ⟨a, vs, e, h1, h2, h3⟩ := h
    exact ⟨a, vs, e, (hL a vs h2 h1).1, (hL a vs h2 h1).2, Dats.mono hL hT hD ds vs h3⟩
  | .tuple ds, v, h => by
    simp only [Dat] at h ⊢
    obtain ⟨a, vs, e, h1, h2, h3⟩ := h
    exact ⟨a, vs, e, (hT a vs h2 h1).1, (hT a vs h2 h1).2, Dats.mono hL hT hD ds vs h3⟩
  | .dict kvs, v, h => by
    simp only [Dat] at h ⊢
    obtain ⟨a, vs, e, h1, h2, h3⟩ := h
    exact ⟨a, vs, e, (hD a _ vs h2 h1).1, (hD a _ vs h2 h1).2, Datk.mono hL hT hD kvs vs h3⟩
theorem Dats.mono (hL : ∀ a vs, a ∉ O → SqL K H a vs → SqL K H' a vs ∧ a ∉ O') (hT : ∀ a vs, a ∉ O → SqT K H a vs → SqT K H' a vs ∧ a ∉ O') (hD : ∀ a ks vs, a ∉ O → MpAt H a ks vs → MpAt H' a ks vs ∧ a ∉ O') :
    ∀ (ds : List D) (vs : List V), Dats K H O ds vs → Dats K H' O' ds vs
  | [], _, h => by simpa [Dats] using h
  | d :: ds, vs, h => by
    simp only [Dats] at h ⊢
    obtain ⟨v, r, e, h1, h2⟩ := h
    exact ⟨v, r, e, Dat.mono hL hT hD d v h1, Dats.mono hL hT hD ds r h2⟩
theorem Datk.mono (hL : ∀ a vs, a ∉ O → SqL K H a vs → SqL K H' a vs ∧ a ∉ O') (hT : ∀ a vs, a ∉ O → SqT K H a vs → SqT K H' a vs ∧ a ∉ O') (hD : ∀ a ks vs, a ∉ O → MpAt H a ks vs → MpAt H' a ks vs ∧ a ∉ O') :
    ∀ (ds : List (D × D)) (vs : List V), Datk K H O ds vs → Datk K H' O' ds vs
  | [], _, h => by simpa [Datk] using h
  | (k, d) :: ds, vs, h => by
    simp only [Datk] at h ⊢
    obtain ⟨v, r, e, h1, h2⟩ := h
    exact ⟨v, r, e, Dat.mono hL hT hD d v h1, Datk.mono hL hT hD ds r h2⟩
end

theorem Rd.to {a : Addr} {u : HO} (e : ∀ o, H a = some o → H' a = some o) (h : Rd H a u) : Rd H' a u := by
  rcases h with h | ⟨o, h⟩
  · exact .inl (e _ h)
  · exact .inr ⟨o, e _ h⟩
theorem sqL_to {a : Addr} {vs : List V} (e : ∀ o, H a = some o → H' a = some o) (h : SqL K H a vs) : SqL K H' a vs := by
  rcases h with h | h
  · exact .inl (Rd.to e h)
  · exact .inr h
theorem sqT_to {a : Addr} {vs : List V} (e : ∀ o, H a = some o → H' a = some o) (h : SqT K H a vs) : SqT K H' a vs := by
  rcases h with h | h
  · exact .inl (Rd.to e h)
  · exact .inr h
theorem mpAt_to {a : Addr} {ks : List D} {vs : List V} (e : ∀ o, H a = some o → H' a = some o) (h : MpAt H a ks vs) : MpAt H' a ks vs := by
  rcases h with ⟨u, h, m⟩ | ⟨c, dx, fs, h, m⟩
  · exact .inl ⟨u, Rd.to e h, m⟩
  · exact .inr ⟨c, dx, fs, e _ h, m⟩
/-- the heap beyond O is kept, O does not grow -/
theorem Dat.to (e : ∀ a o, a ∉ O → H a = some o → H' a = some o) (s : ∀ a, a ∈ O' → a ∈ O) (d : D) (v : V) (h : Dat K H O d v) : Dat K H' O' d v :=
  Dat.mono (fun a vs n q => ⟨sqL_to (fun o z => e a o n z) q, fun z => n (s a z)⟩) (fun a vs n q => ⟨sqT_to (fun o z => e a o n z) q, fun z => n (s a z)⟩) (fun a ks vs n q => ⟨mpAt_to (fun o z => e a o n z) q, fun z => n (s a z)⟩) d v h
theorem Dats.to (e : ∀ a o, a ∉ O → H a = some o → H' a = some o) (s : ∀ a, a ∈ O' → a ∈ O) (d : List D) (v : List V) (h : Dats K H O d v) : Dats K H' O' d v :=
  Dats.mono (fun a vs n q => ⟨sqL_to (fun o z => e a o n z) q, fun z => n (s a z)⟩) (fun a vs n q => ⟨sqT_to (fun o z => e a o n z) q, fun z => n (s a z)⟩) (fun a ks vs n q => ⟨mpAt_to (fun o z => e a o n z) q, fun z => n (s a z)⟩) d v h
theorem sqL_ne {a p : Addr} {vs : List V} (hp : H p = none) (hk : K.lookup p = none) (h : SqL K H a vs) : a ≠ p := by
  rintro rfl
  rcases h with (h | ⟨o, h⟩) | ⟨o, _, _, h, _⟩
  · rw [hp] at h; cases h
  · rw [hp] at h; cases h
  · rw [hk] at h; cases h
theorem sqT_ne {a p : Addr} {vs : List V} (hp : H p = none) (hk : K.lookup p = none) (h : SqT K H a vs) : a ≠ p := by
  rintro rfl
  rcases h with (h | ⟨o, h⟩) | ⟨o, _, _, h, _⟩
  · rw [hp] at h; cases h
  · rw [hp] at h; cases h
  · rw [hk] at h; cases h
theorem mpAt_ne {a p : Addr} {ks : List D} {vs : List V} (hp : H p = none) (h : MpAt H a ks vs) : a ≠ p := by
  rintro rfl
  rcases h with ⟨u, h | ⟨o, h⟩, m⟩ | ⟨c, dx, fs, h, m⟩ <;> rw [hp] at h <;> cases h
/-- a new object p is laid, p may be owned -/
theorem Dat.new {p : Addr} {u : HO} (hp : H p = none) (hk : K.lookup p = none) (d : D) (v : V) (h : Dat K H O d v) : Dat K (upd H p u) (p :: O) d v :=
  Dat.mono (fun a vs n q => ⟨sqL_to (fun o z => by rw [upd_ne (sqL_ne hp hk q)]; exact z) q, fun z => (List.mem_cons.mp z).elim (sqL_ne hp hk q) n⟩)
    (fun a vs n q => ⟨sqT_to (fun o z => by rw [upd_ne (sqT_ne hp hk q)]; exact z) q, fun z => (List.mem_cons.mp z).elim (sqT_ne hp hk q) n⟩)
    (fun a ks vs n q => ⟨mpAt_to (fun o z => by rw [upd_ne (mpAt_ne hp q)]; exact z) q, fun z => (List.mem_cons.mp z).elim (mpAt_ne hp q) n⟩) d v h
theorem Dats.new {p : Addr} {u : HO} (hp : H p = none) (hk : K.lookup p = none) (d : List D) (v : List V) (h : Dats K H O d v) : Dats K (upd H p u) (p :: O) d v :=
  Dats.mono (fun a vs n q => ⟨sqL_to (fun o z => by rw [upd_ne (sqL_ne hp hk q)]; exact z) q, fun z => (List.mem_cons.mp z).elim (sqL_ne hp hk q) n⟩)
    (fun a vs n q => ⟨sqT_to (fun o z => by rw [upd_ne (sqT_ne hp hk q)]; exact z) q, fun z => (List.mem_cons.mp z).elim (sqT_ne hp hk q) n⟩)
    (fun a ks vs n q => ⟨mpAt_to (fun o z => by rw [upd_ne (mpAt_ne hp q)]; exact z) q, fun z => (List.mem_cons.mp z).elim (mpAt_ne hp q) n⟩) d v h

theorem Dats.length : ∀ {ds : List D} {vs : List V}, Dats K H O ds vs → ds.length = vs.length
  | [], _, h => by simp only [Dats] at h; subst h; rfl
  | d :: ds, _, h => by
    simp only [Dats] at h
    obtain ⟨v, r, rfl, _, h2⟩ := h
    simp [Dats.length h2]
theorem Dats.get : ∀ {ds : List D} {vs : List V} {i : Nat} {d : D}, Dats K H O ds vs → ds[i]? = some d → ∃ v, vs[i]? = some v ∧ Dat K H O d v
  | [], _, _, _, _, e => by simp at e
  | d :: ds, _, i, x, h, e => by
    simp only [Dats] at h
    obtain ⟨v, r, rfl, h1, h2⟩ := h
    cases i with
    | zero => simp at e; subst e; exact ⟨v, rfl, h1⟩
    | succ i => simpa using Dats.get (i := i) h2 (by simpa using e)
theorem Dats.append : ∀ {ds es : List D} {vs us : List V}, Dats K H O ds vs → Dats K H O es us → Dats K H O (ds ++ es) (vs ++ us)
  | [], es, _, us, h, g => by simp only [Dats] at h; subst h; exact g
  | d :: ds, es, _, us, h, g => by
    simp only [Dats] at h
    obtain ⟨v, r, rfl, h1, h2⟩ := h
    exact ⟨v, r ++ us, rfl, h1, Dats.append h2 g⟩
theorem Dats.one {d : D} {v : V} (h : Dat K H O d v) : Dats K H O [d] [v] := ⟨v, [], rfl, h, rfl⟩
theorem Dats.set : ∀ {ds : List D} {vs : List V} (i : Nat) {d : D} {v : V}, Dats K H O ds vs → Dat K H O d v → Dats K H O (ds.set i d) (vs.set i v)
  | [], _, _, _, _, h, _ => by simp only [Dats] at h; subst h; rfl
  | d :: ds, _, i, x, y, h, g => by
    simp only [Dats] at h
    obtain ⟨v, r, rfl, h1, h2⟩ := h
    cases i with
    | zero => exact ⟨y, r, rfl, g, h2⟩
    | succ i => exact ⟨v, r.set i y, rfl, h1, Dats.set i h2 g⟩
theorem Dats.take : ∀ {ds : List D} {vs : List V} (n : Nat), Dats K H O ds vs → Dats K H O (ds.take n) (vs.take n)
  | [], _, n, h => by simp only [Dats] at h; subst h; simp [Dats]
  | d :: ds, _, n, h => by
    simp only [Dats] at h
    obtain ⟨v, r, rfl, h1, h2⟩ := h
    cases n with
    | zero => simp [Dats]
    | succ n => exact ⟨v, r.take n, rfl, h1, Dats.take n h2⟩
theorem Dats.drop : ∀ {ds : List D} {vs : List V} (n : Nat), Dats K H O ds vs → Dats K H O (ds.drop n) (vs.drop n)
  | [], _, n, h => by simp only [Dats] at h; subst h; simp [Dats]
  | d :: ds, _, n, h => by
    simp only [Dats] at h
    obtain ⟨v, r, rfl, h1, h2⟩ := h
    cases n with
    | zero => exact ⟨v, r, rfl, h1, h2⟩
    | succ n => simpa using Dats.drop n h2
theorem Dats.reverse : ∀ {ds : List D} {vs : List V}, Dats K H O ds vs → Dats K H O ds.reverse vs.reverse
  | [], _, h => by simp only [Dats] at h; subst h; rfl
  | d :: ds, _, h => by
    simp only [Dats] at h
    obtain ⟨v, r, rfl, h1, h2⟩ := h
    rw [List.reverse_cons, List.reverse_cons]
    exact Dats.append (Dats.reverse h2) (Dats.one h1)
theorem Dats.nil_iff {vs : List V} : Dats K H O [] vs ↔ vs = [] := by simp [Dats]
theorem Dats.ints : ∀ {ns : List Int} {vs : List V}, Dats K H O (ns.map PyData.int) vs → vs = ns.map V.int
  | [], _, h => by simpa [Dats] using h
  | n :: ns, _, h => by
    simp only [List.map_cons, Dats] at h
    obtain ⟨v, r, rfl, h1, h2⟩ := h
    simp only [Dat] at h1
    subst h1
    rw [Dats.ints h2]; rfl
theorem dats_ints : ∀ {ns : List Int}, Dats K H O (ns.map PyData.int) (ns.map V.int)
  | [] => rfl
  | n :: ns => ⟨_, _, rfl, rfl, dats_ints⟩
end

/-! ### values of mirrors: data, an owned list of data, or an owned tree -/
inductive Tag where
  | lst
  | dic (ks : List D)
  | obj (c : Nat) (fs : List Str)
inductive W where
  | d (x : D)
  | l (xs : List D)
  | t (g : Tag) (ws : List W)
def vt : Tag → List D → D
  | .lst, xs => .list xs
  | .dic ks, xs => .dict (ks.zip xs)
  | .obj c fs, xs => .dict ((.none, .int (c : Int)) :: (fs.map PyData.str).zip xs)
mutual
def vw : W → D
  | .d x => x
  | .l xs => .list xs
  | .t g ws => vt g (vws ws)
def vws : List W → List D
  | [] => []
  | w :: ws => vw w :: vws ws
end
@[simp] theorem vw_d (x : D) : vw (.d x) = x := by simp [vw]
@[simp] theorem vw_l (xs : List D) : vw (.l xs) = .list xs := by simp [vw]
theorem vws_map : ∀ ws : List W, vws ws = ws.map vw
  | [] => by simp [vws]
  | w :: ws => by simp [vws, vws_map ws]
/-- data, or a list of data -/
def isF : W → Bool
  | .t _ _ => false
  | _ => true
/-- owned -/
def isO : W → Bool
  | .d _ => false
  | _ => true

def adr : V → List Addr
  | .ref a => [a]
  | _ => []
def hat (H : Hp) : V → Option HO
  | .ref a => H a
  | _ => none
def kids : Option HO → List V
  | some (.lst vs) => vs
  | some (.dK kvs) => kvs.map (·.2)
  | some (.dT kvs) => kvs.map (·.2)
  | some (.ins _ _ fs) => fs.map (·.2)
  | _ => []
mutual
/-- the addresses that a value owns -/
def ow (H : Hp) : W → V → List Addr
  | .d _, _ => []
  | .l _, v => adr v
  | .t _ ws, v => adr v ++ ows H ws (kids (hat H v))
def ows (H : Hp) : List W → List V → List Addr
  | [], _ => []
  | _ :: _, [] => []
  | w :: ws, v :: vs => ow H w v ++ ows H ws vs
end
/-- what kind of object stands for a node -/
inductive Shp : Tag → HO → Prop
  | lst (vs : List V) : Shp .lst (.lst vs)
  | dK (kvs : List (Key × V)) : Shp (.dic (kvs.map fun p => kD p.1)) (.dK kvs)
  | dT (kvs : List (List Key × V)) : Shp (.dic (kvs.map fun p => .tuple (p.1.map kD))) (.dT kvs)
  | obj (c dx : Nat) (fs : List (Str × V)) : Shp (.obj c (fs.map (·.1))) (.ins c dx fs)
mutual
def RW (K : KK) (H : Hp) (O : List Addr) : V → W → Prop
  | v, .d x => Dat K H O x v
  | v, .l xs => ∃ a vs, v = .ref a ∧ H a = some (.lst vs) ∧ Dats K H O xs vs
  | v, .t g ws => ∃ a u, v = .ref a ∧ H a = some u ∧ Shp g u ∧ RWs K H O (kids (some u)) ws
def RWs (K : KK) (H : Hp) (O : List Addr) : List V → List W → Prop
  | vs, [] => vs = []
  | vs, w :: ws => ∃ v r, vs = v :: r ∧ RW K H O v w ∧ RWs K H O r ws
end
abbrev owned (H : Hp) (L : List (V × W)) : List Addr := L.flatMap fun p => ow H p.2 p.1
structure Rels (K : KK) (H : Hp) (L : List (V × W)) : Prop where
  nd : (owned H L).Nodup
  at_ : ∀ p ∈ L, RW K H (owned H L) p.1 p.2

section
variable {K : KK} {H H' : Hp} {O O' : List Addr} {L L' T : List (V × W)}
mutual
theorem ow_congr : ∀ (w : W) (v : V), (∀ a ∈ ow H w v, H' a = H a) → ow H' w v = ow H w v
  | .d _, _, _ => by simp [ow]
  | .l _, _, _ => by simp [ow]
  | .t g ws, v, h => by
    simp only [ow, List.mem_append] at h ⊢
    have e : hat H' v = hat H v := by
      cases v with
      | ref a => exact h a (.inl (by simp [adr]))
      | _ => rfl
    rw [e, ows_congr ws (kids (hat H v)) fun a ha => h a (.inr ha)]
theorem ows_congr : ∀ (ws : List W) (vs : List V), (∀ a ∈ ows H ws vs, H' a = H a) → ows H' ws vs = ows H ws vs
  | [], _, _ => by simp [ows]
  | _ :: _, [], _ => by simp [ows]
  | w :: ws, v :: vs, h => by
    simp only [ows, List.mem_append] at h ⊢
    rw [ow_congr w v fun a ha => h a (.inl ha), ows_congr ws vs fun a ha => h a (.inr ha)]
end
mutual
theorem RW.to (e : ∀ a o, a ∉ O → H a = some o → H' a = some o) (s : ∀ a, a ∈ O' → a ∈ O) : ∀ (w : W) (v : V), (∀ a ∈ ow H w v, H' a = H a) → RW K H O v w → RW K H' O' v w
  | .d x, v, _, h => by
    simp only [RW] at h ⊢
    exact Dat.to e s x v h
  | .l xs, v, k, h => by
    simp only [RW] at h ⊢
    obtain ⟨a, vs, rfl, h1, h2⟩ := h
    exact ⟨a, vs, rfl, by rw [k a (by simp [ow, adr])]; exact h1, Dats.to e s xs vs h2⟩
  | .t g ws, v, k, h => by
    simp only [RW] at h ⊢
    obtain ⟨a, u, rfl, h1, h2, h3⟩ := h
    refine ⟨a, u, rfl, by rw [k a (by simp [ow, adr])]; exact h1, h2, RWs.to e s ws _ (fun b hb => k b ?_) h3⟩
    simp only [ow, hat, h1, List.mem_append]
    exact .inr hb
theorem RWs.to (e : ∀ a o, a ∉ O → H a = some o → H' a = some o) (s : ∀ a, a ∈ O' → a ∈ O) : ∀ (ws : List W) (vs : List V), (∀ a ∈ ows H ws vs, H' a = H a) → RWs K H O vs ws → RWs K H' O' vs ws
  | [], _, _, h => by simpa [RWs] using h
  | w :: ws, vs, k, h => by
    simp only [RWs] at h ⊢
    obtain ⟨v, r, rfl, h1, h2⟩ := h
    simp only [ows, List.mem_append] at k
    exact ⟨v, r, rfl, RW.to e s w v (fun a ha => k a (.inl ha)) h1, RWs.to e s ws r (fun a ha => k a (.inr ha)) h2⟩
end
/-- an owned address is that of a list, a dict, an instance -/
def Mu : HO → Prop
  | .lst _ => True
  | .dK _ => True
  | .dT _ => True
  | .ins _ _ _ => True
  | _ => False
theorem Shp.mu {g : Tag} {u : HO} (h : Shp g u) : Mu u := by cases h <;> trivial
mutual
theorem RW.has : ∀ (w : W) (v : V), RW K H O v w → ∀ a ∈ ow H w v, ∃ u, H a = some u ∧ Mu u
  | .d x, v, _, a, ha => by simp [ow] at ha
  | .l xs, v, h, a, ha => by
    simp only [RW] at h
    obtain ⟨b, vs, rfl, h1, _⟩ := h
    simp only [ow, adr, List.mem_singleton] at ha
    subst ha
    exact ⟨_, h1, trivial⟩
  | .t g ws, v, h, a, ha => by
    simp only [RW] at h
    obtain ⟨b, u, rfl, h1, h2, h3⟩ := h
    simp only [ow, adr, hat, h1, List.mem_append, List.mem_singleton] at ha
    rcases ha with rfl | ha
    · exact ⟨u, h1, h2.mu⟩
    · exact RWs.has ws _ h3 a ha
theorem RWs.has : ∀ (ws : List W) (vs : List V), RWs K H O vs ws → ∀ a ∈ ows H ws vs, ∃ u, H a = some u ∧ Mu u
  | [], _, _, a, ha => by simp [ows] at ha
  | w :: ws, vs, h, a, ha => by
    simp only [RWs] at h
    obtain ⟨v, r, rfl, h1, h2⟩ := h
    simp only [ows, List.mem_append] at ha
    rcases ha with ha | ha
    · exact RW.has w v h1 a ha
    · exact RWs.has ws r h2 a ha
end
theorem RWs.length : ∀ {ws : List W} {vs : List V}, RWs K H O vs ws → ws.length = vs.length
  | [], vs, h => by simp only [RWs] at h; subst h; rfl
  | w :: ws, vs, h => by
    simp only [RWs] at h
    obtain ⟨v, r, rfl, _, h2⟩ := h
    simp [RWs.length h2]
mutual
theorem RW.fz (s : ∀ a, a ∈ O' → a ∈ O) : ∀ (w : W) (v : V), (∀ a ∈ ow H w v, a ∉ O') → RW K H O v w → Dat K H O' (vw w) v
  | .d x, v, _, h => by
    simp only [RW] at h
    rw [vw_d]
    exact Dat.to (fun _ _ _ z => z) s x v h
  | .l xs, v, n, h => by
    simp only [RW] at h
    obtain ⟨a, vs, rfl, h1, h2⟩ := h
    rw [vw_l]
    simp only [Dat]
    exact ⟨a, vs, rfl, SqL.of h1, n a (by simp [ow, adr]), Dats.to (fun _ _ _ z => z) s xs vs h2⟩
  | .t g ws, v, n, h => by
    simp only [RW] at h
    obtain ⟨a, u, rfl, h1, h2, h3⟩ := h
    have hn : a ∉ O' := n a (by simp [ow, adr])
    have hd := RWs.fz s ws _ (fun b hb => n b (by simp only [ow, hat, h1, List.mem_append]; exact .inr hb)) h3
    have hl := h3.length
    simp only [vw]
    cases h2 with
    | lst vs =>
      simp only [vt, Dat]
      exact ⟨a, vs, rfl, SqL.of h1, hn, hd.1⟩
    | dK kvs =>
      simp only [vt, Dat]
      have hl2 : (kvs.map fun p => kD p.1).length = (vws ws).length := by
        rw [vws_map, List.length_map, List.length_map, hl]; simp [kids]
      exact ⟨a, _, rfl, .inl ⟨_, Rd.of h1, by rw [List.map_fst_zip (by omega)]; exact .dK kvs⟩, hn, hd.2 _ hl2⟩
    | dT kvs =>
      simp only [vt, Dat]
      have hl2 : (kvs.map fun p => PyData.tuple (p.1.map kD)).length = (vws ws).length := by
        rw [vws_map, List.length_map, List.length_map, hl]; simp [kids]
      exact ⟨a, _, rfl, .inl ⟨_, Rd.of h1, by rw [List.map_fst_zip (by omega)]; exact .dT kvs⟩, hn, hd.2 _ hl2⟩
    | obj c dx fs =>
      simp only [vt, Dat]
      have hl2 : ((fs.map (·.1)).map PyData.str).length = (vws ws).length := by
        rw [vws_map, List.length_map, List.length_map, List.length_map, hl]; simp [kids]
      refine ⟨a, _, rfl, .inr ⟨c, dx, fs, h1, ?_, rfl⟩, hn, ?_⟩
      · rw [List.map_cons, List.map_fst_zip (by omega), List.map_map]; rfl
      · exact ⟨_, _, rfl, rfl, hd.2 _ hl2⟩
theorem RWs.fz (s : ∀ a, a ∈ O' → a ∈ O) : ∀ (ws : List W) (vs : List V), (∀ a ∈ ows H ws vs, a ∉ O') → RWs K H O vs ws → Dats K H O' (vws ws) vs ∧ ∀ ks : List D, ks.length = (vws ws).length → Datk K H O' (ks.zip (vws ws)) vs
  | [], vs, _, h => by
    simp only [RWs] at h
    subst h
    simp only [vws, Dats]
    exact ⟨trivial, fun ks _ => by simp [Datk]⟩
  | w :: ws, vs, n, h => by
    simp only [RWs] at h
    obtain ⟨v, r, rfl, h1, h2⟩ := h
    simp only [ows, List.mem_append] at n
    have a := RW.fz s w v (fun a ha => n a (.inl ha)) h1
    have b := RWs.fz s ws r (fun a ha => n a (.inr ha)) h2
    simp only [vws]
    refine ⟨⟨v, r, rfl, a, b.1⟩, fun ks hk => ?_⟩
    cases ks with
    | nil => simp at hk
    | cons k ks => exact ⟨v, r, rfl, a, b.2 ks (by simpa using hk)⟩
end
theorem ownedP (H : Hp) (p : L.Perm L') : (owned H L).Perm (owned H L') := List.Perm.flatMap_right _ p
theorem ownedM (H : Hp) (p : L.Perm L') {a : Addr} : a ∈ owned H L ↔ a ∈ owned H L' := (ownedP H p).mem_iff
theorem ownedS (H : Hp) : ∀ {L L' : List (V × W)}, L'.Sublist L → (owned H L').Sublist (owned H L)
  | _, _, .slnil => List.Sublist.refl _
  | _, _, .cons a h => by
    unfold owned
    rw [List.flatMap_cons]
    exact (ownedS H h).trans (List.sublist_append_right _ _)
  | _, _, .cons_cons a h => by
    unfold owned
    rw [List.flatMap_cons, List.flatMap_cons]
    exact List.Sublist.append_left (ownedS H h) _
theorem mem_owned {a : Addr} : a ∈ owned H L ↔ ∃ p ∈ L, a ∈ ow H p.2 p.1 := List.mem_flatMap
theorem owned_congr (k : ∀ a ∈ owned H L, H' a = H a) : owned H' L = owned H L := by
  unfold owned
  induction L with
  | nil => rfl
  | cons p L ih =>
    rw [List.flatMap_cons, List.flatMap_cons]
    have k' : ∀ a ∈ ow H p.2 p.1 ++ owned H L, H' a = H a := k
    rw [ow_congr p.2 p.1 fun a ha => k' a (List.mem_append_left _ ha)]
    rw [ih fun a ha => k' a (List.mem_append_right _ ha)]
theorem owned_d {v : V} {d : D} : owned H ((v, W.d d) :: L) = owned H L := by
  unfold owned
  rw [List.flatMap_cons]
  simp [ow]
theorem owned_l {a : Addr} {xs : List D} : owned H ((V.ref a, W.l xs) :: L) = a :: owned H L := by
  unfold owned
  rw [List.flatMap_cons]
  simp [ow, adr]
theorem owned_c {p : V × W} : owned H (p :: L) = ow H p.2 p.1 ++ owned H L := by
  unfold owned
  rw [List.flatMap_cons]
theorem owned_app {A B : List (V × W)} : owned H (A ++ B) = owned H A ++ owned H B := List.flatMap_append
theorem Rels.has (h : Rels K H L) {a : Addr} (ha : a ∈ owned H L) : ∃ u, H a = some u ∧ Mu u := by
  obtain ⟨p, hp, hq⟩ := mem_owned.mp ha
  exact RW.has p.2 p.1 (h.at_ p hp) a hq
theorem Rels.perm (h : Rels K H L) (p : L.Perm L') : Rels K H L' := by
  refine ⟨((ownedP H p).nodup_iff).mp h.nd, fun q hq => ?_⟩
  exact RW.to (fun _ _ _ z => z) (fun a z => (ownedM H p).mpr z) q.2 q.1 (fun _ _ => rfl) (h.at_ q (p.mem_iff.mpr hq))
theorem Rels.sub (h : Rels K H L) (p : L'.Sublist L) : Rels K H L' := by
  refine ⟨h.nd.sublist (ownedS H p), fun q hq => ?_⟩
  exact RW.to (fun _ _ _ z => z) (fun a z => (ownedS H p).mem z) q.2 q.1 (fun _ _ => rfl) (h.at_ q (p.mem hq))
theorem Rels.tail {p : V × W} (h : Rels K H (p :: L)) : Rels K H L := h.sub (List.sublist_cons_self _ _)
/-- a further datum is held -/
theorem Rels.data {v : V} {d : D} (h : Rels K H L) (q : Dat K H (owned H L) d v) : Rels K H ((v, .d d) :: L) := by
  refine ⟨by rw [owned_d]; exact h.nd, fun p hp => ?_⟩
  rw [owned_d]
  rcases List.mem_cons.mp hp with rfl | hp
  · simpa only [RW] using q
  · exact h.at_ p hp
/-- all that is tracked is kept -/
theorem Rels.ext (h : Rels K H L) (e : ∀ a o, H a = some o → H' a = some o) : Rels K H' L := by
  have k : ∀ a ∈ owned H L, H' a = H a := fun a ha => by
    obtain ⟨u, hu, _⟩ := h.has ha
    rw [hu, e a u hu]
  have eo := owned_congr k
  refine ⟨by rw [eo]; exact h.nd, fun p hp => ?_⟩
  rw [eo]
  exact RW.to (fun a o _ z => e a o z) (fun _ z => z) p.2 p.1 (fun a ha => k a (mem_owned.mpr ⟨p, hp, ha⟩)) (h.at_ p hp)
theorem Rels.ext_owned (h : Rels K H L) (e : ∀ a o, H a = some o → H' a = some o) : owned H' L = owned H L :=
  owned_congr fun a ha => by
    obtain ⟨u, hu, _⟩ := h.has ha
    rw [hu, e a u hu]
/-- a new object that is not owned is laid -/
theorem Rels.laid {p : Addr} {u : HO} (h : Rels K H L) (hp : H p = none) : Rels K (upd H p u) L :=
  h.ext fun a o z => by rw [upd_ne (ne_of_none z hp)]; exact z
theorem Rels.laid_owned {p : Addr} {u : HO} (h : Rels K H L) (hp : H p = none) : owned (upd H p u) L = owned H L :=
  h.ext_owned fun a o z => by rw [upd_ne (ne_of_none z hp)]; exact z
theorem Rels.fresh {p : Addr} (h : Rels K H L) (hp : H p = none) : p ∉ owned H L := fun z => by
  obtain ⟨u, hu, _⟩ := h.has z
  rw [hp] at hu; cases hu
theorem Rels.newTup {p : Addr} {ds : List D} {vs : List V} (h : Rels K H L) (hp : H p = none) (hk : K.lookup p = none) (q : Dats K H (owned H L) ds vs) : Rels K (upd H p (.tup vs)) ((.ref p, .d (.tuple ds)) :: L) := by
  refine (h.laid hp).data ?_
  rw [h.laid_owned hp]
  simp only [Dat]
  exact ⟨p, vs, rfl, SqT.of upd_same, h.fresh hp, Dats.to (fun a o _ z => by rw [upd_ne (ne_of_none z hp)]; exact z) (fun _ z => z) ds vs q⟩
mutual
theorem RW.new {p : Addr} {u : HO} (hp : H p = none) (hk : K.lookup p = none) : ∀ (w : W) (v : V), RW K H O v w → RW K (upd H p u) (p :: O) v w
  | .d x, v, h => by simp only [RW] at h ⊢; exact Dat.new hp hk x v h
  | .l xs, v, h => by
    simp only [RW] at h ⊢
    obtain ⟨a, us, rfl, h1, h2⟩ := h
    exact ⟨a, us, rfl, by rw [upd_ne (ne_of_none h1 hp)]; exact h1, Dats.new hp hk xs us h2⟩
  | .t g ws, v, h => by
    simp only [RW] at h ⊢
    obtain ⟨a, u', rfl, h1, h2, h3⟩ := h
    exact ⟨a, u', rfl, by rw [upd_ne (ne_of_none h1 hp)]; exact h1, h2, RWs.new hp hk ws _ h3⟩
theorem RWs.new {p : Addr} {u : HO} (hp : H p = none) (hk : K.lookup p = none) : ∀ (ws : List W) (vs : List V), RWs K H O vs ws → RWs K (upd H p u) (p :: O) vs ws
  | [], _, h => by simpa only [RWs] using h
  | w :: ws, vs, h => by
    simp only [RWs] at h ⊢
    obtain ⟨v, r, rfl, h1, h2⟩ := h
    exact ⟨v, r, rfl, RW.new hp hk w v h1, RWs.new hp hk ws r h2⟩
end
/-- a new tree is owned -/
theorem Rels.newT {p : Addr} {u : HO} {w : W} (h : Rels K H L) (hp : H p = none) (ho : ow (upd H p u) w (.ref p) = [p]) (q : RW K (upd H p u) (p :: owned H L) (.ref p) w) (hk : K.lookup p = none) : Rels K (upd H p u) ((.ref p, w) :: L) := by
  have np := h.fresh hp
  have eo : owned (upd H p u) ((.ref p, w) :: L) = p :: owned H L := by
    rw [owned_c, h.laid_owned hp]
    show ow (upd H p u) w (.ref p) ++ owned H L = _
    rw [ho]; rfl
  refine ⟨by rw [eo]; exact List.nodup_cons.mpr ⟨np, h.nd⟩, fun x hx => ?_⟩
  rw [eo]
  rcases List.mem_cons.mp hx with rfl | hx
  · exact q
  · have g := h.at_ _ hx
    exact RW.new hp hk x.2 x.1 g
theorem Rels.newOwn {p : Addr} {ds : List D} {vs : List V} (h : Rels K H L) (hp : H p = none) (hk : K.lookup p = none) (q : Dats K H (owned H L) ds vs) : Rels K (upd H p (.lst vs)) ((.ref p, .l ds) :: L) := by
  refine h.newT hp (by simp [ow, adr]) ?_ hk
  simp only [RW]
  exact ⟨p, vs, rfl, upd_same, Dats.new hp hk ds vs q⟩
/-- an owned node is written: its own address alone -/
theorem Rels.put {a : Addr} {u : HO} {v : V} {w w' : W} (h : Rels K H ((v, w) :: L)) (ha : a ∈ ow H w v) (eo : ow (upd H a u) w' v = ow H w v) (q : RW K (upd H a u) (owned H ((v, w) :: L)) v w') : Rels K (upd H a u) ((v, w') :: L) := by
  have nd := h.nd
  rw [owned_c] at nd
  have na : a ∉ owned H L := fun z => (List.nodup_append.mp nd).2.2 a ha a z rfl
  have eL : owned (upd H a u) L = owned H L := owned_congr fun b hb => upd_ne (by rintro rfl; exact na hb)
  have eo2 : owned (upd H a u) ((v, w') :: L) = owned H ((v, w) :: L) := by
    rw [owned_c, owned_c, eL]
    show ow (upd H a u) w' v ++ _ = ow H w v ++ _
    rw [eo]
  have haO : a ∈ owned H ((v, w) :: L) := by rw [owned_c]; exact List.mem_append_left _ ha
  refine ⟨by rw [eo2, owned_c]; exact nd, fun x hx => ?_⟩
  rw [eo2]
  rcases List.mem_cons.mp hx with rfl | hx
  · exact q
  · refine RW.to (fun b o n z => ?_) (fun _ z => z) x.2 x.1 (fun b hb => ?_) (h.at_ x (List.mem_cons_of_mem _ hx))
    · have : b ≠ a := by rintro rfl; exact n haO
      rw [upd_ne this]; exact z
    · have : b ≠ a := by rintro rfl; exact na (mem_owned.mpr ⟨x, hx, hb⟩)
      exact upd_ne this
/-- an owned list is written -/
theorem Rels.write {a : Addr} {xs ys : List D} {us : List V} (h : Rels K H ((.ref a, .l xs) :: L)) (q : Dats K H (owned H ((.ref a, .l xs) :: L)) ys us) : Rels K (upd H a (.lst us)) ((.ref a, .l ys) :: L) := by
  refine h.put (by simp [ow, adr]) (by simp [ow]) ?_
  simp only [RW]
  refine ⟨a, us, rfl, upd_same, Dats.to (fun b o n z => ?_) (fun _ z => z) ys us q⟩
  rw [upd_ne]
  · exact z
  · rintro rfl
    exact n (by rw [owned_l]; exact List.mem_cons_self)
/-- what is owned is frozen -/
theorem Rels.fz {v : V} {w : W} (h : Rels K H ((v, w) :: L)) : Rels K H ((v, .d (vw w)) :: L) := by
  refine h.tail.data ?_
  have nd := h.nd
  rw [owned_c] at nd
  refine RW.fz (fun a z => ?_) w v (fun a ha z => ?_) (h.at_ _ List.mem_cons_self)
  · rw [owned_c]; exact List.mem_append_right _ z
  · exact (List.nodup_append.mp nd).2.2 a ha a z rfl
theorem Rels.freeze {v : V} {xs : List D} (h : Rels K H ((v, .l xs) :: L)) : Rels K H ((v, .d (.list xs)) :: L) := by
  have := h.fz
  rwa [vw_l] at this

/-- v is held with the view d: data, or an owned list of data -/
def Vw (L : List (V × W)) (v : V) (d : D) : Prop := ∃ w, (v, w) ∈ L ∧ isF w = true ∧ vw w = d
theorem Vw.cons {p : V × W} {v : V} {d : D} (h : Vw L v d) : Vw (p :: L) v d := let ⟨w, a, b⟩ := h; ⟨w, List.mem_cons_of_mem _ a, b⟩
theorem Vw.sub {v : V} {d : D} (h : Vw L v d) (s : ∀ p ∈ L, p ∈ L') : Vw L' v d := let ⟨w, a, b⟩ := h; ⟨w, s _ a, b⟩
/-- what a view tells: data, or an owned list -/
theorem Vw.cases {v : V} {d : D} (h : Rels K H L) (q : Vw L v d) : Dat K H (owned H L) d v ∨ ∃ a vs xs, d = .list xs ∧ v = .ref a ∧ H a = some (.lst vs) ∧ Dats K H (owned H L) xs vs := by
  obtain ⟨w, hm, hf, e⟩ := q
  have g := h.at_ _ hm
  cases w with
  | d x =>
    rw [vw_d] at e
    subst e
    simp only [RW] at g
    exact .inl g
  | l xs =>
    rw [vw_l] at e
    simp only [RW] at g
    obtain ⟨a, vs, e1, h1, h2⟩ := g
    exact .inr ⟨a, vs, xs, e.symm, e1, h1, h2⟩
  | t g ws => cases hf
theorem Vw.int {v : V} {i : Int} (h : Rels K H L) (q : Vw L v (.int i)) : v = .int i := by
  rcases q.cases h with g | ⟨_, _, _, e, _⟩
  · simpa only [Dat] using g
  · cases e
theorem Vw.bool {v : V} {i : Bool} (h : Rels K H L) (q : Vw L v (.bool i)) : v = .bl i := by
  rcases q.cases h with g | ⟨_, _, _, e, _⟩
  · simpa only [Dat] using g
  · cases e
theorem Vw.str {v : V} {i : Str} (h : Rels K H L) (q : Vw L v (.str i)) : v = .str i := by
  rcases q.cases h with g | ⟨_, _, _, e, _⟩
  · simpa only [Dat] using g
  · cases e
theorem Vw.none {v : V} (h : Rels K H L) (q : Vw L v .none) : v = .non := by
  rcases q.cases h with g | ⟨_, _, _, e, _⟩
  · simpa only [Dat] using g
  · cases e
theorem Vw.list {v : V} {ds : List D} (h : Rels K H L) (q : Vw L v (.list ds)) : ∃ a vs, v = .ref a ∧ SqL K H a vs ∧ Dats K H (owned H L) ds vs := by
  rcases q.cases h with g | ⟨a, vs, xs, e, e1, h1, h2⟩
  · simp only [Dat] at g
    obtain ⟨a, vs, e, h1, _, h2⟩ := g
    exact ⟨a, vs, e, h1, h2⟩
  · cases e
    exact ⟨a, vs, e1, SqL.of h1, h2⟩
theorem Vw.tuple {v : V} {ds : List D} (h : Rels K H L) (q : Vw L v (.tuple ds)) : ∃ a vs, v = .ref a ∧ SqT K H a vs ∧ a ∉ owned H L ∧ Dats K H (owned H L) ds vs := by
  rcases q.cases h with g | ⟨_, _, _, e, _⟩
  · simpa only [Dat] using g
  · cases e
theorem Vw.dict {v : V} {ds : List (D × D)} (h : Rels K H L) (q : Vw L v (.dict ds)) : ∃ a vs, v = .ref a ∧ MpAt H a (ds.map (·.1)) vs ∧ a ∉ owned H L ∧ Datk K H (owned H L) ds vs := by
  rcases q.cases h with g | ⟨_, _, _, e, _⟩
  · simpa only [Dat] using g
  · cases e
theorem Rels.dat {v : V} {d : D} (h : Rels K H ((v, .d d) :: L)) : Dat K H (owned H L) d v := by
  have := h.at_ _ List.mem_cons_self
  rw [owned_d] at this
  simpa only [RW] using this
theorem Rels.lst {v : V} {xs : List D} (h : Rels K H ((v, .l xs) :: L)) : ∃ a vs, v = .ref a ∧ H a = some (.lst vs) ∧ Dats K H (owned H ((v, .l xs) :: L)) xs vs := by
  have := h.at_ _ List.mem_cons_self
  simpa only [RW] using this
mutual
/-- no dict within -/
def noD : D → Bool
  | .list ds => noDs ds
  | .tuple ds => noDs ds
  | .dict _ => false
  | _ => true
def noDs : List D → Bool
  | [] => true
  | d :: ds => noD d && noDs ds
end
mutual
theorem Dat.dp : ∀ (d : D) (v : V), noD d = true → Dat K H O d v → Dp K H v d
  | .none, _, _, h => by simp only [Dat] at h; subst h; exact .non
  | .bool _, _, _, h => by simp only [Dat] at h; subst h; exact .bl _
  | .int _, _, _, h => by simp only [Dat] at h; subst h; exact .int _
  | .str _, _, _, h => by simp only [Dat] at h; subst h; exact .str _
  | .list ds, v, n, h => by
    simp only [Dat] at h
    obtain ⟨a, vs, rfl, h1, h2, h3⟩ := h
    exact .lst h1 (Dats.dp ds vs (by simpa only [noD] using n) h3)
  | .tuple ds, v, n, h => by
    simp only [Dat] at h
    obtain ⟨a, vs, rfl, h1, h2, h3⟩ := h
    exact .tup h1 (Dats.dp ds vs (by simpa only [noD] using n) h3)
  | .dict _, _, n, h => by simp [noD] at n
theorem Dats.dp : ∀ (ds : List D) (vs : List V), noDs ds = true → Dats K H O ds vs → DpAll K H vs ds
  | [], _, _, h => by simp only [Dats] at h; subst h; exact .nil
  | d :: ds, _, n, h => by
    simp only [Dats] at h
    obtain ⟨v, r, rfl, h1, h2⟩ := h
    simp only [noDs, Bool.and_eq_true] at n
    exact .cons (Dat.dp d v n.1 h1) (Dats.dp ds r n.2 h2)
end
theorem Vw.dp {v : V} {d : D} (h : Rels K H L) (q : Vw L v d) (n : noD d = true) : Dp K H v d := by
  rcases q.cases h with g | ⟨a, vs, xs, rfl, rfl, h1, h2⟩
  · exact Dat.dp d v n g
  · exact .lst (SqL.of h1) (Dats.dp xs vs (by simpa only [noD] using n) h2)
end
end Mi
set_option Elab.async false
set_option linter.all false
set_option maxRecDepth 100000
set_option maxHeartbeats 4000000
/-! Mi2: frames of mirrors, readings of mirrors, expressions -/
namespace Mi
open PySem PySem.Spec PyProof.Rows L2

abbrev Env := List (Option W)
structure Exn where
  cls : Nat
  args : List D
inductive Res (α : Type) where
  | ok (a : α) (e : Env)
  | ex (x : Exn) (e : Env)
  | no
def bnd {α β : Type} : Res α → (α → Env → Res β) → Res β
  | .ok a e, f => f a e
  | .ex x e, _ => .ex x e
  | .no, _ => .no
@[simp] theorem bnd_ok {α β : Type} (a : α) (e : Env) (f : α → Env → Res β) : bnd (.ok a e) f = f a e := rfl
@[simp] theorem bnd_no {α β : Type} (f : α → Env → Res β) : bnd (.no : Res α) f = .no := rfl
@[simp] theorem bnd_ex {α β : Type} (x : Exn) (e : Env) (f : α → Env → Res β) : bnd (.ex x e : Res α) f = .ex x e := rfl
theorem bnd_eq_ok {α β : Type} {r : Res α} {f : α → Env → Res β} {b : β} {e : Env} (h : bnd r f = .ok b e) : ∃ a e1, r = .ok a e1 ∧ f a e1 = .ok b e := by
  cases r with
  | ok a e1 => exact ⟨a, e1, rfl, h⟩
  | ex x e1 => cases h
  | no => cases h
def ofO {α : Type} : Option α → Env → Res α
  | some a, e => .ok a e
  | none, _ => .no
@[simp] theorem ofO_some {α : Type} (a : α) (e : Env) : ofO (some a) e = .ok a e := rfl
@[simp] theorem ofO_none {α : Type} (e : Env) : ofO (none : Option α) e = .no := rfl
theorem ofO_eq_ok {α : Type} {o : Option α} {e e' : Env} {a : α} (h : ofO o e = .ok a e') : o = some a ∧ e' = e := by
  cases o with
  | none => cases h
  | some b => cases h; exact ⟨rfl, rfl⟩

abbrev ME := Env → Res W
abbrev MT := Env → Res Bool

def pc : Option V → Option W → List (V × W)
  | some v, some x => [(v, x)]
  | _, _ => []
def pr : L2.St → Env → List (V × W)
  | s :: σ, w :: e => pc s w ++ pr σ e
  | _, _ => []
theorem pr_mem : ∀ {σ : L2.St} {env : Env} {i : Nat} {v : V} {w : W}, σ[i]? = some (some v) → env.getD i none = some w → (v, w) ∈ pr σ env
  | [], _, _, _, _, h, _ => by simp at h
  | _ :: _, [], _, _, _, _, h => by simp at h
  | s :: σ, x :: e, 0, v, w, h, g => by
    simp at h g
    subst h g
    simp [pr, pc]
  | s :: σ, x :: e, i + 1, v, w, h, g => by
    simp at h g
    exact List.mem_append_right _ (pr_mem (i := i) h (by simpa using g))
theorem pr_set : ∀ {σ : L2.St} {env : Env} {i : Nat}, i < σ.length → σ.length = env.length → ∃ A B, pr σ env = A ++ (pc (σ.getD i none) (env.getD i none) ++ B) ∧ ∀ s x, pr (σ.set i s) (env.set i x) = A ++ (pc s x ++ B)
  | [], _, _, h, _ => by simp at h
  | _ :: _, [], _, _, h => by simp at h
  | s :: σ, x :: e, 0, _, _ => ⟨[], pr σ e, by simp [pr], fun s x => by simp [pr]⟩
  | s :: σ, x :: e, i + 1, h, g => by
    obtain ⟨A, B, h1, h2⟩ := pr_set (σ := σ) (env := e) (i := i) (by simpa using h) (by simpa using g)
    refine ⟨pc s x ++ A, B, ?_, fun s' x' => ?_⟩
    · simp [pr, h1]
    · simp [pr, h2]

/-- the state: what the slots and the held values bear -/
structure SR (K : KK) (P : List Nat) (p0 : L2.St) (T : List (V × W)) (σ : L2.St) (env : Env) (H : Hp) : Prop where
  rels : Rels K H (pr σ env ++ T)
  len : σ.length = env.length
  len0 : p0.length = σ.length
  cov : ∀ i w, env.getD i none = some w → ∃ v, σ[i]? = some (some v)
  par : ∀ i ∈ P, σ[i]? = p0[i]? ∧ ∃ w, env.getD i none = some w ∧ isO w = true

section
variable {K : KK} {P : List Nat} {p0 : L2.St} {T T' : List (V × W)} {σ : L2.St} {env env' : Env} {H H' : Hp}
theorem SR.push {v : V} {w : W} (h : SR K P p0 T σ env H) (r : Rels K H' ((v, w) :: (pr σ env ++ T))) : SR K P p0 ((v, w) :: T) σ env H' :=
  ⟨r.perm List.perm_middle.symm, h.len, h.len0, h.cov, h.par⟩
theorem SR.top {p : V × W} (h : SR K P p0 (p :: T) σ env H) : Rels K H (p :: (pr σ env ++ T)) := h.rels.perm List.perm_middle
theorem SR.re (h : SR K P p0 T σ env H) (r : Rels K H' (pr σ env ++ T')) : SR K P p0 T' σ env H' := ⟨r, h.len, h.len0, h.cov, h.par⟩
theorem SR.drop {p : V × W} (h : SR K P p0 (p :: T) σ env H) : SR K P p0 T σ env H := h.re h.top.tail
theorem SR.sub (h : SR K P p0 T σ env H) (s : T'.Sublist T) : SR K P p0 T' σ env H := h.re (h.rels.sub (List.Sublist.append_left s _))
theorem SR.permT (h : SR K P p0 T σ env H) (s : T.Perm T') : SR K P p0 T' σ env H := h.re (h.rels.perm (List.Perm.append_left _ s))
theorem SR.fz {v : V} {w : W} (h : SR K P p0 ((v, w) :: T) σ env H) : SR K P p0 ((v, .d (vw w)) :: T) σ env H := SR.push h.drop h.top.fz
theorem SR.lt (h : SR K P p0 T σ env H) {i : Nat} {w : W} (e : env.getD i none = some w) : i < σ.length := by
  rw [h.len]
  by_cases hi : i < env.length
  · exact hi
  · rw [List.getD_eq_getElem?_getD, List.getElem?_eq_none (by omega)] at e
    cases e
theorem SR.dat {v : V} {d : D} (h : SR K P p0 ((v, .d d) :: T) σ env H) : Dat K H (owned H (pr σ env ++ T)) d v := h.top.dat
theorem SR.int {v : V} {i : Int} (h : SR K P p0 ((v, .d (.int i)) :: T) σ env H) : v = .int i := by simpa only [Dat] using h.dat
theorem SR.lst {v : V} {xs : List D} (h : SR K P p0 ((v, .l xs) :: T) σ env H) : ∃ a vs, v = .ref a ∧ H a = some (.lst vs) ∧ Dats K H (owned H ((v, .l xs) :: (pr σ env ++ T))) xs vs := h.top.lst
end
theorem set_getD {env : Env} {i j : Nat} {x : Option W} : (env.set i x).getD j none = if i = j ∧ i < env.length then x else env.getD j none := by
  simp only [List.getD_eq_getElem?_getD, List.getElem?_set]
  by_cases h : i = j
  · subst h
    by_cases g : i < env.length
    · simp [g]
    · simp [g]
  · simp [h]

section
variable {K : KK} {P : List Nat} {p0 : L2.St} {T T' : List (V × W)} {σ : L2.St} {env env' : Env} {H H' : Hp}
/-- the slot's content is another one; the address (σ) stays -/
theorem SR.slot (h : SR K P p0 T σ env H) {i : Nat} {v : V} {w w' : W} (hv : σ[i]? = some (some v)) (hw : env.getD i none = some w) (hP : i ∈ P → isO w' = true)
    (r : ∀ L, (pr σ env ++ T).Perm ((v, w) :: L) → Rels K H ((v, w) :: L) → Rels K H' ((v, w') :: L)) : SR K P p0 T σ (env.set i (some w')) H' := by
  have hi := h.lt hw
  obtain ⟨A, B, h1, h2⟩ := pr_set hi h.len
  have hs : σ.getD i none = some v := by rw [List.getD_eq_getElem?_getD, hv]; rfl
  have e2 : σ.set i (some v) = σ := by
    apply List.ext_getElem?
    intro j
    rw [List.getElem?_set]
    by_cases hj : i = j
    · subst hj; rw [if_pos rfl, if_pos hi, hv]
    · rw [if_neg hj]
  have h3 := h2 (some v) (some w')
  rw [e2] at h3
  rw [hs, hw] at h1
  have q := h.rels
  rw [h1] at q
  refine ⟨?_, by rw [List.length_set]; exact h.len, h.len0, fun j x e => ?_, fun j hj => ?_⟩
  · rw [h3]
    have q1 : Rels K H ((v, w) :: (A ++ B ++ T)) := q.perm (by
      simp only [pc, List.append_assoc, List.singleton_append]
      exact List.perm_middle)
    refine (r _ ?_ q1).perm ?_
    · rw [h1]
      simp only [pc, List.append_assoc, List.singleton_append]
      exact List.perm_middle
    simp only [pc, List.append_assoc, List.singleton_append]
    exact List.perm_middle.symm
  · rw [set_getD] at e
    split at e
    · rename_i z
      rw [← z.1]
      exact ⟨v, hv⟩
    · exact h.cov j x e
  · refine ⟨(h.par j hj).1, ?_⟩
    rw [set_getD]
    split
    · rename_i z
      exact ⟨w', rfl, hP (z.1 ▸ hj)⟩
    · exact (h.par j hj).2
/-- a slot is stored -/
theorem SR.store {v : V} {w : W} (h : SR K P p0 ((v, w) :: T) σ env H) {i : Nat} (hi : i < σ.length) (hP : i ∉ P) : SR K P p0 T (σ.set i (some v)) (env.set i (some w)) H := by
  obtain ⟨A, B, h1, h2⟩ := pr_set hi h.len
  refine ⟨?_, by simp [h.len], by simp [h.len0], fun j x e => ?_, fun j hj => ?_⟩
  · rw [h2]
    have q := h.top
    rw [h1] at q
    refine (q.sub (L' := (v, w) :: (A ++ (B ++ T))) ?_).perm ?_
    · refine List.Sublist.cons_cons _ ?_
      rw [List.append_assoc, List.append_assoc]
      exact List.Sublist.append_left (List.sublist_append_right _ _) _
    · simp only [pc, List.append_assoc, List.singleton_append]
      exact List.perm_middle.symm
  · rw [set_getD] at e
    split at e
    · rename_i z
      rw [← z.1]
      exact ⟨v, by rw [List.getElem?_set_self hi]⟩
    · rename_i z
      obtain ⟨u, hu⟩ := h.cov j x e
      have ne : i ≠ j := fun q => z ⟨q, by rw [← h.len]; exact hi⟩
      exact ⟨u, by rw [List.getElem?_set_ne ne]; exact hu⟩
  · have ne : i ≠ j := fun q => hP (q ▸ hj)
    rw [List.getElem?_set_ne ne, set_getD, if_neg (fun q => ne q.1)]
    exact h.par j hj
/-- a slot is forgotten -/
theorem SR.clear (h : SR K P p0 T σ env H) {i : Nat} (hi : i < σ.length) (hP : i ∉ P) : SR K P p0 T (σ.set i none) (env.set i none) H := by
  obtain ⟨A, B, h1, h2⟩ := pr_set hi h.len
  refine ⟨?_, by simp [h.len], by simp [h.len0], fun j x e => ?_, fun j hj => ?_⟩
  · rw [h2]
    have q := h.rels
    rw [h1] at q
    refine q.sub ?_
    simp only [pc, List.nil_append]
    exact List.Sublist.append_right (List.Sublist.append_left (List.sublist_append_right _ _) _) _
  · rw [set_getD] at e
    split at e
    · cases e
    · rename_i z
      obtain ⟨u, hu⟩ := h.cov j x e
      have ne : i ≠ j := fun q => z ⟨q, by rw [← h.len]; exact hi⟩
      exact ⟨u, by rw [List.getElem?_set_ne ne]; exact hu⟩
  · have ne : i ≠ j := fun q => hP (q ▸ hj)
    rw [List.getElem?_set_ne ne, set_getD, if_neg (fun q => ne q.1)]
    exact h.par j hj
theorem SR.val (h : SR K P p0 T σ env H) {i : Nat} {v : V} {w : W} (hv : σ[i]? = some (some v)) (hw : env.getD i none = some w) : RW K H (owned H (pr σ env ++ T)) v w :=
  h.rels.at_ (v, w) (List.mem_append_left _ (pr_mem hv hw))
end

/-! ### operands: a name that is only looked at, or a value -/
inductive Opd where
  | vr (i : Nat)
  | ex (m : ME)
def Opd.run : Opd → Env → Res (Nat ⊕ W)
  | .vr i, e => match e.getD i none with
    | some _ => .ok (.inl i) e
    | none => .no
  | .ex m, e => bnd (m e) fun w e' => .ok (.inr w) e'
def vf : W → Option D
  | .d x => some x
  | .l xs => some (.list xs)
  | .t _ _ => none
@[simp] theorem vf_d (x : D) : vf (.d x) = some x := rfl
@[simp] theorem vf_l (xs : List D) : vf (.l xs) = some (.list xs) := rfl
theorem vf_some {w : W} {d : D} (h : vf w = some d) : isF w = true ∧ vw w = d := by
  cases w with
  | d x => cases h; exact ⟨rfl, vw_d _⟩
  | l xs => cases h; exact ⟨rfl, vw_l _⟩
  | t g ws => cases h
def gv (e : Env) : Nat ⊕ W → Option D
  | .inl i => (e.getD i none).bind vf
  | .inr w => vf w
def held (T : List (V × W)) (v : V) : Nat ⊕ W → List (V × W)
  | .inl _ => T
  | .inr w => (v, w) :: T
def Own (σ : L2.St) (v : V) : Nat ⊕ W → Prop
  | .inl i => σ[i]? = some (some v)
  | .inr _ => True

/-! ### readings -/
def tE (K : KK) (P : List Nat) (m : ME) : TE := fun σ H Q => ∃ p0 T env w env', SR K P p0 T σ env H ∧ Good K H ∧ m env = .ok w env' ∧
  ∀ v H', SR K P p0 ((v, w) :: T) σ env' H' → Good K H' → Q v H'
def tD (K : KK) (P : List Nat) (o : Opd) : TE := fun σ H Q => ∃ p0 T env r env', SR K P p0 T σ env H ∧ Good K H ∧ o.run env = .ok r env' ∧
  ∀ v H', Own σ v r → SR K P p0 (held T v r) σ env' H' → Good K H' → Q v H'
def tM (K : KK) (P : List Nat) (m : MT) : TT := fun σ H Q => ∃ p0 T env b env', SR K P p0 T σ env H ∧ Good K H ∧ m env = .ok b env' ∧
  ∀ H', SR K P p0 T σ env' H' → Good K H' → Q b H'

section
variable {X : Cx} {P : List Nat} {e : Expr}
theorem inv_good {pins : List (Addr × Obj)} {σ : L2.St} {H : Hp} {s : Shared} (I : Inv X pins σ H s) : Good X.K H := fun a o h => (I.bs a o (I.mod.kin a o h)).2
theorem mkE {t : TE} {m : ME} (h : PE X e t)
    (k : ∀ (p0 : L2.St) (T : List (V × W)) (σ : L2.St) (env : Env) (H : Hp) (w : W) (env' : Env) (Q : VK), SR X.K P p0 T σ env H → Good X.K H → m env = .ok w env' →
      (∀ v H', (Good X.K H' → SR X.K P p0 ((v, w) :: T) σ env' H') → Q v H') → t σ H Q) : PE X e (tE X.K P m) := by
  refine ⟨fun pins s σ H Q I hq => ?_⟩
  obtain ⟨p0, T, env, w, env', sr, g, hm, hQ⟩ := hq
  refine thn (h.run pins s σ H (fun v H' => Good X.K H' → Q v H') I (k p0 T σ env H w env' _ sr g hm fun v H' q g' => hQ v H' (q g') g')) ?_
  rintro u s' ⟨v, H', I', r, q⟩
  exact ⟨v, H', I', r, q (inv_good I')⟩
theorem mkT {t : TT} {m : MT} (h : PT X e t)
    (k : ∀ (p0 : L2.St) (T : List (V × W)) (σ : L2.St) (env : Env) (H : Hp) (b : Bool) (env' : Env) (Q : Bool → Hp → Prop), SR X.K P p0 T σ env H → Good X.K H → m env = .ok b env' →
      (∀ H', (Good X.K H' → SR X.K P p0 T σ env' H') → Q b H') → t σ H Q) : PT X e (tM X.K P m) := by
  refine ⟨fun pins s σ H Q I hq => ?_⟩
  obtain ⟨p0, T, env, w, env', sr, g, hm, hQ⟩ := hq
  refine thn (h.run pins s σ H (fun v H' => Good X.K H' → Q v H') I (k p0 T σ env H w env' _ sr g hm fun H' q g' => hQ H' (q g') g')) ?_
  rintro u s' ⟨H', I', q⟩
  exact ⟨H', I', q (inv_good I')⟩
theorem mkW {t : TT} {m : MT} (h : PW X e t)
    (k : ∀ (p0 : L2.St) (T : List (V × W)) (σ : L2.St) (env : Env) (H : Hp) (b : Bool) (env' : Env) (Q : Bool → Hp → Prop), SR X.K P p0 T σ env H → Good X.K H → m env = .ok b env' →
      (∀ H', (Good X.K H' → SR X.K P p0 T σ env' H') → Q b H') → t σ H Q) : PW X e (tM X.K P m) := by
  refine ⟨fun wh pins s σ H Q I hq => ?_⟩
  obtain ⟨p0, T, env, w, env', sr, g, hm, hQ⟩ := hq
  refine thn (h.run wh pins s σ H (fun v H' => Good X.K H' → Q v H') I (k p0 T σ env H w env' _ sr g hm fun H' q g' => hQ H' (q g') g')) ?_
  rintro u s' ⟨H', I', q⟩
  exact ⟨H', I', q (inv_good I')⟩

/-! ### names, constants -/
def eC (d : D) : ME := fun e => .ok (.d d) e
@[simp] theorem eC_run (d : D) (e : Env) : eC d e = .ok (.d d) e := rfl
def eV (i : Nat) : ME := fun e => match e.getD i none with
  | some (.d d) => .ok (.d d) e
  | some (.l xs) => .ok (.d (.list xs)) (e.set i (some (.d (.list xs))))
  | some (.t g ws) => .ok (.d (vw (.t g ws))) (e.set i (some (.d (vw (.t g ws)))))
  | none => .no
inductive Flat : D → V → Prop
  | none : Flat .none .non
  | bool (b : Bool) : Flat (.bool b) (.bl b)
  | int (i : Int) : Flat (.int i) (.int i)
  | str (x : Str) : Flat (.str x) (.str x)
theorem Flat.dat {K : KK} {H : Hp} {O : List Addr} {d : D} {v : V} (f : Flat d v) : Dat K H O d v := by cases f <;> simp [Dat]
theorem pe_c {d : D} {v : V} (f : Flat d v) (h : PE X e (tC v)) : PE X e (tE X.K P (eC d)) := mkE h fun p0 T σ env H w env' Q sr g hm hQ => by
  cases hm
  exact hQ _ _ fun _ => sr.push (sr.rels.data f.dat)
theorem pe_name {i : Nat} (hP : P.contains i = false) (h : PE X e (tVar i)) : PE X e (tE X.K P (eV i)) := mkE h fun p0 T σ env H w env' Q sr g hm hQ => by
  have hP' : i ∉ P := fun z => by rw [List.contains_iff_mem.mpr z] at hP; cases hP
  unfold eV at hm
  split at hm
  · rename_i d hd
    cases hm
    obtain ⟨v, hv⟩ := sr.cov i _ hd
    refine ⟨v, hv, hQ _ _ fun _ => sr.push (sr.rels.data (by simpa only [RW] using sr.val hv hd))⟩
  · rename_i xs hd
    cases hm
    obtain ⟨v, hv⟩ := sr.cov i _ hd
    have s2 := sr.slot hv hd (w' := .d (.list xs)) (fun z => (hP' z).elim) fun L _ q => q.freeze
    have hi := sr.lt hd
    have hd2 : (env.set i (some (W.d (.list xs)))).getD i none = some (.d (.list xs)) := by
      rw [set_getD, if_pos ⟨rfl, by rw [← sr.len]; exact hi⟩]
    refine ⟨v, hv, hQ _ _ fun _ => s2.push (s2.rels.data (by simpa only [RW] using s2.val hv hd2))⟩
  · rename_i g0 ws hd
    cases hm
    obtain ⟨v, hv⟩ := sr.cov i _ hd
    have s2 := sr.slot hv hd (w' := .d (vw (.t g0 ws))) (fun z => (hP' z).elim) fun L _ q => q.fz
    have hi := sr.lt hd
    have hd2 : (env.set i (some (W.d (vw (.t g0 ws))))).getD i none = some (.d (vw (.t g0 ws))) := by
      rw [set_getD, if_pos ⟨rfl, by rw [← sr.len]; exact hi⟩]
    refine ⟨v, hv, hQ _ _ fun _ => s2.push (s2.rels.data (by simpa only [RW] using s2.val hv hd2))⟩
  · cases hm
theorem pd_v {i : Nat} (h : PE X e (tVar i)) : PE X e (tD X.K P (.vr i)) := by
  refine ⟨fun pins s σ H Q I hq => ?_⟩
  obtain ⟨p0, T, env, r, env', sr, g, hm, hQ⟩ := hq
  change (match env.getD i none with | some _ => Res.ok (Sum.inl i) env | none => Res.no) = Res.ok r env' at hm
  cases hd : env.getD i none with
  | none => rw [hd] at hm; cases hm
  | some w =>
    rw [hd] at hm
    cases hm
    obtain ⟨v, hv⟩ := sr.cov i _ hd
    exact h.run pins s σ H Q I ⟨v, hv, hQ v H hv sr g⟩
theorem pd_e {m : ME} (h : PE X e (tE X.K P m)) : PE X e (tD X.K P (.ex m)) := by
  refine ⟨fun pins s σ H Q I hq => ?_⟩
  obtain ⟨p0, T, env, r, env', sr, g, hm, hQ⟩ := hq
  obtain ⟨w, e1, h1, h2⟩ := bnd_eq_ok (show bnd (m env) _ = _ from hm)
  cases h2
  exact h.run pins s σ H Q I ⟨p0, T, env, w, env', sr, g, h1, fun v H' s2 g2 => hQ v H' trivial s2 g2⟩
theorem view_of {K : KK} {p0 : L2.St} {T' : List (V × W)} {σ : L2.St} {env : Env} {H : Hp} {r : Nat ⊕ W} {v : V} {d : D} (sr : SR K P p0 T' σ env H) (o : Own σ v r) (hs : ∀ w, r = .inr w → (v, w) ∈ T') (hg : gv env r = some d) : Vw (pr σ env ++ T') v d := by
  cases r with
  | inl i =>
    simp only [gv] at hg
    cases hd : env.getD i none with
    | none => rw [hd] at hg; cases hg
    | some w =>
      rw [hd] at hg
      exact ⟨w, List.mem_append_left _ (pr_mem o hd), vf_some hg⟩
  | inr w => exact ⟨w, List.mem_append_right _ (hs w rfl), vf_some hg⟩

/-! ### operations on views -/
/-- r, asked of values with these views, gives a value with f's -/
def Op1 (K : KK) (r : V → Hp → VK → Prop) (f : D → Option W) : Prop := ∀ (H : Hp) (L : List (V × W)) (x : V) (dx : D) (w : W) (Q : VK), Good K H → Rels K H L → Vw L x dx → f dx = some w →
  (∀ v H', (Good K H' → Rels K H' ((v, w) :: L)) → Q v H') → r x H Q
def Op2 (K : KK) (r : R2) (f : D → D → Option W) : Prop := ∀ (H : Hp) (L : List (V × W)) (x y : V) (dx dy : D) (w : W) (Q : VK), Good K H → Rels K H L → Vw L x dx → Vw L y dy → f dx dy = some w →
  (∀ v H', (Good K H' → Rels K H' ((v, w) :: L)) → Q v H') → r x y H Q
def eO1 (f : D → Option W) (a : Opd) : ME := fun e => bnd (a.run e) fun r e1 => match gv e1 r with
  | some d => ofO (f d) e1
  | none => .no
def eO2 (f : D → D → Option W) (a b : Opd) : ME := fun e => bnd (a.run e) fun r e1 => bnd (b.run e1) fun r2 e2 => match gv e2 r with
  | some x => (match gv e2 r2 with
    | some y => ofO (f x y) e2
    | none => .no)
  | none => .no
theorem dropHeld {K : KK} {p0 : L2.St} {T : List (V × W)} {σ : L2.St} {env : Env} {H : Hp} {v : V} {w : W} {x : V} {r : Nat ⊕ W} (sr : SR K P p0 ((v, w) :: held T x r) σ env H) : SR K P p0 ((v, w) :: T) σ env H := by
  cases r with
  | inl i => exact sr
  | inr w' => exact sr.sub (List.Sublist.cons_cons _ (List.sublist_cons_self _ _))
theorem pe_o1 {r : V → Hp → VK → Prop} {f : D → Option W} {o : Opd} {ta : TE} (ht : ta = tD X.K P o) (ho : Op1 X.K r f) (h : PE X e (tUn r ta)) : PE X e (tE X.K P (eO1 f o)) := mkE h fun p0 T σ env H w env' Q sr g hm hQ => by
  subst ht
  obtain ⟨ra, e1, h1, h2⟩ := bnd_eq_ok hm
  refine ⟨p0, T, env, ra, e1, sr, g, h1, fun x H1 ox sr1 g1 => ?_⟩
  cases hg : gv e1 ra with
  | none => rw [hg] at h2; cases h2
  | some d =>
    rw [hg] at h2
    obtain ⟨h3, rfl⟩ := ofO_eq_ok h2
    exact ho H1 _ x d w _ g1 sr1.rels (view_of sr1 ox (fun w e => by subst e; exact List.mem_cons_self) hg) h3 fun v H2 q => hQ v H2 fun g2 => dropHeld (sr1.push (q g2))
theorem pe_o2 {r : R2} {f : D → D → Option W} {oa ob : Opd} {ta tb : TE} (hta : ta = tD X.K P oa) (htb : tb = tD X.K P ob) (ho : Op2 X.K r f) (h : PE X e (tOp r ta tb)) : PE X e (tE X.K P (eO2 f oa ob)) := mkE h fun p0 T σ env H w env' Q sr g hm hQ => by
  subst hta htb
  obtain ⟨ra, e1, h1, hm⟩ := bnd_eq_ok hm
  refine ⟨p0, T, env, ra, e1, sr, g, h1, fun x H1 ox sr1 g1 => ?_⟩
  obtain ⟨rb, e2, h2, hm⟩ := bnd_eq_ok hm
  refine ⟨p0, held T x ra, e1, rb, e2, sr1, g1, h2, fun y H2 oy sr2 g2 => ?_⟩
  cases hg : gv e2 ra with
  | none => rw [hg] at hm; cases hm
  | some d =>
    rw [hg] at hm
    cases hg2 : gv e2 rb with
    | none => rw [hg2] at hm; cases hm
    | some d2 =>
      rw [hg2] at hm
      obtain ⟨h3, rfl⟩ := ofO_eq_ok hm
      refine ho H2 _ x y d d2 w _ g2 sr2.rels (view_of sr2 ox (fun w e => ?_) hg) (view_of sr2 oy (fun w e => by subst e; exact List.mem_cons_self) hg2) h3 fun v H3 q => hQ v H3 fun g3 => dropHeld (dropHeld (sr2.push (q g3)))
      subst e
      cases rb with
      | inl i => exact List.mem_cons_self
      | inr w' => exact List.mem_cons_of_mem _ List.mem_cons_self

/-! ### tests -/
/-- a value that is a truth value, as a test -/
def tV (m : ME) : MT := fun e => bnd (m e) fun w e1 => match vw w with
  | .bool b => .ok b e1
  | _ => .no
theorem vw_bool {w : W} {b : Bool} (h : vw w = .bool b) : w = .d (.bool b) := by
  cases w with
  | d x => rw [vw_d] at h; exact congrArg W.d h
  | l xs => rw [vw_l] at h; cases h
  | t g ws => cases g <;> simp [vw, vt] at h
theorem pt_v {m : ME} {t : TE} {tt : TT} (ht : ∀ σ H Q, t σ H (fun x H1 => ∃ c, x = .bl c ∧ Q c H1) → tt σ H Q) (hte : t = tE X.K P m) (h : PT X e tt) : PT X e (tM X.K P (tV m)) := mkT h fun p0 T σ env H b env' Q sr g hm hQ => by
  subst hte
  obtain ⟨w, e1, h1, h2⟩ := bnd_eq_ok hm
  split at h2
  · rename_i b' hb
    cases h2
    have hw := vw_bool hb
    subst hw
    refine ht _ _ _ ⟨p0, T, env, _, env', sr, g, h1, fun v H1 sr1 g1 => ?_⟩
    have hv : v = .bl b := by simpa only [RW, Dat] using sr1.top.at_ _ List.mem_cons_self
    exact ⟨b, hv, hQ H1 fun _ => sr1.drop⟩
  · cases h2
def tAnd' (a b : MT) : MT := fun e => bnd (a e) fun c e1 => if c = true then b e1 else .ok false e1
def tOr' (a b : MT) : MT := fun e => bnd (a e) fun c e1 => if c = true then .ok true e1 else b e1
def tNot' (a : MT) : MT := fun e => bnd (a e) fun c e1 => .ok (!c) e1
variable {a b : Expr} {rest : List Expr} {pos : Pos} {ma mb mc : MT}
theorem pw_andM (ha : PT X a (tM X.K P ma)) (hb : PW X (.BoolOp .And (b :: rest) pos) (tM X.K P mb)) : PW X (.BoolOp .And (a :: b :: rest) pos) (tM X.K P (tAnd' ma mb)) := mkW (pw_and ha hb) fun p0 T σ env H b env' Q sr g hm hQ => by
  obtain ⟨c, e1, h1, h2⟩ := bnd_eq_ok hm
  refine ⟨p0, T, env, c, e1, sr, g, h1, fun H1 sr1 g1 => ?_⟩
  split at h2
  · rename_i hc
    rw [if_pos hc]
    exact ⟨p0, T, e1, b, env', sr1, g1, h2, fun H2 sr2 g2 => hQ H2 fun _ => sr2⟩
  · rename_i hc
    rw [if_neg hc]
    cases h2
    exact hQ H1 fun _ => sr1
theorem pw_orM (ha : PT X a (tM X.K P ma)) (hb : PW X (.BoolOp .Or (b :: rest) pos) (tM X.K P mb)) : PW X (.BoolOp .Or (a :: b :: rest) pos) (tM X.K P (tOr' ma mb)) := mkW (pw_or ha hb) fun p0 T σ env H b env' Q sr g hm hQ => by
  obtain ⟨c, e1, h1, h2⟩ := bnd_eq_ok hm
  refine ⟨p0, T, env, c, e1, sr, g, h1, fun H1 sr1 g1 => ?_⟩
  split at h2
  · rename_i hc
    rw [if_pos hc]
    cases h2
    exact hQ H1 fun _ => sr1
  · rename_i hc
    rw [if_neg hc]
    exact ⟨p0, T, e1, b, env', sr1, g1, h2, fun H2 sr2 g2 => hQ H2 fun _ => sr2⟩
theorem pt_notM (ha : PT X a (tM X.K P ma)) : PT X (.UnaryOp .Not a pos) (tM X.K P (tNot' ma)) := mkT (pt_not ha) fun p0 T σ env H b env' Q sr g hm hQ => by
  obtain ⟨c, e1, h1, h2⟩ := bnd_eq_ok hm
  cases h2
  exact ⟨p0, T, env, c, env', sr, g, h1, fun H1 sr1 g1 => hQ H1 fun _ => sr1⟩
/-- and, or, not as values -/
def eAnd (a b : ME) : ME := fun e => bnd (a e) fun w e1 => match vw w with
  | .bool true => b e1
  | .bool false => .ok (.d (.bool false)) e1
  | _ => .no
def eOr (a b : ME) : ME := fun e => bnd (a e) fun w e1 => match vw w with
  | .bool true => .ok (.d (.bool true)) e1
  | .bool false => b e1
  | _ => .no
def eNot (a : ME) : ME := fun e => bnd (a e) fun w e1 => match vw w with
  | .bool c => .ok (.d (.bool (!c))) e1
  | _ => .no
theorem pe_andM {ma mb : ME} (ha : PE X a (tE X.K P ma)) (hb : PE X (.BoolOp .And (b :: rest) pos) (tE X.K P mb)) : PE X (.BoolOp .And (a :: b :: rest) pos) (tE X.K P (eAnd ma mb)) := mkE (pe_and ha hb) fun p0 T σ env H w env' Q sr g hm hQ => by
  obtain ⟨w1, e1, h1, h2⟩ := bnd_eq_ok hm
  split at h2
  · rename_i hb'
    have hw := vw_bool hb'
    subst hw
    refine ⟨p0, T, env, _, e1, sr, g, h1, fun v H1 sr1 g1 => ⟨true, (by simpa only [RW, Dat] using sr1.top.at_ _ List.mem_cons_self), ?_⟩⟩
    rw [if_pos rfl]
    exact ⟨p0, T, e1, w, env', sr1.drop, g1, h2, fun v H2 sr2 g2 => hQ v H2 fun _ => sr2⟩
  · rename_i hb'
    have hw := vw_bool hb'
    subst hw
    cases h2
    refine ⟨p0, T, env, _, env', sr, g, h1, fun v H1 sr1 g1 => ⟨false, (by simpa only [RW, Dat] using sr1.top.at_ _ List.mem_cons_self), ?_⟩⟩
    rw [if_neg (by simp)]
    have hv : v = .bl false := by simpa only [RW, Dat] using sr1.top.at_ _ List.mem_cons_self
    subst hv
    exact hQ _ H1 fun _ => sr1
  · cases h2
theorem pe_orM {ma mb : ME} (ha : PE X a (tE X.K P ma)) (hb : PE X (.BoolOp .Or (b :: rest) pos) (tE X.K P mb)) : PE X (.BoolOp .Or (a :: b :: rest) pos) (tE X.K P (eOr ma mb)) := mkE (pe_or ha hb) fun p0 T σ env H w env' Q sr g hm hQ => by
  obtain ⟨w1, e1, h1, h2⟩ := bnd_eq_ok hm
  split at h2
  · rename_i hb'
    have hw := vw_bool hb'
    subst hw
    cases h2
    refine ⟨p0, T, env, _, env', sr, g, h1, fun v H1 sr1 g1 => ⟨true, (by simpa only [RW, Dat] using sr1.top.at_ _ List.mem_cons_self), ?_⟩⟩
    rw [if_pos rfl]
    have hv : v = .bl true := by simpa only [RW, Dat] using sr1.top.at_ _ List.mem_cons_self
    subst hv
    exact hQ _ H1 fun _ => sr1
  · rename_i hb'
    have hw := vw_bool hb'
    subst hw
    refine ⟨p0, T, env, _, e1, sr, g, h1, fun v H1 sr1 g1 => ⟨false, (by simpa only [RW, Dat] using sr1.top.at_ _ List.mem_cons_self), ?_⟩⟩
    rw [if_neg (by simp)]
    exact ⟨p0, T, e1, w, env', sr1.drop, g1, h2, fun v H2 sr2 g2 => hQ v H2 fun _ => sr2⟩
  · cases h2
theorem pe_notM {ma : ME} (ha : PE X a (tE X.K P ma)) : PE X (.UnaryOp .Not a pos) (tE X.K P (eNot ma)) := mkE (pe_not ha) fun p0 T σ env H w env' Q sr g hm hQ => by
  obtain ⟨w1, e1, h1, h2⟩ := bnd_eq_ok hm
  split at h2
  · rename_i c hb'
    have hw := vw_bool hb'
    subst hw
    cases h2
    refine ⟨p0, T, env, _, env', sr, g, h1, fun v H1 sr1 g1 => ⟨c, (by simpa only [RW, Dat] using sr1.top.at_ _ List.mem_cons_self), hQ _ H1 fun _ => sr1.drop.push (sr1.drop.rels.data (by simp [Dat]))⟩⟩
  · cases h2
/-- a if t else b -/
def eIf (t : MT) (a b : ME) : ME := fun e => bnd (t e) fun c e1 => if c = true then a e1 else b e1
theorem pe_ifM {c : Expr} {ma mb : ME} (hc : PT X c (tM X.K P mc)) (ha : PE X a (tE X.K P ma)) (hb : PE X b (tE X.K P mb)) : PE X (.IfExp c a b pos) (tE X.K P (eIf mc ma mb)) := mkE (pe_ifExp hc ha hb) fun p0 T σ env H w env' Q sr g hm hQ => by
  obtain ⟨k, e1, h1, h2⟩ := bnd_eq_ok hm
  refine ⟨p0, T, env, k, e1, sr, g, h1, fun H1 sr1 g1 => ?_⟩
  split at h2
  · rename_i hk
    rw [if_pos hk]
    exact ⟨p0, T, e1, w, env', sr1, g1, h2, fun v H2 sr2 g2 => hQ v H2 fun _ => sr2⟩
  · rename_i hk
    rw [if_neg hk]
    exact ⟨p0, T, e1, w, env', sr1, g1, h2, fun v H2 sr2 g2 => hQ v H2 fun _ => sr2⟩
end
end Mi
set_option Elab.async false
set_option linter.all false
set_option maxRecDepth 100000
set_option maxHeartbeats 4000000
/-! Mi3: argument lists, displays, statements, loops -/
namespace Mi
open PySem PySem.Spec PyProof.Rows L2

/-! ### lists of operands -/
def evL : List Opd → Env → Res (List (Nat ⊕ W))
  | [], e => .ok [] e
  | o :: os, e => bnd (o.run e) fun r e1 => bnd (evL os e1) fun rs e2 => .ok (r :: rs) e2
def gvL (e : Env) : List (Nat ⊕ W) → Option (List D)
  | [] => some []
  | r :: rs => match gv e r with
    | some d => (match gvL e rs with
      | some ds => some (d :: ds)
      | none => none)
    | none => none
def heldL (T : List (V × W)) : List V → List (Nat ⊕ W) → List (V × W)
  | v :: vs, r :: rs => heldL (held T v r) vs rs
  | _, _ => T
def OwnL (σ : L2.St) : List V → List (Nat ⊕ W) → Prop
  | [], [] => True
  | v :: vs, r :: rs => Own σ v r ∧ OwnL σ vs rs
  | _, _ => False
def Vws (L : List (V × W)) : List V → List D → Prop
  | [], [] => True
  | v :: vs, d :: ds => Vw L v d ∧ Vws L vs ds
  | _, _ => False
def tAL (K : KK) (P : List Nat) (os : List Opd) : TA := fun σ H Q => ∃ p0 T env rs env', SR K P p0 T σ env H ∧ Good K H ∧ evL os env = .ok rs env' ∧
  ∀ vs H', OwnL σ vs rs → SR K P p0 (heldL T vs rs) σ env' H' → Good K H' → Q vs H'
/-- arguments of a def of the text: a list handed on, or a value -/
inductive Arg where
  | rf (i : Nat)
  | vl (m : ME)
def evG : List Arg → Env → Res (List (Nat ⊕ D))
  | [], e => .ok [] e
  | .rf i :: as, e => match e.getD i none with
    | some (.d x) => bnd (evG as e) fun rs e2 => .ok (.inr x :: rs) e2
    | some _ => bnd (evG as e) fun rs e2 => .ok (.inl i :: rs) e2
    | none => .no
  | .vl m :: as, e => bnd (m e) fun w e1 => bnd (evG as e1) fun rs e2 => .ok (.inr (vw w) :: rs) e2
/-- what is known of the values: a slot's, or data -/
def ARel (K : KK) (H : Hp) (O : List Addr) (σ : L2.St) : List V → List (Nat ⊕ D) → Prop
  | [], [] => True
  | v :: vs, .inl i :: rs => σ[i]? = some (some v) ∧ ARel K H O σ vs rs
  | v :: vs, .inr d :: rs => Dat K H O d v ∧ ARel K H O σ vs rs
  | _, _ => False
def tG (K : KK) (P : List Nat) (as : List Arg) : TA := fun σ H Q => ∃ p0 T env rs env', SR K P p0 T σ env H ∧ Good K H ∧ evG as env = .ok rs env' ∧
  ∀ vs H', ARel K H' (owned H' (pr σ env' ++ T)) σ vs rs → SR K P p0 T σ env' H' → Good K H' → Q vs H'
section
variable {X : Cx} {P : List Nat} {e : Expr} {es : List Expr}
theorem mkA {t : TA} {os : List Opd} (h : PA X es t)
    (k : ∀ (p0 : L2.St) (T : List (V × W)) (σ : L2.St) (env : Env) (H : Hp) rs (env' : Env) (Q : List V → Hp → Prop), SR X.K P p0 T σ env H → Good X.K H → evL os env = .ok rs env' →
      (∀ vs H', (Good X.K H' → OwnL σ vs rs ∧ SR X.K P p0 (heldL T vs rs) σ env' H') → Q vs H') → t σ H Q) : PA X es (tAL X.K P os) := by
  refine ⟨fun pos pins s σ H Q I hq => ?_⟩
  obtain ⟨p0, T, env, w, env', sr, g, hm, hQ⟩ := hq
  refine thn (h.run pos pins s σ H (fun v H' => Good X.K H' → Q v H') I (k p0 T σ env H w env' _ sr g hm fun v H' q g' => hQ v H' (q g').1 (q g').2 g')) ?_
  rintro u s' ⟨v, H', I', r, q⟩
  exact ⟨v, H', I', r, q (inv_good I')⟩
theorem pa_nilM : PA X [] (tAL X.K P []) := mkA pa_nil fun p0 T σ env H rs env' Q sr g hm hQ => by
  cases hm
  exact hQ [] H fun _ => ⟨trivial, sr⟩
theorem pa_consM {o : Opd} {os : List Opd} (he : PE X e (tD X.K P o)) (hr : PA X es (tAL X.K P os)) (hs : starEach (e :: es) X.env = (false, eval e X.env) :: starEach es X.env := by rfl) : PA X (e :: es) (tAL X.K P (o :: os)) :=
  mkA (pa_cons he hr hs) fun p0 T σ env H rs env' Q sr g hm hQ => by
    obtain ⟨r, e1, h1, hm⟩ := bnd_eq_ok hm
    obtain ⟨rs', e2, h2, hm⟩ := bnd_eq_ok hm
    cases hm
    exact ⟨p0, T, env, r, e1, sr, g, h1, fun v H1 ox sr1 g1 => ⟨p0, held T v r, e1, rs', _, sr1, g1, h2, fun vs H2 oy sr2 g2 => hQ (v :: vs) H2 fun _ => ⟨⟨ox, oy⟩, sr2⟩⟩⟩
theorem heldL_sub : ∀ {vs : List V} {rs : List (Nat ⊕ W)} {T : List (V × W)}, T.Sublist (heldL T vs rs)
  | [], _, T => List.Sublist.refl _
  | _ :: _, [], T => List.Sublist.refl _
  | v :: vs, .inl i :: rs, T => heldL_sub (vs := vs) (rs := rs)
  | v :: vs, .inr w :: rs, T => (List.sublist_cons_self _ _).trans (heldL_sub (vs := vs) (rs := rs) (T := (v, w) :: T))
theorem views_of {K : KK} {p0 : L2.St} {σ : L2.St} {env : Env} {H : Hp} : ∀ {vs : List V} {rs : List (Nat ⊕ W)} {ds : List D} {T T' : List (V × W)}, SR K P p0 T' σ env H → OwnL σ vs rs → (∀ p ∈ heldL T vs rs, p ∈ T') → gvL env rs = some ds → Vws (pr σ env ++ T') vs ds
  | [], [], ds, _, _, _, _, _, h => by
    simp only [gvL, Option.some.injEq] at h
    subst h
    trivial
  | [], _ :: _, _, _, _, _, o, _, _ => o.elim
  | _ :: _, [], _, _, _, _, o, _, _ => o.elim
  | v :: vs, r :: rs, ds, T, T', sr, o, hs, h => by
    unfold gvL at h
    cases hg : gv env r with
    | none => rw [hg] at h; cases h
    | some d =>
      rw [hg] at h
      cases hg2 : gvL env rs with
      | none => rw [hg2] at h; cases h
      | some ds' =>
        rw [hg2] at h
        cases h
        refine ⟨view_of sr o.1 (fun w e => ?_) hg, views_of (T := held T v r) sr o.2 hs hg2⟩
        subst e
        exact hs _ ((heldL_sub (vs := vs) (rs := rs)).mem List.mem_cons_self)
/-- a built-in by its arguments' views -/
def OpC (K : KK) (r : List V → Hp → VK → Prop) (f : List D → Option W) : Prop := ∀ (H : Hp) (L : List (V × W)) (vs : List V) (ds : List D) (w : W) (Q : VK), Good K H → Rels K H L → Vws L vs ds → f ds = some w →
  (∀ v H', (Good K H' → Rels K H' ((v, w) :: L)) → Q v H') → r vs H Q
def eB (f : List D → Option W) (os : List Opd) : ME := fun e => bnd (evL os e) fun rs e1 => match gvL e1 rs with
  | some ds => ofO (f ds) e1
  | none => .no
theorem pe_oc {r : List V → Hp → VK → Prop} {f : List D → Option W} {os : List Opd} {ta : TA} (hta : ta = tAL X.K P os) (ho : OpC X.K r f) (h : PE X e (tCB r ta)) : PE X e (tE X.K P (eB f os)) := mkE h fun p0 T σ env H w env' Q sr g hm hQ => by
  subst hta
  obtain ⟨rs, e1, h1, h2⟩ := bnd_eq_ok hm
  refine ⟨p0, T, env, rs, e1, sr, g, h1, fun vs H1 ox sr1 g1 => ?_⟩
  cases hg : gvL e1 rs with
  | none => rw [hg] at h2; cases h2
  | some ds =>
    rw [hg] at h2
    obtain ⟨h3, rfl⟩ := ofO_eq_ok h2
    refine ho H1 _ vs ds w _ g1 sr1.rels (views_of sr1 ox (fun _ z => z) hg) h3 fun v H2 q => hQ v H2 fun g2 => ?_
    exact (sr1.push (q g2)).sub (List.Sublist.cons_cons _ heldL_sub)

/-! ### values for a def, a display -/
theorem mkG {t : TA} {as : List Arg} (h : PA X es t)
    (k : ∀ (p0 : L2.St) (T : List (V × W)) (σ : L2.St) (env : Env) (H : Hp) rs (env' : Env) (Q : List V → Hp → Prop), SR X.K P p0 T σ env H → Good X.K H → evG as env = .ok rs env' →
      (∀ vs H', (Good X.K H' → ARel X.K H' (owned H' (pr σ env' ++ T)) σ vs rs ∧ SR X.K P p0 T σ env' H') → Q vs H') → t σ H Q) : PA X es (tG X.K P as) := by
  refine ⟨fun pos pins s σ H Q I hq => ?_⟩
  obtain ⟨p0, T, env, w, env', sr, g, hm, hQ⟩ := hq
  refine thn (h.run pos pins s σ H (fun v H' => Good X.K H' → Q v H') I (k p0 T σ env H w env' _ sr g hm fun v H' q g' => hQ v H' (q g').1 (q g').2 g')) ?_
  rintro u s' ⟨v, H', I', r, q⟩
  exact ⟨v, H', I', r, q (inv_good I')⟩
theorem pg_nilM : PA X [] (tG X.K P []) := mkG pa_nil fun p0 T σ env H rs env' Q sr g hm hQ => by
  cases hm
  exact hQ [] H fun _ => ⟨trivial, sr⟩
theorem ARel.to {K : KK} {H H' : Hp} {O O' : List Addr} {σ : L2.St} (e : ∀ a o, a ∉ O → H a = some o → H' a = some o) (s : ∀ a, a ∈ O' → a ∈ O) : ∀ {vs : List V} {rs : List (Nat ⊕ D)}, ARel K H O σ vs rs → ARel K H' O' σ vs rs
  | [], [], h => h
  | [], _ :: _, h => by simp [ARel] at h
  | _ :: _, [], h => by simp [ARel] at h
  | v :: vs, .inl i :: rs, h => ⟨h.1, ARel.to e s h.2⟩
  | v :: vs, .inr d :: rs, h => ⟨Dat.to e s d v h.1, ARel.to e s h.2⟩
theorem pg_valM {m : ME} {as : List Arg} (he : PE X e (tE X.K P m)) (hr : PA X es (tG X.K P as)) (hs : starEach (e :: es) X.env = (false, eval e X.env) :: starEach es X.env := by rfl) : PA X (e :: es) (tG X.K P (.vl m :: as)) :=
  mkG (pa_cons he hr hs) fun p0 T σ env H rs env' Q sr g hm hQ => by
    obtain ⟨w, e1, h1, hm⟩ := bnd_eq_ok hm
    obtain ⟨rs', e2, h2, hm⟩ := bnd_eq_ok hm
    cases hm
    refine ⟨p0, T, env, w, e1, sr, g, h1, fun v H1 sr1 g1 => ⟨p0, (v, .d (vw w)) :: T, e1, rs', _, sr1.fz, g1, h2, fun vs H2 ar sr2 g2 => hQ (v :: vs) H2 fun _ => ⟨⟨?_, ?_⟩, sr2.drop⟩⟩⟩
    · exact sr2.dat
    · refine ar.to (fun _ _ _ z => z) fun a z => ?_
      have pp : (pr σ env' ++ (v, W.d (vw w)) :: T).Perm ((v, W.d (vw w)) :: (pr σ env' ++ T)) := List.perm_middle
      refine (ownedM _ pp).mpr ?_
      rw [owned_d]
      exact z
theorem pg_refM {i : Nat} {as : List Arg} (he : PE X e (tVar i)) (hr : PA X es (tG X.K P as)) (hs : starEach (e :: es) X.env = (false, eval e X.env) :: starEach es X.env := by rfl) : PA X (e :: es) (tG X.K P (.rf i :: as)) :=
  mkG (pa_cons he hr hs) fun p0 T σ env H rs env' Q sr g hm hQ => by
    change (match env.getD i none with | some (.d x) => bnd (evG as env) (fun rs e2 => Res.ok (Sum.inr x :: rs) e2) | some _ => bnd (evG as env) (fun rs e2 => Res.ok (Sum.inl i :: rs) e2) | none => Res.no) = _ at hm
    cases hd : env.getD i none with
    | none => rw [hd] at hm; cases hm
    | some w =>
    rw [hd] at hm
    obtain ⟨v, hv⟩ := sr.cov i w hd
    have own : bnd (evG as env) (fun rs e2 => Res.ok (Sum.inl i :: rs) e2) = .ok rs env' → tVar i σ H fun v1 H1 => tG X.K P as σ H1 fun vs H2 => Q (v1 :: vs) H2 := fun hm => by
      obtain ⟨rs', e2, h2, hm⟩ := bnd_eq_ok hm
      cases hm
      exact ⟨v, hv, p0, T, env, rs', _, sr, g, h2, fun vs H2 ar sr2 g2 => hQ (v :: vs) H2 fun _ => ⟨⟨hv, ar⟩, sr2⟩⟩
    cases w with
    | l xs => exact own hm
    | t g0 ws => exact own hm
    | d x =>
      obtain ⟨rs', e2, h2, hm⟩ := bnd_eq_ok hm
      cases hm
      have hdat : Dat X.K H (owned H (pr σ env ++ T)) x v := by simpa only [RW] using sr.val hv hd
      refine ⟨v, hv, p0, (v, .d x) :: T, env, rs', _, sr.push (sr.rels.data hdat), g, h2, fun vs H2 ar sr2 g2 => hQ (v :: vs) H2 fun _ => ⟨⟨sr2.dat, ?_⟩, sr2.drop⟩⟩
      refine ar.to (fun _ _ _ z => z) fun a z => ?_
      have pp : (pr σ env' ++ (v, W.d x) :: T).Perm ((v, W.d x) :: (pr σ env' ++ T)) := List.perm_middle
      refine (ownedM _ pp).mpr ?_
      rw [owned_d]
      exact z
end
end Mi
set_option Elab.async false
set_option linter.all false
set_option maxRecDepth 100000
set_option maxHeartbeats 4000000
/-! Mi4: displays, owned lists written, statements, loops, comprehensions -/
namespace Mi
open PySem PySem.Spec PyProof.Rows L2

/-! ### displays -/
def evT : List ME → Env → Res (List D)
  | [], e => .ok [] e
  | m :: ms, e => bnd (m e) fun w e1 => bnd (evT ms e1) fun ds e2 => .ok (vw w :: ds) e2
def tF (K : KK) (P : List Nat) (ms : List ME) : TA := fun σ H Q => ∃ p0 T env ds env', SR K P p0 T σ env H ∧ Good K H ∧ evT ms env = .ok ds env' ∧
  ∀ vs H', Dats K H' (owned H' (pr σ env' ++ T)) ds vs → SR K P p0 T σ env' H' → Good K H' → Q vs H'
theorem evT_len : ∀ {ms : List ME} {env env' : Env} {ds : List D}, evT ms env = .ok ds env' → ds.length = ms.length
  | [], _, _, _, h => by cases h; rfl
  | m :: ms, _, _, _, h => by
    obtain ⟨w, e1, _, h⟩ := bnd_eq_ok h
    obtain ⟨ds, e2, h2, h⟩ := bnd_eq_ok h
    cases h
    simp [evT_len h2]
section
variable {X : Cx} {P : List Nat} {e : Expr} {es : List Expr}
theorem mkF {t : TA} {as : List ME} (h : PA X es t)
    (k : ∀ (p0 : L2.St) (T : List (V × W)) (σ : L2.St) (env : Env) (H : Hp) rs (env' : Env) (Q : List V → Hp → Prop), SR X.K P p0 T σ env H → Good X.K H → evT as env = .ok rs env' →
      (∀ vs H', (Good X.K H' → Dats X.K H' (owned H' (pr σ env' ++ T)) rs vs ∧ SR X.K P p0 T σ env' H') → Q vs H') → t σ H Q) : PA X es (tF X.K P as) := by
  refine ⟨fun pos pins s σ H Q I hq => ?_⟩
  obtain ⟨p0, T, env, w, env', sr, g, hm, hQ⟩ := hq
  refine thn (h.run pos pins s σ H (fun v H' => Good X.K H' → Q v H') I (k p0 T σ env H w env' _ sr g hm fun v H' q g' => hQ v H' (q g').1 (q g').2 g')) ?_
  rintro u s' ⟨v, H', I', r, q⟩
  exact ⟨v, H', I', r, q (inv_good I')⟩
theorem pf_nil : PA X [] (tF X.K P []) := mkF pa_nil fun p0 T σ env H rs env' Q sr g hm hQ => by
  cases hm
  exact hQ [] H fun _ => ⟨rfl, sr⟩
theorem ownedMid {H : Hp} {A T : List (V × W)} {v : V} {d : D} {a : Addr} (z : a ∈ owned H (A ++ T)) : a ∈ owned H (A ++ (v, W.d d) :: T) := by
  have pp : (A ++ (v, W.d d) :: T).Perm ((v, W.d d) :: (A ++ T)) := List.perm_middle
  refine (ownedM H pp).mpr ?_
  rw [owned_d]
  exact z
theorem pf_cons {m : ME} {as : List ME} (he : PE X e (tE X.K P m)) (hr : PA X es (tF X.K P as)) (hs : starEach (e :: es) X.env = (false, eval e X.env) :: starEach es X.env := by rfl) : PA X (e :: es) (tF X.K P (m :: as)) :=
  mkF (pa_cons he hr hs) fun p0 T σ env H rs env' Q sr g hm hQ => by
    obtain ⟨w, e1, h1, hm⟩ := bnd_eq_ok hm
    obtain ⟨rs', e2, h2, hm⟩ := bnd_eq_ok hm
    cases hm
    refine ⟨p0, T, env, w, e1, sr, g, h1, fun v H1 sr1 g1 => ⟨p0, (v, .d (vw w)) :: T, e1, rs', _, sr1.fz, g1, h2, fun vs H2 ar sr2 g2 => hQ (v :: vs) H2 fun _ => ⟨⟨v, vs, rfl, ?_, ?_⟩, sr2.drop⟩⟩⟩
    · exact sr2.dat
    · exact ar.to (fun _ _ _ z => z) fun a z => ownedMid z
def eTup (ms : List ME) : ME := fun e => bnd (evT ms e) fun ds e1 => .ok (.d (.tuple ds)) e1
def eLst (ms : List ME) : ME := fun e => bnd (evT ms e) fun ds e1 => .ok (.l ds) e1
theorem pe_tupM {ms : List ME} {x1} {pos : Pos} (h : PA X es (tF X.K P ms)) (hl : ms.length ≤ 10000 := by first | decide | simp) : PE X (.Tuple es x1 pos) (tE X.K P (eTup ms)) := mkE (pe_tup h) fun p0 T σ env H w env' Q sr g hm hQ => by
  obtain ⟨ds, e1, h1, hm⟩ := bnd_eq_ok hm
  cases hm
  refine ⟨p0, T, env, ds, _, sr, g, h1, fun vs H1 ds1 sr1 g1 => ⟨?_, fun p hp => hQ _ _ fun g2 => ?_⟩⟩
  · rw [← ds1.length, evT_len h1, sizeLine_eq]; omega
  · have hk : X.K.lookup p = none := by
      cases q : X.K.lookup p with
      | none => rfl
      | some o => have := g2 p o q; rw [upd_same] at this; cases this
    exact sr1.push (sr1.rels.newTup hp hk ds1)
theorem pe_lstM {ms : List ME} {pos : Pos} (h : PA X es (tF X.K P ms)) (hl : ms.length ≤ 10000 := by first | decide | simp) : PE X (.List es pos) (tE X.K P (eLst ms)) := mkE (pe_lst h) fun p0 T σ env H w env' Q sr g hm hQ => by
  obtain ⟨ds, e1, h1, hm⟩ := bnd_eq_ok hm
  cases hm
  refine ⟨p0, T, env, ds, _, sr, g, h1, fun vs H1 ds1 sr1 g1 => ⟨?_, fun p hp => hQ _ _ fun g2 => ?_⟩⟩
  · rw [← ds1.length, evT_len h1, sizeLine_eq]; omega
  · have hk : X.K.lookup p = none := by
      cases q : X.K.lookup p with
      | none => rfl
      | some o => have := g2 p o q; rw [upd_same] at this; cases this
    exact sr1.push (sr1.rels.newOwn hp hk ds1)

/-! ### owned lists written by a method -/
/-- a method of the list xs with data: its value, the new content -/
def OpM (K : KK) (r : V → List V → Hp → VK → Prop) (f : List D → List D → Option (W × List D)) : Prop := ∀ (H : Hp) (L : List (V × W)) (a : Addr) (xs ds ys : List D) (vs : List V) (w : W) (Q : VK),
  Good K H → Rels K H ((.ref a, .l xs) :: L) → Dats K H (owned H ((.ref a, .l xs) :: L)) ds vs → f xs ds = some (w, ys) → (∀ v H', (Good K H' → Rels K H' ((v, w) :: (.ref a, .l ys) :: L)) → Q v H') → r (.ref a) vs H Q
def isL : Option W → Bool
  | some (.l _) => true
  | _ => false
def eMu (f : List D → List D → Option (W × List D)) (i : Nat) (ms : List ME) : ME := fun e =>
  if isL (e.getD i none) = true then bnd (evT ms e) fun ds e1 => match e1.getD i none with
    | some (.l xs) => (match f xs ds with
      | some (w, ys) => .ok w (e1.set i (some (.l ys)))
      | none => .no)
    | _ => .no
  else .no
theorem SR.front {K : KK} {p0 : L2.St} {T : List (V × W)} {σ : L2.St} {env : Env} {H : Hp} (h : SR K P p0 T σ env H) {i : Nat} {v : V} {w : W} (hv : σ[i]? = some (some v)) (hw : env.getD i none = some w) :
    ∃ R, (pr σ env ++ T).Perm ((v, w) :: R) ∧ ∀ w', (pr σ (env.set i (some w')) ++ T).Perm ((v, w') :: R) := by
  have hi := h.lt hw
  obtain ⟨A, B, h1, h2⟩ := pr_set hi h.len
  have hs : σ.getD i none = some v := by rw [List.getD_eq_getElem?_getD, hv]; rfl
  have e2 : σ.set i (some v) = σ := by
    apply List.ext_getElem?
    intro j
    rw [List.getElem?_set]
    by_cases hj : i = j
    · subst hj; rw [if_pos rfl, if_pos hi, hv]
    · rw [if_neg hj]
  refine ⟨A ++ B ++ T, ?_, fun w' => ?_⟩
  · rw [h1, hs, hw]
    simp only [pc, List.append_assoc, List.singleton_append]
    exact List.perm_middle
  · have h3 := h2 (some v) (some w')
    rw [e2] at h3
    rw [h3]
    simp only [pc, List.append_assoc, List.singleton_append]
    exact List.perm_middle
theorem pe_mu {f : List D → List D → Option (W × List D)} {i : Nat} {ms : List ME} {ta : TA} {te : TE} {Ty : String} {r : V → List V → Hp → VK → Prop} (hte : te = tVar i) (hta : ta = tF X.K P ms) (hTy : Ty = "list") (ho : OpM X.K r f)
    (h : PE X e (tBM X.K Ty r te ta)) : PE X e (tE X.K P (eMu f i ms)) := mkE h fun p0 T σ env H w env' Q sr g hm hQ => by
  subst hte hta hTy
  unfold eMu at hm
  split at hm
  · rename_i hL
    obtain ⟨ds, e1, h1, hm⟩ := bnd_eq_ok hm
    cases hd : env.getD i none with
    | none => rw [hd] at hL; cases hL
    | some w0 =>
    cases w0 with
    | d x => rw [hd] at hL; cases hL
    | t g0 ws0 => rw [hd] at hL; cases hL
    | l xs0 =>
    obtain ⟨v, hv⟩ := sr.cov i _ hd
    obtain ⟨a, us, rfl, ha, _⟩ := (show ∃ a us, v = .ref a ∧ H a = some (.lst us) ∧ Dats X.K H (owned H (pr σ env ++ T)) xs0 us from by simpa only [RW] using sr.val hv hd)
    refine ⟨.ref a, hv, Or.inl ⟨rfl, _, SqL.of ha⟩, p0, T, env, ds, e1, sr, g, h1, fun vs H1 ds1 sr1 g1 => ?_⟩
    cases hd1 : e1.getD i none with
    | none => rw [hd1] at hm; cases hm
    | some w1 =>
    cases w1 with
    | d x => rw [hd1] at hm; cases hm
    | t g0 ws0 => rw [hd1] at hm; cases hm
    | l xs =>
    rw [hd1] at hm
    change (match f xs ds with | some (w, ys) => Res.ok w (e1.set i (some (.l ys))) | none => Res.no) = _ at hm
    cases hf : f xs ds with
    | none => rw [hf] at hm; cases hm
    | some p =>
    obtain ⟨w', ys⟩ := p
    rw [hf] at hm
    cases hm
    obtain ⟨R, q1, q2⟩ := sr1.front hv hd1
    refine ho H1 R a xs ds ys vs w _ g1 (sr1.rels.perm q1) ?_ hf fun u H2 q => hQ u H2 fun g2 => ?_
    · exact ds1.to (fun _ _ _ z => z) fun b z => (ownedM _ q1).mpr z
    · have q' := q g2
      have s2 : SR X.K P p0 T σ (e1.set i (some (.l ys))) H2 := by
        refine ⟨q'.tail.perm (q2 _).symm, by rw [List.length_set]; exact sr1.len, sr1.len0, fun j x hj => ?_, fun j hj => ⟨(sr1.par j hj).1, ?_⟩⟩
        · rw [set_getD] at hj
          split at hj
          · rename_i z
            rw [← z.1]
            exact ⟨_, hv⟩
          · exact sr1.cov j x hj
        · rw [set_getD]
          split
          · exact ⟨_, rfl, rfl⟩
          · exact (sr1.par j hj).2
      exact s2.push (q'.perm (List.Perm.cons _ (q2 _).symm))
  · cases hm
end

/-! ### statements -/
inductive Out where
  | nx
  | bk
  | ct
  | rt (w : W)
abbrev MS := Env → Res Out
def PostS (K : KK) (P : List Nat) (p0 : L2.St) (T : List (V × W)) (env : Env) (D : Ends) : Out → Prop
  | .nx => ∀ σ H, SR K P p0 T σ env H → Good K H → D.nx σ H
  | .bk => ∀ σ H, SR K P p0 T σ env H → Good K H → D.bk σ H
  | .ct => ∀ σ H, SR K P p0 T σ env H → Good K H → D.ct σ H
  | .rt w => ∀ v σ H, SR K P p0 ((v, w) :: T) σ env H → Good K H → D.rt v H
def PostG (K : KK) (P : List Nat) (p0 : L2.St) (T : List (V × W)) (env : Env) (D : Ends) : Out → Prop
  | .nx => ∀ σ H, (Good K H → SR K P p0 T σ env H) → D.nx σ H
  | .bk => ∀ σ H, (Good K H → SR K P p0 T σ env H) → D.bk σ H
  | .ct => ∀ σ H, (Good K H → SR K P p0 T σ env H) → D.ct σ H
  | .rt w => ∀ v σ H, (Good K H → SR K P p0 ((v, w) :: T) σ env H) → D.rt v H
def tS (K : KK) (P : List Nat) (m : MS) : TS := fun D σ H => ∃ p0 T env o env', SR K P p0 T σ env H ∧ Good K H ∧ m env = .ok o env' ∧ PostS K P p0 T env' D o
/-- the ends under Good -/
def gEnds (K : KK) (D : Ends) : Ends := ⟨fun σ H => Good K H → D.nx σ H, fun v H => Good K H → D.rt v H, fun σ H => Good K H → D.bk σ H, fun σ H => Good K H → D.ct σ H⟩
theorem PostS.g {K : KK} {P : List Nat} {p0 : L2.St} {T : List (V × W)} {env : Env} {D : Ends} {o : Out} (h : PostS K P p0 T env D o) : PostG K P p0 T env (gEnds K D) o := by
  cases o with
  | nx => exact fun σ H q g => h σ H (q g) g
  | bk => exact fun σ H q g => h σ H (q g) g
  | ct => exact fun σ H q g => h σ H (q g) g
  | rt w => exact fun v σ H q g => h v σ H (q g) g
theorem PostG.s {K : KK} {P : List Nat} {p0 : L2.St} {T : List (V × W)} {env : Env} {D : Ends} {o : Out} (h : PostG K P p0 T env D o) : PostS K P p0 T env D o := by
  cases o with
  | nx => exact fun σ H q _ => h σ H fun _ => q
  | bk => exact fun σ H q _ => h σ H fun _ => q
  | ct => exact fun σ H q _ => h σ H fun _ => q
  | rt w => exact fun v σ H q _ => h v σ H fun _ => q
section
variable {X : Cx} {P : List Nat} {st : Stmt} {sts : List Stmt} {e : Expr} {pos : Pos}
theorem sp_g {pins : List (Addr × Obj)} {D : Ends} {f : Flow} {s' : Shared} (h : SP X pins (gEnds X.K D) f s') : SP X pins D f s' := by
  cases f with
  | next => obtain ⟨σ', H', I, q⟩ := h; exact ⟨σ', H', I, q (inv_good I)⟩
  | brk => obtain ⟨σ', H', I, q⟩ := h; exact ⟨σ', H', I, q (inv_good I)⟩
  | cont => obtain ⟨σ', H', I, q⟩ := h; exact ⟨σ', H', I, q (inv_good I)⟩
  | ret u => obtain ⟨v, σ', H', I, r, q⟩ := h; exact ⟨v, σ', H', I, r, q (inv_good I)⟩
theorem mkS {t : TS} {m : MS} (h : PS X st t)
    (k : ∀ (p0 : L2.St) (T : List (V × W)) (σ : L2.St) (env : Env) (H : Hp) (o : Out) (env' : Env) (D : Ends), SR X.K P p0 T σ env H → Good X.K H → σ.length = X.N.length → m env = .ok o env' → PostG X.K P p0 T env' D o → t D σ H) : PS X st (tS X.K P m) := by
  refine ⟨fun pins s σ H D I hq => ?_⟩
  obtain ⟨p0, T, env, o, env', sr, g, hm, hQ⟩ := hq
  exact thn (h.run pins s σ H (gEnds X.K D) I (k p0 T σ env H o env' _ sr g I.len hm hQ.g)) fun f s' q => sp_g q
theorem mkSs {t : TS} {m : MS} (h : PSs X sts t)
    (k : ∀ (p0 : L2.St) (T : List (V × W)) (σ : L2.St) (env : Env) (H : Hp) (o : Out) (env' : Env) (D : Ends), SR X.K P p0 T σ env H → Good X.K H → σ.length = X.N.length → m env = .ok o env' → PostG X.K P p0 T env' D o → t D σ H) : PSs X sts (tS X.K P m) := by
  refine ⟨fun pins s σ H D I hq => ?_⟩
  obtain ⟨p0, T, env, o, env', sr, g, hm, hQ⟩ := hq
  exact thn (h.run pins s σ H (gEnds X.K D) I (k p0 T σ env H o env' _ sr g I.len hm hQ.g)) fun f s' q => sp_g q
def sNx : MS := fun e => .ok .nx e
def sBk : MS := fun e => .ok .bk e
def sCt : MS := fun e => .ok .ct e
def sSeq (a b : MS) : MS := fun e => bnd (a e) fun o e1 => match o with
  | .nx => b e1
  | o => .ok o e1
def sE (m : ME) : MS := fun e => bnd (m e) fun _ e1 => .ok .nx e1
def sSet (i : Nat) (m : ME) : MS := fun e => bnd (m e) fun w e1 => .ok .nx (e1.set i (some w))
def sRet (m : ME) : MS := fun e => bnd (m e) fun w e1 => .ok (.rt (.d (vw w))) e1
def sRetO (m : ME) : MS := fun e => bnd (m e) fun w e1 => .ok (.rt w) e1
def sRetN : MS := fun e => .ok (.rt (.d .none)) e
def sIf (t : MT) (a b : MS) : MS := fun e => bnd (t e) fun c e1 => if c = true then a e1 else b e1
/-- x[i] = v of an owned list -/
def sPut (i : Nat) (mi mv : ME) : MS := fun e => bnd (mv e) fun w e1 => if isL (e1.getD i none) = true then bnd (mi e1) fun wi e2 => match vw wi with
  | .int k => (match e2.getD i none with
    | some (.l xs) => (match ixN xs.length k with
      | some j => .ok .nx (e2.set i (some (.l (xs.set j (vw w)))))
      | none => .no)
    | _ => .no)
  | _ => .no
  else .no
theorem pss_nilM : PSs X [] (tS X.K P sNx) := mkSs pss_nil fun p0 T σ env H o env' D sr g _ hm hQ => by
  cases hm
  exact hQ σ H fun _ => sr
theorem ps_passM : PS X (.Pass pos) (tS X.K P sNx) := mkS ps_pass fun p0 T σ env H o env' D sr g _ hm hQ => by
  cases hm
  exact hQ σ H fun _ => sr
theorem ps_breakM : PS X (.Break pos) (tS X.K P sBk) := mkS ps_break fun p0 T σ env H o env' D sr g _ hm hQ => by
  cases hm
  exact hQ σ H fun _ => sr
theorem ps_contM : PS X (.Continue pos) (tS X.K P sCt) := mkS ps_continue fun p0 T σ env H o env' D sr g _ hm hQ => by
  cases hm
  exact hQ σ H fun _ => sr
theorem pss_consM {a b : MS} (h1 : PS X st (tS X.K P a)) (h2 : PSs X sts (tS X.K P b)) : PSs X (st :: sts) (tS X.K P (sSeq a b)) := mkSs (pss_cons h1 h2) fun p0 T σ env H o env' D sr g _ hm hQ => by
  obtain ⟨o1, e1, h3, hm⟩ := bnd_eq_ok hm
  refine ⟨p0, T, env, o1, e1, sr, g, h3, ?_⟩
  cases o1 with
  | nx => exact fun σ1 H1 sr1 g1 => ⟨p0, T, e1, o, env', sr1, g1, hm, hQ.s⟩
  | bk => cases hm; exact hQ.s
  | ct => cases hm; exact hQ.s
  | rt w => cases hm; exact hQ.s
theorem pss_oneM {a : MS} (h1 : PS X st (tS X.K P a)) : PSs X [st] (tS X.K P a) := pss_one h1
theorem ps_exprM {m : ME} (he : PE X e (tE X.K P m)) (hs : swapsWith e none pos.line X.env = pure false := by rfl) : PS X (.Expr e pos) (tS X.K P (sE m)) := mkS (ps_expr he hs) fun p0 T σ env H o env' D sr g _ hm hQ => by
  obtain ⟨w, e1, h1, hm⟩ := bnd_eq_ok hm
  cases hm
  exact ⟨p0, T, env, w, _, sr, g, h1, fun v H1 sr1 g1 => hQ σ H1 fun _ => sr1.drop⟩
theorem ps_setM {i : Nat} {x : Str} {m : ME} {pos' : Pos} (hN : X.N.Nodup) (hP : P.contains i = false) (hi : X.N[i]? = some x) (hx : Loc X.env.scope x) (he : PE X e (tE X.K P m)) (hs : swapsWith e (some (.Name x pos')) pos.line X.env = pure false := by rfl)
    (hf : X.fn x = true ∨ X.env.scope.names.lookup x = some .local := by first | exact .inl rfl | exact .inr rfl | assumption) : PS X (.Assign [.Name x pos'] e pos) (tS X.K P (sSet i m)) := mkS (ps_set hN hi hx he hs hf) fun p0 T σ env H o env' D sr g hl hm hQ => by
  have hP' : i ∉ P := fun z => by rw [List.contains_iff_mem.mpr z] at hP; cases hP
  obtain ⟨w, e1, h1, hm⟩ := bnd_eq_ok hm
  cases hm
  exact ⟨p0, T, env, w, _, sr, g, h1, fun v H1 sr1 g1 => hQ _ H1 fun _ => sr1.store (by rw [hl]; exact (List.getElem?_eq_some_iff.mp hi).1) hP'⟩
theorem ps_retM {m : ME} (he : PE X e (tE X.K P m)) : PS X (.Return (some e) pos) (tS X.K P (sRet m)) := mkS (ps_ret he) fun p0 T σ env H o env' D sr g hl hm hQ => by
  obtain ⟨w, e1, h1, hm⟩ := bnd_eq_ok hm
  cases hm
  exact ⟨p0, T, env, w, _, sr, g, h1, fun v H1 sr1 g1 => hQ v σ H1 fun _ => sr1.fz⟩
theorem ps_retOM {m : ME} (he : PE X e (tE X.K P m)) : PS X (.Return (some e) pos) (tS X.K P (sRetO m)) := mkS (ps_ret he) fun p0 T σ env H o env' D sr g hl hm hQ => by
  obtain ⟨w, e1, h1, hm⟩ := bnd_eq_ok hm
  cases hm
  exact ⟨p0, T, env, w, _, sr, g, h1, fun v H1 sr1 g1 => hQ v σ H1 fun _ => sr1⟩
theorem ps_retNM : PS X (.Return none pos) (tS X.K P sRetN) := mkS ps_retN fun p0 T σ env H o env' D sr g hl hm hQ => by
  cases hm
  exact hQ .non σ H fun _ => sr.push (sr.rels.data (by simp [Dat]))
theorem ps_ifM {c : Expr} {a b : List Stmt} {mc : MT} {ma mb : MS} (hc : PT X c (tM X.K P mc)) (ha : PSs X a (tS X.K P ma)) (hb : PSs X b (tS X.K P mb)) : PS X (.If c a b pos) (tS X.K P (sIf mc ma mb)) := mkS (ps_if hc ha hb) fun p0 T σ env H o env' D sr g hl hm hQ => by
  obtain ⟨k, e1, h1, hm⟩ := bnd_eq_ok hm
  refine ⟨p0, T, env, k, e1, sr, g, h1, fun H1 sr1 g1 => ?_⟩
  split at hm
  · rename_i hk
    rw [if_pos hk]
    exact ⟨p0, T, e1, o, env', sr1, g1, hm, hQ.s⟩
  · rename_i hk
    rw [if_neg hk]
    exact ⟨p0, T, e1, o, env', sr1, g1, hm, hQ.s⟩
theorem vw_int {w : W} {k : Int} (h : vw w = .int k) : w = .d (.int k) := by
  cases w with
  | d x => rw [vw_d] at h; exact congrArg W.d h
  | l xs => rw [vw_l] at h; cases h
  | t g ws => cases g <;> simp [vw, vt] at h
theorem isL_some {o : Option W} (h : isL o = true) : ∃ xs, o = some (.l xs) := by
  cases o with
  | none => cases h
  | some w => cases w with
    | d x => cases h
    | t g ws => cases h
    | l xs => exact ⟨xs, rfl⟩
theorem ps_putM {i : Nat} {x : Str} {mi mv : ME} {ei : Expr} {p1 p2 : Pos} {tv : TE} (htv : tv = tVar i)
    (h : PS X (.Assign [.Subscript (.Name x p1) ei p2] e pos) (tAsg (tE X.K P mv) (gSub tv (tE X.K P mi) rSetL))) : PS X (.Assign [.Subscript (.Name x p1) ei p2] e pos) (tS X.K P (sPut i mi mv)) := mkS h fun p0 T σ env H o env' D sr g hl hm hQ => by
  subst htv
  obtain ⟨w, e1, h1, hm⟩ := bnd_eq_ok hm
  split at hm
  · rename_i hL
    obtain ⟨xs0, hd0⟩ := isL_some hL
    obtain ⟨wi, e2, h2, hm⟩ := bnd_eq_ok hm
    split at hm
    · rename_i k hk
      have := vw_int hk
      subst this
      split at hm
      · rename_i xs hd
        split at hm
        · rename_i j hj
          cases hm
          refine ⟨p0, T, env, w, e1, sr, g, h1, fun v H1 sr1 g1 => ?_⟩
          have sr1 := sr1.fz
          obtain ⟨u, hu⟩ := sr1.cov i _ hd0
          refine ⟨u, hu, p0, _, e1, _, e2, sr1, g1, h2, fun iv H2 sr2 g2 => ?_⟩
          have hiv : iv = .int k := sr2.int
          have sr2 := sr2.drop
          obtain ⟨a, us, rfl, ha, hds⟩ := (show ∃ a us, u = .ref a ∧ H2 a = some (.lst us) ∧ Dats X.K H2 (owned H2 (pr σ e2 ++ (v, W.d (vw w)) :: T)) xs us from by simpa only [RW] using sr2.val hu hd)
          refine ⟨a, us, k, j, rfl, hiv, ha, by rw [← hds.length]; exact hj, hQ σ _ fun _ => ?_⟩
          have hdv : Dat X.K H2 (owned H2 (pr σ e2 ++ (v, W.d (vw w)) :: T)) (vw w) v := by
            simpa only [RW] using sr2.rels.at_ (v, W.d (vw w)) (List.mem_append_right _ List.mem_cons_self)
          have s2 := sr2.slot hu hd (w' := .l (xs.set j (vw w))) (fun _ => rfl) (H' := upd H2 a (.lst (us.set j v))) fun L qp q => q.write (hds.set j hdv |>.to (fun _ _ _ z => z) fun b z => (ownedM _ qp).mpr z)
          exact s2.drop
        · cases hm
      · cases hm
    · cases hm
  · cases hm
end
end Mi
set_option Elab.async false
set_option linter.all false
set_option maxRecDepth 100000
set_option maxHeartbeats 4000000
/-! Mi5: what is walked, for, while, comprehensions, targets -/
namespace Mi
open PySem PySem.Spec PyProof.Rows L2

/-! ### targets -/
abbrev Tg := D → Env → Option Env
def TgS (K : KK) (P : List Nat) (n : Nat) (vs : List Nat) (g : TG) (tg : Tg) : Prop := ∀ (p0 : L2.St) (T : List (V × W)) (σ : L2.St) (env : Env) (H : Hp) (v : V) (x : D) (env' : Env) (Q : L2.St → Hp → Prop),
  p0.length = n → SR K P p0 ((v, .d x) :: T) σ env H → tg x env = some env' → (∀ σ', wipe σ' vs = wipe σ vs → SR K P p0 T σ' env' H → Q σ' H) → g v σ H Q
def tgN (j : Nat) : Tg := fun x e => some (e.set j (some (.d x)))
def tgL : List Tg → List D → Env → Option Env
  | [], [], e => some e
  | t :: ts, x :: xs, e => (t x e).bind (tgL ts xs)
  | _, _, _ => none
def tgT (ts : List Tg) : Tg := fun x e => match x with
  | .tuple xs => tgL ts xs e
  | _ => none
/-- the slots that a target stores: for comprehensions -/
def TgsS (K : KK) (P : List Nat) (n : Nat) (ws : List Nat) (g : TGs) (ts : List Tg) : Prop := ∀ (p0 : L2.St) (T : List (V × W)) (σ : L2.St) (env : Env) (H : Hp) (vs : List V) (xs : List D) (env' : Env) (Q : L2.St → Hp → Prop),
  p0.length = n → Dats K H (owned H (pr σ env ++ T)) xs vs → SR K P p0 T σ env H → (∀ d v, (v, d) ∈ vs.zip xs → (v, W.d d) ∈ T) → tgL ts xs env = some env' → (∀ σ', wipe σ' ws = wipe σ ws → SR K P p0 T σ' env' H → Q σ' H) → g vs σ H Q
section
variable {K : KK} {P : List Nat} {n : Nat}
theorem wipe_set_in {σ : L2.St} {x : Option V} {j : Nat} : ∀ {vs : List Nat}, j ∈ vs → wipe (σ.set j x) vs = wipe σ vs
  | [], h => by simp at h
  | v :: vs, h => by
    by_cases hj : j ∈ vs
    · simp only [wipe]
      rw [wipe_set_in hj]
    · have e : j = v := by
        rcases List.mem_cons.mp h with e | e
        · exact e
        · exact absurd e hj
      subst e
      simp only [wipe]
      have : ∀ (vs : List Nat), j ∉ vs → wipe (σ.set j x) vs = (wipe σ vs).set j x := by
        intro vs
        induction vs with
        | nil => intro _; rfl
        | cons u us ih =>
          intro hu
          simp only [wipe]
          rw [ih fun z => hu (List.mem_cons_of_mem _ z), List.set_comm _ _ (fun e => hu (by rw [e]; exact List.mem_cons_self))]
      rw [this vs hj, List.set_set]
theorem tgs_name {ws : List Nat} {j : Nat} (hP : P.contains j = false) (hj : j < n) (hw : j ∈ ws) : TgS K P n ws (gName j) (tgN j) := fun p0 T σ env H v x env' Q hn sr h hQ => by
  have hP' : j ∉ P := fun z => by rw [List.contains_iff_mem.mpr z] at hP; cases hP
  cases h
  exact hQ _ (wipe_set_in hw) (sr.store (by rw [← sr.len0, hn]; exact hj) hP')
theorem tgs_nil {ws : List Nat} : TgsS K P n ws gNil [] := fun p0 T σ env H vs xs env' Q hn hd sr hm h hQ => by
  cases xs with
  | nil =>
    cases h
    simp only [Dats] at hd
    exact ⟨hd, hQ σ rfl sr⟩
  | cons x xs => cases h
theorem tgs_cons {ws : List Nat} {g : TG} {gs : TGs} {t : Tg} {ts : List Tg} (h1 : TgS K P n ws g t) (h2 : TgsS K P n ws gs ts) : TgsS K P n ws (gCons g gs) (t :: ts) := fun p0 T σ env H vs xs env' Q hn hd sr hm h hQ => by
  cases xs with
  | nil => cases h
  | cons x xs =>
    simp only [Dats] at hd
    obtain ⟨v, r, rfl, hx, hr⟩ := hd
    obtain ⟨e1, h3, h4⟩ := Option.bind_eq_some_iff.mp (show (t x env).bind (tgL ts xs) = some env' from h)
    refine ⟨v, r, rfl, h1 p0 T σ env H v x e1 _ hn (sr.push (sr.rels.data hx)) h3 fun σ1 wp1 sr1 => ?_⟩
    refine h2 p0 T σ1 e1 H r xs env' Q hn ?_ sr1 (fun d u z => hm d u (List.mem_cons_of_mem _ z)) h4 (fun σ' wp' s' => hQ σ' (wp'.trans wp1) s')
    -- the items are held in T
    have all : ∀ (xs : List D) (r : List V), r.length = xs.length → (∀ d u, (u, d) ∈ r.zip xs → (u, W.d d) ∈ T) → Dats K H (owned H (pr σ1 e1 ++ T)) xs r := by
      intro xs
      induction xs with
      | nil => intro r hl _; cases r with
        | nil => rfl
        | cons _ _ => simp at hl
      | cons y ys ih => intro r hl hm; cases r with
        | nil => simp at hl
        | cons u us =>
          refine ⟨u, us, rfl, ?_, ih us (by simpa using hl) fun d w z => hm d w (List.mem_cons_of_mem _ z)⟩
          simpa only [RW] using sr1.rels.at_ (u, W.d y) (List.mem_append_right _ (hm y u List.mem_cons_self))
    exact all xs r hr.length.symm fun d u z => hm d u (List.mem_cons_of_mem _ z)
theorem owned_zip {H : Hp} (l : List (V × D)) (A T : List (V × W)) : owned H (A ++ (l.map (fun p => (p.1, W.d p.2)) ++ T)) = owned H (A ++ T) := by
  rw [owned_app, owned_app, owned_app]
  congr 1
  have : owned H (l.map (fun p => (p.1, W.d p.2))) = [] := by
    induction l with
    | nil => rfl
    | cons p l ih => rw [List.map_cons, owned_d]; exact ih
  rw [this, List.nil_append]
theorem heldDs : ∀ {xs : List D} {vs : List V} {T : List (V × W)} {σ : L2.St} {env : Env} {p0 : L2.St} {H : Hp}, SR K P p0 T σ env H → Dats K H (owned H (pr σ env ++ T)) xs vs → SR K P p0 ((vs.zip xs).map (fun p => (p.1, W.d p.2)) ++ T) σ env H
  | [], vs, T, σ, env, p0, H, sr, hd => by simp only [Dats] at hd; subst hd; exact sr
  | x :: xs, vs, T, σ, env, p0, H, sr, hd => by
    simp only [Dats] at hd
    obtain ⟨v, r, rfl, hx, hr⟩ := hd
    have s2 := heldDs sr hr
    refine s2.push (s2.rels.data ?_)
    refine hx.to (fun _ _ _ z => z) fun a z => ?_
    rw [owned_zip] at z
    exact z
theorem tgs_tup {ws : List Nat} {gs : TGs} {ts : List Tg} {k : Nat} (hk : ts.length = k) (h : TgsS K P n ws gs ts) : TgS K P n ws (gTup K k gs) (tgT ts) := fun p0 T σ env H v x env' Q hn sr hx hQ => by
  unfold tgT at hx
  split at hx
  · rename_i xs
    have q := sr.dat
    simp only [Dat] at q
    obtain ⟨a, vs, e, hs, _, hd⟩ := q
    have hl : ∀ (ts : List Tg) (xs : List D) (e e' : Env), tgL ts xs e = some e' → ts.length = xs.length := by
      intro ts
      induction ts with
      | nil => intro xs e e' h; cases xs with
        | nil => rfl
        | cons _ _ => cases h
      | cons t ts ih => intro xs e e' h; cases xs with
        | nil => cases h
        | cons x xs =>
          obtain ⟨e1, h3, h4⟩ := Option.bind_eq_some_iff.mp (show (t x e).bind (tgL ts xs) = some e' from h)
          simp [ih xs e1 e' h4]
    refine ⟨a, vs, e, hs, by rw [← hd.length, ← hl _ _ _ _ hx]; exact hk, ?_⟩
    have sr1 := heldDs sr.drop hd
    refine h p0 _ σ env H vs xs env' _ hn ?_ sr1 ?_ hx fun σ' wp' sr' => hQ σ' wp' (sr'.sub (List.sublist_append_right _ _))
    · refine hd.to (fun _ _ _ z => z) fun a z => ?_
      rw [owned_zip] at z
      exact z
    · intro d u z
      exact List.mem_append_left _ (List.mem_map.mpr ⟨(u, d), z, rfl⟩)
  · cases hx
end

/-! ### what is walked -/
structure ItOk (K : KK) (J : It) (xs : List D) (S : List (V × W)) : Prop where
  go : ∀ (i : Nat) (H : Hp) (L : List (V × W)), i < xs.length → Rels K H L → (∀ p ∈ S, p ∈ L) → J.go i H
  stop : ∀ (H : Hp) (L : List (V × W)), Rels K H L → (∀ p ∈ S, p ∈ L) → J.stop xs.length H
  yld : ∀ (i : Nat) (H : Hp) (L : List (V × W)) (x : V) (H' : Hp) (d : D), Rels K H L → (∀ p ∈ S, p ∈ L) → xs[i]? = some d → J.yld i H x H' → (Good K H' → Good K H ∧ Rels K H' ((x, .d d) :: L))
abbrev MI := Env → Res (List D)
def tI (K : KK) (P : List Nat) (src : MI) : TI := fun σ H R => ∃ p0 T env xs env', SR K P p0 T σ env H ∧ Good K H ∧ src env = .ok xs env' ∧
  ∀ J S H', ItOk K J xs S → SR K P p0 (S ++ T) σ env' H' → Good K H' → R J H'
section
variable {X : Cx} {P : List Nat} {tg iter : Expr}
theorem mkI {wi : TI} {src : MI} (h : PI X tg iter wi)
    (k : ∀ (p0 : L2.St) (T : List (V × W)) (σ : L2.St) (env : Env) (H : Hp) (xs : List D) (env' : Env) (R : It → Hp → Prop), SR X.K P p0 T σ env H → Good X.K H → src env = .ok xs env' →
      (∀ J S H', ItOk X.K J xs S → (Good X.K H' → SR X.K P p0 (S ++ T) σ env' H') → R J H') → wi σ H R) : PI X tg iter (tI X.K P src) := by
  refine ⟨fun pins s σ H R I hq => ?_⟩
  obtain ⟨p0, T, env, xs, env', sr, g, hm, hQ⟩ := hq
  refine thn (h.run pins s σ H (fun J H' => Good X.K H' → R J H') I (k p0 T σ env H xs env' _ sr g hm fun J S H' io q g' => hQ J S H' io (q g') g')) fun v s1 h1 => ?_
  refine thn h1 fun itv s2 h2 => ?_
  obtain ⟨it, fp, tn, J, H', e1, I', h3, h4, h5, h6⟩ := h2
  exact ⟨it, fp, tn, J, H', e1, I', h3, h4, h5, h6 (inv_good I')⟩
/-- a list, by its value -/
def iSeq (m : ME) : MI := fun e => bnd (m e) fun w e1 => match vw w with
  | .list xs => .ok xs e1
  | _ => .no
def iTup' (m : ME) : MI := fun e => bnd (m e) fun w e1 => match vw w with
  | .tuple xs => .ok xs e1
  | _ => .no
theorem Dats.at {K : KK} {H : Hp} {O : List Addr} {xs : List D} {vs : List V} (h : Dats K H O xs vs) {i : Nat} {d : D} (e : xs[i]? = some d) {x : V} (hx : vs[i]? = some x) : Dat K H O d x := by
  obtain ⟨v, h1, h2⟩ := h.get e
  rw [h1] at hx; cases hx
  exact h2
theorem Dats.lt {K : KK} {H : Hp} {O : List Addr} {xs : List D} {vs : List V} (h : Dats K H O xs vs) {i : Nat} (e : i < xs.length) : ∃ x, vs[i]? = some x := by
  rw [h.length] at e
  exact ⟨vs[i], by simp [e]⟩
theorem itOk_list {K : KK} {a : Addr} {xs : List D} : ItOk K (Itl K a) xs [(.ref a, .d (.list xs))] where
  go := fun i H L hi h s => by
    obtain ⟨b, vs, e, h1, _, h2⟩ := (show ∃ b vs, V.ref a = .ref b ∧ SqL K H b vs ∧ b ∉ owned H L ∧ Dats K H (owned H L) xs vs from by simpa only [RW, Dat] using h.at_ _ (s _ List.mem_cons_self))
    cases e
    obtain ⟨x, hx⟩ := h2.lt hi
    exact ⟨vs, x, h1, hx⟩
  stop := fun H L h s => by
    obtain ⟨b, vs, e, h1, _, h2⟩ := (show ∃ b vs, V.ref a = .ref b ∧ SqL K H b vs ∧ b ∉ owned H L ∧ Dats K H (owned H L) xs vs from by simpa only [RW, Dat] using h.at_ _ (s _ List.mem_cons_self))
    cases e
    exact ⟨vs, h1, by rw [h2.length]; exact Nat.le_refl _⟩
  yld := fun i H L x H' d h s e y g => by
    obtain ⟨b, vs, e2, h1, _, h2⟩ := (show ∃ b vs, V.ref a = .ref b ∧ SqL K H b vs ∧ b ∉ owned H L ∧ Dats K H (owned H L) xs vs from by simpa only [RW, Dat] using h.at_ _ (s _ List.mem_cons_self))
    cases e2
    obtain ⟨rfl, hy⟩ := y
    exact ⟨g, h.data (h2.at e (hy vs h1))⟩
theorem itOk_tup {K : KK} {a : Addr} {xs : List D} : ItOk K (Itt K a) xs [(.ref a, .d (.tuple xs))] where
  go := fun i H L hi h s => by
    obtain ⟨b, vs, e, h1, _, h2⟩ := (show ∃ b vs, V.ref a = .ref b ∧ SqT K H b vs ∧ b ∉ owned H L ∧ Dats K H (owned H L) xs vs from by simpa only [RW, Dat] using h.at_ _ (s _ List.mem_cons_self))
    cases e
    obtain ⟨x, hx⟩ := h2.lt hi
    exact ⟨vs, x, h1, hx⟩
  stop := fun H L h s => by
    obtain ⟨b, vs, e, h1, _, h2⟩ := (show ∃ b vs, V.ref a = .ref b ∧ SqT K H b vs ∧ b ∉ owned H L ∧ Dats K H (owned H L) xs vs from by simpa only [RW, Dat] using h.at_ _ (s _ List.mem_cons_self))
    cases e
    exact ⟨vs, h1, by rw [h2.length]; exact Nat.le_refl _⟩
  yld := fun i H L x H' d h s e y g => by
    obtain ⟨b, vs, e2, h1, _, h2⟩ := (show ∃ b vs, V.ref a = .ref b ∧ SqT K H b vs ∧ b ∉ owned H L ∧ Dats K H (owned H L) xs vs from by simpa only [RW, Dat] using h.at_ _ (s _ List.mem_cons_self))
    cases e2
    obtain ⟨rfl, hy⟩ := y
    exact ⟨g, h.data (h2.at e (hy vs h1))⟩
theorem pi_listM {m : ME} (h : PE X iter (tE X.K P m)) (h' : ∀ te, PE X iter te → PI X tg iter (iList X.K te) := by exact fun te h => pi_list h) : PI X tg iter (tI X.K P (iSeq m)) := mkI (h' _ h) fun p0 T σ env H xs env' R sr g hm hR => by
  obtain ⟨w, e1, h1, hm⟩ := bnd_eq_ok hm
  split at hm
  · rename_i ys hw
    cases hm
    refine ⟨p0, T, env, w, _, sr, g, h1, fun v H1 sr1 g1 => ?_⟩
    have sr1 := sr1.fz
    rw [hw] at sr1
    have q := sr1.top.at_ _ List.mem_cons_self
    simp only [RW, Dat] at q
    obtain ⟨a, vs, rfl, hs, _, hd⟩ := q
    exact ⟨a, rfl, ⟨vs, hs⟩, hR _ [(.ref a, .d (.list xs))] H1 itOk_list fun _ => sr1⟩
  · cases hm
theorem pi_tupM {m : ME} (h : PE X iter (tE X.K P m)) (h' : ∀ te, PE X iter te → PI X tg iter (iTup X.K te) := by exact fun te h => pi_tup h) : PI X tg iter (tI X.K P (iTup' m)) := mkI (h' _ h) fun p0 T σ env H xs env' R sr g hm hR => by
  obtain ⟨w, e1, h1, hm⟩ := bnd_eq_ok hm
  split at hm
  · rename_i ys hw
    cases hm
    refine ⟨p0, T, env, w, _, sr, g, h1, fun v H1 sr1 g1 => ?_⟩
    have sr1 := sr1.fz
    rw [hw] at sr1
    have q := sr1.top.at_ _ List.mem_cons_self
    simp only [RW, Dat] at q
    obtain ⟨a, vs, rfl, hs, _, hd⟩ := q
    exact ⟨a, rfl, ⟨vs, hs⟩, hR _ [(.ref a, .d (.tuple xs))] H1 itOk_tup fun _ => sr1⟩
  · cases hm
/-- ranges -/
def rng (lo : Int) (n : Nat) : List D := (List.range n).map fun (i : Nat) => PyData.int (lo + (i : Int))
theorem itOk_rng {K : KK} {lo : Int} {n : Nat} : ItOk K (Itr lo n) (rng lo n) [] where
  go := fun i H L hi h s => by simpa [rng, Itr] using hi
  stop := fun H L h s => by simp [rng, Itr]
  yld := fun i H L x H' d h s e y g => by
    obtain ⟨rfl, rfl⟩ := y
    have : d = .int (lo + i) := by
      simp only [rng, List.getElem?_map] at e
      by_cases hi : i < n
      · rw [List.getElem?_range hi] at e
        cases e; rfl
      · rw [List.getElem?_eq_none (by simpa using hi)] at e
        cases e
    subst this
    exact ⟨g, h.data (by simp [Dat])⟩
def iR1 (a : ME) : MI := fun e => bnd (a e) fun w e1 => match vw w with
  | .int j => if -4611686018427387904 ≤ j ∧ j < 4611686018427387904 then .ok (rng 0 j.toNat) e1 else .no
  | _ => .no
def iR2 (a b : ME) : MI := fun e => bnd (a e) fun w e1 => bnd (b e1) fun w2 e2 => match vw w with
  | .int i => (match vw w2 with
    | .int j => if -4611686018427387904 ≤ i ∧ i < 4611686018427387904 ∧ -4611686018427387904 ≤ j ∧ j < 4611686018427387904 then .ok (rng i (j - i).toNat) e2 else .no
    | _ => .no)
  | _ => .no
theorem pi_r1M {m : ME} {ta : TA} (hta : ta = tF X.K P [m]) (h : PI X tg iter (iRng1 ta)) : PI X tg iter (tI X.K P (iR1 m)) := mkI h fun p0 T σ env H xs env' R sr g hm hR => by
  subst hta
  obtain ⟨w, e1, h1, hm⟩ := bnd_eq_ok hm
  split at hm
  · rename_i j hw
    split at hm
    · rename_i hj
      obtain ⟨rfl, rfl⟩ : rng 0 j.toNat = xs ∧ e1 = env' := by cases hm; exact ⟨rfl, rfl⟩
      refine ⟨p0, T, env, [.int j], e1, sr, g, by simp only [evT, h1, bnd_ok, hw], fun vs H1 hd sr1 g1 => ?_⟩
      obtain ⟨v, r, rfl, hv, rfl⟩ := hd
      have hv' : v = .int j := by simpa only [Dat] using hv
      subst hv'
      exact ⟨j, rfl, hj.1, hj.2, hR _ [] H1 itOk_rng fun _ => sr1⟩
    · cases hm
  · cases hm
theorem pi_r2M {m m2 : ME} {ta : TA} (hta : ta = tF X.K P [m, m2]) (h : PI X tg iter (iRng2 ta)) : PI X tg iter (tI X.K P (iR2 m m2)) := mkI h fun p0 T σ env H xs env' R sr g hm hR => by
  subst hta
  obtain ⟨w, e1, h1, hm⟩ := bnd_eq_ok hm
  obtain ⟨w2, e2, h2, hm⟩ := bnd_eq_ok hm
  split at hm
  · rename_i i hw
    split at hm
    · rename_i j hw2
      split at hm
      · rename_i hj
        obtain ⟨rfl, rfl⟩ : rng i (j - i).toNat = xs ∧ e2 = env' := by cases hm; exact ⟨rfl, rfl⟩
        refine ⟨p0, T, env, [.int i, .int j], e2, sr, g, by simp only [evT, h1, h2, bnd_ok, hw, hw2], fun vs H1 hd sr1 g1 => ?_⟩
        obtain ⟨v, r, rfl, hv, v2, r2, rfl, hv2, rfl⟩ := hd
        have hv' : v = .int i := by simpa only [Dat] using hv
        have hv2' : v2 = .int j := by simpa only [Dat] using hv2
        subst hv' hv2'
        exact ⟨i, j, rfl, hj, hR _ [] H1 itOk_rng fun _ => sr1⟩
      · cases hm
    · cases hm
  · cases hm

/-! ### for -/
def forL (tg : Tg) (b : MS) : List D → MS
  | [], e => .ok .nx e
  | x :: xs, e => match tg x e with
    | none => .no
    | some e0 => bnd (b e0) fun o e1 => match o with
      | .nx => forL tg b xs e1
      | .ct => forL tg b xs e1
      | .bk => .ok .nx e1
      | .rt w => .ok (.rt w) e1
def sFor (src : MI) (tg : Tg) (b : MS) : MS := fun e => bnd (src e) fun xs e1 => forL tg b xs e1
theorem pg_good {target : Expr} {t : TG} (h : PG X target t) : PG X target (fun v σ H Q => Good X.K H → t v σ H Q) :=
  ⟨fun pins s σ H v u Q I r hq => h.run pins s σ H v u Q I r (hq (inv_good I))⟩
theorem ps_forM {ws : List Nat} {body : List Stmt} {pos : Pos} {src : MI} {g : TG} {t : Tg} {mb : MS} (hp : PassesOwn (model X.prog X.w) X.A X.env X.xe) (hc : X.calm = true) (hi : PI X tg iter (tI X.K P src)) (hg : PG X tg g) (hgs : TgS X.K P X.N.length ws g t) (hb : PSs X body (tS X.K P mb))
    (hs : ∀ x, foldedSetIterable iter X.env x = pure x := by intro _; rfl) : PS X (.For tg iter body [] pos) (tS X.K P (sFor src t mb)) := mkS (ps_for hp hc hi (pg_good hg) hb hs) fun p0 T σ env H o env' D sr gd hl hm hQ => by
  obtain ⟨xs, e1, h1, hm⟩ := bnd_eq_ok hm
  have hn : p0.length = X.N.length := by rw [sr.len0, hl]
  refine ⟨p0, T, env, xs, e1, sr, gd, h1, fun J S H1 io sr1 g1 => ?_⟩
  refine ⟨fun i m σ H => m = xs.length - i ∧ i ≤ xs.length ∧ ∃ ei, SR X.K P p0 (S ++ T) σ ei H ∧ Good X.K H ∧ forL t mb (xs.drop i) ei = .ok o env', ⟨xs.length, by simp, Nat.zero_le _, e1, sr1, g1, by simpa using hm⟩, ?_⟩
  rintro i m σ2 H2 ⟨rfl, hi2, ei, sr2, g2, hf⟩
  have hS : ∀ p ∈ S, p ∈ pr σ2 ei ++ (S ++ T) := fun p z => List.mem_append_right _ (List.mem_append_left _ z)
  by_cases hlt : i < xs.length
  · have hx : xs[i]? = some xs[i] := by simp [hlt]
    rw [List.drop_eq_getElem_cons hlt] at hf
    refine .inr ⟨io.go i H2 _ hlt sr2.rels hS, fun σ' H' => ∃ ei, SR X.K P p0 (S ++ T) σ' ei H' ∧ Good X.K H' ∧ forL t mb (xs.drop (i + 1)) ei = .ok o env', fun σ' H' ⟨ej, q1, q2, q3⟩ => ⟨xs.length - (i + 1), by omega, rfl, hlt, ej, q1, q2, q3⟩, fun x H' y g3 => ?_⟩
    obtain ⟨_, q⟩ := io.yld i H2 _ x H' _ sr2.rels hS hx y g3
    have sr3 : SR X.K P p0 ((x, .d xs[i]) :: (S ++ T)) σ2 ei H' := sr2.push q
    change (match t xs[i] ei with
      | none => Res.no
      | some e0 => bnd (mb e0) fun o e1 => match o with
        | .nx => forL t mb (xs.drop (i + 1)) e1
        | .ct => forL t mb (xs.drop (i + 1)) e1
        | .bk => .ok .nx e1
        | .rt w => .ok (.rt w) e1) = _ at hf
    cases ht : t xs[i] ei with
    | none => rw [ht] at hf; cases hf
    | some e0 =>
    rw [ht] at hf
    obtain ⟨ob, e2, hb2, hf⟩ := bnd_eq_ok hf
    refine hgs p0 (S ++ T) σ2 ei H' x xs[i] e0 _ hn sr3 ht fun σ3 _ sr4 => ⟨p0, S ++ T, e0, ob, e2, sr4, g3, hb2, ?_⟩
    cases ob with
    | nx => exact fun σ4 H4 q4 g4 => ⟨e2, q4, g4, hf⟩
    | ct => exact fun σ4 H4 q4 g4 => ⟨e2, q4, g4, hf⟩
    | bk => cases hf; exact fun σ4 H4 q4 g4 => hQ σ4 H4 fun _ => q4.sub (List.sublist_append_right _ _)
    | rt w => cases hf; exact fun v σ4 H4 q4 g4 => hQ v σ4 H4 fun _ => q4.sub (List.Sublist.cons_cons _ (List.sublist_append_right _ _))
  · have e : i = xs.length := by omega
    subst e
    rw [List.drop_length] at hf
    cases hf
    exact .inl ⟨io.stop H2 _ sr2.rels hS, hQ σ2 H2 fun _ => sr2.sub (List.sublist_append_right _ _)⟩

/-! ### while -/
def whL (t : MT) (b : MS) : Nat → MS
  | 0, _ => .no
  | n + 1, e => bnd (t e) fun c e1 => if c = true then bnd (b e1) fun o e2 => match o with
      | .nx => whL t b n e2
      | .ct => whL t b n e2
      | .bk => .ok .nx e2
      | .rt w => .ok (.rt w) e2
    else .ok .nx e1
def sWh (n : Nat) (t : MT) (b : MS) : MS := fun e => whL t b n e
theorem ps_whileM {c : Expr} {body : List Stmt} {pos : Pos} {n : Nat} {mc : MT} {mb : MS} (hp : PassesOwn (model X.prog X.w) X.A X.env X.xe) (hc : PT X c (tM X.K P mc)) (hb : PSs X body (tS X.K P mb)) :
    PS X (.While c body [] pos) (tS X.K P (sWh n mc mb)) := mkS (ps_while hp hc hb) fun p0 T σ env H o env' D sr gd hl hm hQ => by
  refine ⟨fun m σ H => ∃ ei, SR X.K P p0 T σ ei H ∧ Good X.K H ∧ whL mc mb m ei = .ok o env', ⟨n, env, sr, gd, hm⟩, ?_⟩
  rintro m σ2 H2 ⟨ei, sr2, g2, hf⟩
  cases m with
  | zero => cases hf
  | succ m =>
  obtain ⟨k, e1, h1, hf⟩ := bnd_eq_ok (show bnd (mc ei) _ = _ from hf)
  refine ⟨p0, T, ei, k, e1, sr2, g2, h1, fun H3 sr3 g3 => ?_⟩
  cases k with
  | true =>
    rw [if_pos rfl] at hf
    obtain ⟨ob, e2, hb2, hf⟩ := bnd_eq_ok hf
    rw [if_pos rfl]
    refine ⟨fun σ' H' => ∃ ei, SR X.K P p0 T σ' ei H' ∧ Good X.K H' ∧ whL mc mb m ei = .ok o env', fun σ' H' q => ⟨m, Nat.lt_succ_self _, q⟩, p0, T, e1, ob, e2, sr3, g3, hb2, ?_⟩
    cases ob with
    | nx => exact fun σ4 H4 q4 g4 => ⟨e2, q4, g4, hf⟩
    | ct => exact fun σ4 H4 q4 g4 => ⟨e2, q4, g4, hf⟩
    | bk => cases hf; exact fun σ4 H4 q4 g4 => hQ σ4 H4 fun _ => q4
    | rt w => cases hf; exact fun v σ4 H4 q4 g4 => hQ v σ4 H4 fun _ => q4
  | false =>
    rw [if_neg (by simp)] at hf
    cases hf
    rw [if_neg (by simp)]
    exact hQ σ2 H3 fun _ => sr3
/-- a target = a value -/
def sTg (t : Tg) (m : ME) : MS := fun e => bnd (m e) fun w e1 => match t (vw w) e1 with
  | some e2 => .ok .nx e2
  | none => .no
theorem ps_tgM {ws : List Nat} {e : Expr} {m : ME} {g : TG} {t : Tg} {pos : Pos} (hgs : TgS X.K P X.N.length ws g t) (h : PS X (.Assign [tg] e pos) (tAsg (tE X.K P m) g)) : PS X (.Assign [tg] e pos) (tS X.K P (sTg t m)) := mkS h fun p0 T σ env H o env' D sr gd hl hm hQ => by
  obtain ⟨w, e1, h1, hm⟩ := bnd_eq_ok hm
  have hn : p0.length = X.N.length := by rw [sr.len0, hl]
  refine ⟨p0, T, env, w, e1, sr, gd, h1, fun v H1 sr1 g1 => ?_⟩
  cases ht : t (vw w) e1 with
  | none => rw [ht] at hm; cases hm
  | some e2 =>
    rw [ht] at hm
    cases hm
    exact hgs p0 T σ e1 H1 v _ _ _ hn sr1.fz ht fun σ' _ q => hQ σ' H1 fun _ => q
end
end Mi
set_option Elab.async false
set_option linter.all false
set_option maxRecDepth 100000
set_option maxHeartbeats 4000000
/-! Mi6: list comprehensions -/
namespace Mi
open PySem PySem.Spec PyProof.Rows L2

def wipeE (e : Env) : List Nat → Env
  | [] => e
  | v :: vs => (wipeE e vs).set v none
def cmpL (tg : Tg) (tt : MT) (te : ME) (vs : List Nat) : List D → Env → Res (List D)
  | [], e => .ok [] e
  | x :: xs, e => match tg x e with
    | none => .no
    | some e0 => bnd (tt e0) fun b e1 => if b = true then bnd (te e1) fun w e2 => bnd (cmpL tg tt te vs xs (wipeE e2 vs)) fun ds e3 => .ok (vw w :: ds) e3
      else cmpL tg tt te vs xs (wipeE e1 vs)
def eLc (src : MI) (tg : Tg) (tt : MT) (te : ME) (vs : List Nat) : ME := fun e => bnd (src e) fun xs e1 => if xs.length < 16777216 then bnd (cmpL tg tt te vs xs (wipeE e1 vs)) fun ds e2 => .ok (.l ds) e2 else .no
def mYes : MT := fun e => .ok true e

section
variable {K : KK} {P : List Nat} {p0 : L2.St} {T : List (V × W)} {H : Hp}
theorem wipeE_len (e : Env) : ∀ vs : List Nat, (wipeE e vs).length = e.length
  | [] => rfl
  | v :: vs => by simp [wipeE, wipeE_len e vs]
theorem SR.wip {σ : L2.St} {env : Env} (h : SR K P p0 T σ env H) : ∀ (vs : List Nat), (∀ v ∈ vs, v < σ.length) → (∀ v ∈ vs, v ∉ P) → SR K P p0 T (wipe σ vs) (wipeE env vs) H
  | [], _, _ => h
  | v :: vs, h1, h2 => by
    have q := SR.wip h vs (fun x hx => h1 x (List.mem_cons_of_mem _ hx)) fun x hx => h2 x (List.mem_cons_of_mem _ hx)
    exact q.clear (by rw [wipe_length]; exact h1 v List.mem_cons_self) (h2 v List.mem_cons_self)
theorem wipe_wipe {σ : L2.St} : ∀ (ws vs : List Nat), (∀ v ∈ ws, v ∈ vs) → wipe (wipe σ ws) vs = wipe σ vs
  | [], vs, _ => rfl
  | w :: ws, vs, h => by
    simp only [wipe]
    rw [wipe_set_in (h w List.mem_cons_self)]
    exact wipe_wipe ws vs fun v hv => h v (List.mem_cons_of_mem _ hv)
theorem wipeE_none {e : Env} : ∀ {vs : List Nat} {v : Nat}, v ∈ vs → (wipeE e vs).getD v none = none
  | u :: us, v, h => by
    simp only [wipeE]
    rw [set_getD]
    split
    · rfl
    · rename_i hn
      rcases List.mem_cons.mp h with e' | e'
      · subst e'
        have : ¬ v < (wipeE e us).length := fun z => hn ⟨rfl, z⟩
        rw [List.getD_eq_getElem?_getD, List.getElem?_eq_none (by omega)]
        rfl
      · exact wipeE_none e'
theorem pr_none : ∀ {σ : L2.St} {env : Env} {i : Nat} (s : Option V), env.getD i none = none → pr (σ.set i s) env = pr σ env
  | [], _, _, _, _ => by simp
  | _ :: _, [], i, _, _ => by cases i <;> simp [pr]
  | a :: σ, x :: e, 0, s, h => by
    have hx : x = none := h
    subst hx
    simp only [List.set_cons_zero, pr]
    congr 1
    cases s <;> cases a <;> rfl
  | a :: σ, x :: e, i + 1, s, h => by
    simp only [List.set_cons_succ, pr]
    rw [pr_none (σ := σ) (env := e) (i := i) s (by simpa using h)]
theorem pr_wipe {σ : L2.St} {env : Env} : ∀ (vs : List Nat), (∀ v ∈ vs, env.getD v none = none) → pr (wipe σ vs) env = pr σ env
  | [], _ => rfl
  | v :: vs, h => by
    simp only [wipe]
    rw [pr_none none (h v List.mem_cons_self)]
    exact pr_wipe vs fun u hu => h u (List.mem_cons_of_mem _ hu)
theorem SR.unwipe {σ : L2.St} {env : Env} (vs : List Nat) (hv : ∀ v ∈ vs, v ∉ P) (h : SR K P p0 T (wipe σ vs) env H) (he : ∀ v ∈ vs, env.getD v none = none) : SR K P p0 T σ env H := by
  have hl : (wipe σ vs).length = σ.length := wipe_length σ vs
  refine ⟨?_, by rw [← hl]; exact h.len, by rw [← hl]; exact h.len0, fun i w e => ?_, fun i hi => ?_⟩
  · rw [← pr_wipe (σ := σ) vs he]; exact h.rels
  · obtain ⟨v, q⟩ := h.cov i w e
    exact ⟨v, (wipe_some q).1⟩
  · have hni : i ∉ vs := fun z => hv i z hi
    have e : (wipe σ vs)[i]? = σ[i]? := wipe_out hni
    rw [← e]
    exact h.par i hi
end

section
variable {X : Cx} {P : List Nat}
def tT (K : KK) (P : List Nat) (m : MT) : TT := tM K P m
theorem pts_yesM : PTs X [] (tM X.K P mYes) := ⟨fun pins s σ H Q I hq => by
  obtain ⟨p0, T, env, b, env', sr, g, hm, hQ⟩ := hq
  cases hm
  exact pts_nil.run pins s σ H Q I (hQ H sr g)⟩
theorem pts_oneM {c : Expr} {m : MT} (h : PT X c (tM X.K P m)) : PTs X [c] (tM X.K P m) := pts_one h

/-- the reading of a comprehension from its mirror -/
theorem lcM {src : MI} {g : TG} {t : Tg} {mt : MT} {me : ME} {vs : List Nat} (hvP : ∀ v ∈ vs, v ∉ P) (hvN : ∀ v ∈ vs, v < X.N.length) (hgs : TgS X.K P X.N.length vs g t)
    {p0 : L2.St} {T : List (V × W)} {σ : L2.St} {env : Env} {H : Hp} {w : W} {env' : Env} {Q : VK} (sr : SR X.K P p0 T σ env H) (gd : Good X.K H) (hl : p0.length = X.N.length) (hm : eLc src t mt me vs env = .ok w env')
    (hQ : ∀ v H', (Good X.K H' → SR X.K P p0 ((v, w) :: T) σ env' H') → Q v H') :
    tLc (tI X.K P src) (fun v σ H Q => Good X.K H → g v σ H Q) (tM X.K P mt) (tE X.K P me) vs σ H Q := by
  obtain ⟨xs, e1, h1, hm⟩ := bnd_eq_ok hm
  split at hm
  rotate_left
  · cases hm
  rename_i hsz
  obtain ⟨ds, e2, h2, hm⟩ := bnd_eq_ok hm
  cases hm
  refine ⟨p0, T, env, xs, e1, sr, gd, h1, fun J S H1 io sr1 g1 Da hDa => ?_⟩
  have hσ : σ.length = X.N.length := by rw [← hl, sr.len0]
  have sr1w := sr1.wip vs (fun v hv => by rw [hσ]; exact hvN v hv) hvP
  refine ⟨fun i m H => m = xs.length - i ∧ i ≤ xs.length ∧ ∃ ei acc rest, acc ++ rest = ds ∧ acc.length ≤ i ∧ (∀ v ∈ vs, ei.getD v none = none) ∧ Rels X.K H (pr (wipe σ vs) ei ++ (S ++ T)) ∧
      (Good X.K H → SR X.K P p0 ((.ref Da, .l acc) :: (S ++ T)) (wipe σ vs) ei H) ∧ cmpL t mt me vs (xs.drop i) ei = .ok rest env', ⟨xs.length, by simp, Nat.zero_le _, wipeE e1 vs, [], ds, rfl, Nat.le_refl _, fun v hv => wipeE_none hv, ?_, fun g2 => ?_, by simpa using h2⟩, ?_⟩
  · exact sr1w.rels.laid hDa
  · have hk : X.K.lookup Da = none := by
      cases q : X.K.lookup Da with
      | none => rfl
      | some o => have := g2 Da o q; rw [upd_same] at this; cases this
    exact sr1w.push (sr1w.rels.newOwn hDa hk rfl)
  rintro i m H2 ⟨rfl, hi2, ei, acc, rest, hds, hacc, hei, rl, srg, hf⟩
  have hS : ∀ p ∈ S, p ∈ pr (wipe σ vs) ei ++ (S ++ T) := fun p z => List.mem_append_right _ (List.mem_append_left _ z)
  by_cases hlt : i < xs.length
  · have hx : xs[i]? = some xs[i] := by simp [hlt]
    rw [List.drop_eq_getElem_cons hlt] at hf
    refine .inr ⟨io.go i H2 _ hlt rl hS, fun H' => ∃ ei acc rest, acc ++ rest = ds ∧ acc.length ≤ i + 1 ∧ (∀ v ∈ vs, ei.getD v none = none) ∧ Rels X.K H' (pr (wipe σ vs) ei ++ (S ++ T)) ∧
      (Good X.K H' → SR X.K P p0 ((.ref Da, .l acc) :: (S ++ T)) (wipe σ vs) ei H') ∧ cmpL t mt me vs (xs.drop (i + 1)) ei = .ok rest env', fun H' q => ⟨xs.length - (i + 1), by omega, rfl, hlt, q⟩, fun x H' y g3 => ?_⟩
    obtain ⟨gH2, _⟩ := io.yld i H2 _ x H' _ rl hS hx y g3
    have sr2 := srg gH2
    have hS2 : ∀ p ∈ S, p ∈ pr (wipe σ vs) ei ++ ((.ref Da, .l acc) :: (S ++ T)) := fun p z => List.mem_append_right _ (List.mem_cons_of_mem _ (List.mem_append_left _ z))
    obtain ⟨_, q⟩ := io.yld i H2 _ x H' _ sr2.rels hS2 hx y g3
    have sr3 : SR X.K P p0 ((x, .d xs[i]) :: ((.ref Da, .l acc) :: (S ++ T))) (wipe σ vs) ei H' := sr2.push q
    change (match t xs[i] ei with
      | none => Res.no
      | some e0 => bnd (mt e0) fun b e1 => if b = true then bnd (me e1) fun w e2 => bnd (cmpL t mt me vs (xs.drop (i + 1)) (wipeE e2 vs)) fun ds e3 => .ok (vw w :: ds) e3
        else cmpL t mt me vs (xs.drop (i + 1)) (wipeE e1 vs)) = _ at hf
    cases ht : t xs[i] ei with
    | none => rw [ht] at hf; cases hf
    | some e0 =>
    rw [ht] at hf
    obtain ⟨b, e3, hb, hf⟩ := bnd_eq_ok hf
    have wlen : (wipe σ vs).length = X.N.length := by rw [wipe_length, hσ]
    refine hgs p0 _ (wipe σ vs) ei H' x xs[i] e0 _ hl sr3 ht fun σ2 wp sr4 => ?_
    have ww : wipe σ2 vs = wipe σ vs := wp.trans (wipe_wipe vs vs fun _ z => z)
    have l2 : σ2.length = X.N.length := by rw [← sr4.len0, hl]
    refine ⟨ww, p0, _, e0, b, e3, sr4, g3, hb, fun H3 sr5 g5 => ?_⟩
    cases b with
    | true =>
      rw [if_pos rfl] at hf ⊢
      obtain ⟨w4, e4, h4, hf⟩ := bnd_eq_ok hf
      obtain ⟨ds', e5, h5, hf⟩ := bnd_eq_ok hf
      cases hf
      refine ⟨p0, _, e3, w4, e4, sr5, g5, h4, fun y H4 sr6 g6 => ?_⟩
      have sr6 := sr6.fz
      have hacc' : ∃ us, H4 Da = some (.lst us) ∧ Dats X.K H4 (owned H4 (pr σ2 e4 ++ ((y, W.d (vw w4)) :: (V.ref Da, W.l acc) :: (S ++ T)))) acc us := by
        have q := sr6.rels.at_ (V.ref Da, W.l acc) (List.mem_append_right _ (List.mem_cons_of_mem _ List.mem_cons_self))
        simp only [RW] at q
        obtain ⟨a, us, e, q1, q2⟩ := q
        cases e
        exact ⟨us, q1, q2⟩
      obtain ⟨us, hus, hdus⟩ := hacc'
      refine ⟨us, hus, by rw [← hdus.length, sizeLine_eq]; omega, ?_⟩
      have hy : Dat X.K H4 (owned H4 (pr σ2 e4 ++ ((y, W.d (vw w4)) :: (V.ref Da, W.l acc) :: (S ++ T)))) (vw w4) y := by simpa only [RW] using sr6.rels.at_ (y, W.d (vw w4)) (List.mem_append_right _ List.mem_cons_self)
      have pq : (pr σ2 e4 ++ ((y, W.d (vw w4)) :: (V.ref Da, W.l acc) :: (S ++ T))).Perm ((V.ref Da, W.l acc) :: (pr σ2 e4 ++ ((y, W.d (vw w4)) :: (S ++ T)))) := by
        refine List.Perm.trans (List.Perm.append_left _ (List.Perm.swap _ _ _)) List.perm_middle
      have wr := (sr6.rels.perm pq).write (ys := acc ++ [vw w4]) (us := us ++ [y]) ((hdus.append (Dats.one hy)).to (fun _ _ _ z => z) fun b z => (ownedM _ pq).mpr z)
      have sr7 : SR X.K P p0 ((V.ref Da, W.l (acc ++ [vw w4])) :: (S ++ T)) σ2 e4 (upd H4 Da (.lst (us ++ [y]))) := by
        refine sr6.re (wr.sub ?_ |>.perm List.perm_middle.symm)
        refine List.Sublist.cons_cons _ (List.Sublist.append_left (List.sublist_cons_self _ _) _)
      have sr8 := sr7.wip vs (fun v hv => by rw [l2]; exact hvN v hv) hvP
      rw [ww] at sr8
      refine ⟨wipeE e4 vs, acc ++ [vw w4], ds', by rw [← hds]; simp, by simp; omega, fun v hv => wipeE_none hv, ?_, fun _ => sr8, h5⟩
      exact sr8.drop.rels
    | false =>
      rw [if_neg (by simp)] at hf ⊢
      have sr8 := sr5.wip vs (fun v hv => by rw [l2]; exact hvN v hv) hvP
      rw [ww] at sr8
      exact ⟨wipeE e3 vs, acc, rest, hds, by omega, fun v hv => wipeE_none hv, sr8.drop.rels, fun _ => sr8, hf⟩
  · have e : i = xs.length := by omega
    subst e
    rw [List.drop_length] at hf
    cases hf
    refine .inl ⟨io.stop H2 _ rl hS, hQ (.ref Da) H2 fun g2 => ?_⟩
    have := (srg g2).unwipe vs hvP hei
    rw [List.append_nil] at hds
    rw [← hds]
    exact this.sub (List.Sublist.cons_cons _ (List.sublist_append_right _ _))
end
end Mi
set_option Elab.async false
set_option linter.all false
set_option maxRecDepth 100000
set_option maxHeartbeats 4000000
/-! Mi7: comprehensions as expressions, defs, calls -/
namespace Mi
open PySem PySem.Spec PyProof.Rows L2

section
variable {X : Cx} {P : List Nat} {e : Expr}
theorem mkE' {t : TE} {m : ME} (h : PE X e t)
    (k : ∀ (p0 : L2.St) (T : List (V × W)) (σ : L2.St) (env : Env) (H : Hp) (w : W) (env' : Env) (Q : VK), p0.length = X.N.length → SR X.K P p0 T σ env H → Good X.K H → m env = .ok w env' →
      (∀ v H', (Good X.K H' → SR X.K P p0 ((v, w) :: T) σ env' H') → Q v H') → t σ H Q) : PE X e (tE X.K P m) := by
  refine ⟨fun pins s σ H Q I hq => ?_⟩
  obtain ⟨p0, T, env, w, env', sr, g, hm, hQ⟩ := hq
  refine thn (h.run pins s σ H (fun v H' => Good X.K H' → Q v H') I (k p0 T σ env H w env' _ (by rw [sr.len0, I.len]) sr g hm fun v H' q g' => hQ v H' (q g') g')) ?_
  rintro u s' ⟨v, H', I', r, q⟩
  exact ⟨v, H', I', r, q (inv_good I')⟩
theorem vsP {vs P : List Nat} (h : (vs.all fun v => !P.contains v) = true) : ∀ v ∈ vs, v ∉ P := fun v hv z => by
  have := List.all_eq_true.mp h v hv
  rw [List.contains_iff_mem.mpr z] at this
  cases this
theorem vsN {vs : List Nat} {n : Nat} (h : (vs.all fun v => decide (v < n)) = true) : ∀ v ∈ vs, v < n := fun v hv => of_decide_eq_true (List.all_eq_true.mp h v hv)
theorem pe_lcM {elt tg iter : Expr} {ifs : List Expr} {scope : Scope} {own : List (Str × Nat)} {pos : Pos} {src : MI} {g : TG} {t : Tg} {mt : MT} {me : ME} {vs : List Nat} (hvs : own.map (·.2) = vs) (hvP : (vs.all fun v => !P.contains v) = true) (hvN : (vs.all fun v => decide (v < X.N.length)) = true)
    (hgs : TgS X.K P X.N.length vs g t) (hc : X.calm = true) (hN : X.N.Nodup) (hi : PI X tg iter (tI X.K P src)) (ok : BlkOk X.N X.env.scope scope own)
    (hg : ∀ (s : Shared) (H : Hp) (C : Addr) (cl : List (Str × Addr)) (fp : List Addr), PG (X.blk s H scope (compEnvC scope cl C X.env) fp) tg g)
    (ht : ∀ (s : Shared) (H : Hp) (C : Addr) (cl : List (Str × Addr)) (fp : List Addr), PTs (X.blk s H scope (compEnvC scope cl C X.env) fp) ifs (tM X.K P mt))
    (he : ∀ (s : Shared) (H : Hp) (C : Addr) (cl : List (Str × Addr)) (fp : List Addr), PE (X.blk s H scope (compEnvC scope cl C X.env) fp) elt (tE X.K P me)) (hs : ∀ x, foldedSetIterable iter X.env x = pure x := by intro _; rfl) :
    PE X (.ListComp elt [⟨tg, iter, ifs, 0⟩] scope pos) (tE X.K P (eLc src t mt me vs)) := by
  subst hvs
  exact mkE' (pe_lc hc hN hi ok (fun s H C cl fp => pg_good (hg s H C cl fp)) ht he hs) fun p0 T σ env H w env' Q hl sr gd hm hQ => lcM (vsP hvP) (vsN hvN) hgs sr gd hl hm hQ
theorem ps_setLcM {i : Nat} {y : Str} {py : Pos} {elt tg iter : Expr} {ifs : List Expr} {scope : Scope} {own : List (Str × Nat)} {pos spos : Pos} {src : MI} {g : TG} {t : Tg} {mt : MT} {me : ME} {vs : List Nat} (hvs : own.map (·.2) = vs) (hvP : (vs.all fun v => !P.contains v) = true) (hvN : (vs.all fun v => decide (v < X.N.length)) = true)
    (hiP : P.contains i = false) (hgs : TgS X.K P X.N.length vs g t) (hc : X.calm = true) (hN : X.N.Nodup) (hy : X.N[i]? = some y) (hyl : X.env.scope.names.lookup y = some .local)
    (hsw : swapsWith (.ListComp elt [⟨tg, iter, ifs, 0⟩] scope pos) (some (.Name y py)) spos.line X.env = pure true) (hi : PI X tg iter (tI X.K P src)) (ok : BlkOk X.N X.env.scope scope own)
    (hg : ∀ (s : Shared) (H : Hp) (C : Addr) (cl : List (Str × Addr)) (fp : List Addr), PG (X.blk s H scope (compEnvC scope cl C X.env) fp) tg g)
    (ht : ∀ (s : Shared) (H : Hp) (C : Addr) (cl : List (Str × Addr)) (fp : List Addr), PTs (X.blk s H scope (compEnvC scope cl C X.env) fp) ifs (tM X.K P mt))
    (he : ∀ (s : Shared) (H : Hp) (C : Addr) (cl : List (Str × Addr)) (fp : List Addr), PE (X.blk s H scope (compEnvC scope cl C X.env) fp) elt (tE X.K P me)) (hs : ∀ x, foldedSetIterable iter X.env x = pure x := by intro _; rfl) :
    PS X (.Assign [.Name y py] (.ListComp elt [⟨tg, iter, ifs, 0⟩] scope pos) spos) (tS X.K P (sSet i (eLc src t mt me vs))) := by
  subst hvs
  have hiP' : i ∉ P := fun z => by rw [List.contains_iff_mem.mpr z] at hiP; cases hiP
  exact mkS (ps_setLc hc hN hy hyl hsw hi ok (fun s H C cl fp => pg_good (hg s H C cl fp)) ht he hs) fun p0 T σ env H o env' D sr gd hl hm hQ => by
    obtain ⟨w, e1, h1, hm⟩ := bnd_eq_ok hm
    cases hm
    have hl0 : p0.length = X.N.length := by rw [sr.len0, hl]
    exact lcM (Q := fun v H' => D.nx (σ.set i (some v)) H') (vsP hvP) (vsN hvN) hgs sr gd hl0 h1 fun v H' q => hQ _ H' fun g2 => (q g2).store (by rw [hl]; exact (List.getElem?_eq_some_iff.mp hy).1) hiP'
end

/-! ### what a def gives -/
inductive CRes where
  | ok (w : W) (outs : List W)
  | ex (x : Exn) (outs : List W)
  | no
abbrev Orc := Nat → List W → CRes
def takeA : List (Nat ⊕ D) → Env → Option (List W × Env)
  | [], e => some ([], e)
  | .inl i :: rs, e => match e.getD i none with
    | some w => if isO w = true then (match takeA rs (e.set i none) with
      | some p => some (w :: p.1, p.2)
      | none => none) else none
    | none => none
  | .inr d :: rs, e => match takeA rs e with
    | some p => some (.d d :: p.1, p.2)
    | none => none
def putO : List (Nat ⊕ D) → List W → Env → Option Env
  | [], [], e => some e
  | .inl i :: rs, w :: os, e => if isO w = true then (match putO rs os e with
    | some e2 => some (e2.set i (some w))
    | none => none) else none
  | .inr _ :: rs, os, e => putO rs os e
  | _, _, _ => none
def updW : List W → List W → List W
  | [], _ => []
  | w :: ws, [] => w :: updW ws []
  | w :: ws, o :: os => if isO w = true then o :: updW ws os else w :: updW ws (o :: os)
def eCall (C : Orc) (k : Nat) (as : List Arg) : ME := fun e => bnd (evG as e) fun rs e1 => match takeA rs e1 with
  | some p => (match C k p.1 with
    | .ok w outs => (match putO rs outs p.2 with
      | some e2 => .ok w e2
      | none => .no)
    | .ex x outs => (match putO rs outs p.2 with
      | some e2 => .ex x e2
      | none => .no)
    | .no => .no)
  | none => .no
/-- a def's promise by its mirror -/
def spF (K : KK) (n : Nat) (F : List W → CRes) : Sp := fun vs H Q _ => ∃ T ws w outs, vs.length = n ∧ vs.length = ws.length ∧ Rels K H (vs.zip ws ++ T) ∧ Good K H ∧ F ws = .ok w outs ∧
  ∀ v H', Rels K H' ((v, w) :: (vs.zip (updW ws outs) ++ T)) → Q v H'

section
variable {K : KK} {H H' : Hp} {σ : L2.St}
theorem pr_clear {e : Env} {i : Nat} {v : V} {w : W} (hv : σ[i]? = some (some v)) (hw : e.getD i none = some w) (hl : σ.length = e.length) : (pr σ e).Perm ((v, w) :: pr σ (e.set i none)) ∧ ∀ w', (pr σ ((e.set i none).set i (some w'))).Perm ((v, w') :: pr σ (e.set i none)) := by
  have hi : i < σ.length := (List.getElem?_eq_some_iff.mp hv).1
  obtain ⟨A, B, h1, h2⟩ := pr_set hi hl
  have hs : σ.getD i none = some v := by rw [List.getD_eq_getElem?_getD, hv]; rfl
  have e2 : σ.set i (some v) = σ := by
    apply List.ext_getElem?
    intro j
    rw [List.getElem?_set]
    by_cases hj : i = j
    · subst hj; rw [if_pos rfl, if_pos hi, hv]
    · rw [if_neg hj]
  have c := h2 (some v) none
  rw [e2] at c
  simp only [pc, List.nil_append] at c
  refine ⟨?_, fun w' => ?_⟩
  · rw [h1, hs, hw, c]
    simp only [pc, List.singleton_append]
    exact List.perm_middle
  · rw [List.set_set]
    have c2 := h2 (some v) (some w')
    rw [e2] at c2
    rw [c2, c]
    simp only [pc, List.singleton_append]
    exact List.perm_middle
theorem pr_fill {e : Env} {i : Nat} {v : V} {w : W} (hv : σ[i]? = some (some v)) (hw : e.getD i none = none) (hl : σ.length = e.length) : (pr σ (e.set i (some w))).Perm ((v, w) :: pr σ e) := by
  have hi : i < σ.length := (List.getElem?_eq_some_iff.mp hv).1
  obtain ⟨A, B, h1, h2⟩ := pr_set hi hl
  have hs : σ.getD i none = some v := by rw [List.getD_eq_getElem?_getD, hv]; rfl
  have e2 : σ.set i (some v) = σ := by
    apply List.ext_getElem?
    intro j
    rw [List.getElem?_set]
    by_cases hj : i = j
    · subst hj; rw [if_pos rfl, if_pos hi, hv]
    · rw [if_neg hj]
  have c := h2 (some v) (some w)
  rw [e2] at c
  rw [h1, hs, hw, c]
  simp only [pc, List.singleton_append, List.nil_append]
  exact List.perm_middle
theorem takeA_len : ∀ {rs : List (Nat ⊕ D)} {e : Env} {p : List W × Env}, takeA rs e = some p → p.2.length = e.length ∧ p.1.length = rs.length
  | [], e, p, h => by cases h; exact ⟨rfl, rfl⟩
  | .inl i :: rs, e, p, h => by
    unfold takeA at h
    split at h
    · split at h
      · split at h
        · rename_i q hq
          cases h
          have := takeA_len hq
          exact ⟨by simpa using this.1, by simpa using this.2⟩
        · cases h
      · cases h
    · cases h
  | .inr d :: rs, e, p, h => by
    unfold takeA at h
    split at h
    · rename_i q hq
      cases h
      have := takeA_len hq
      exact ⟨this.1, by simpa using this.2⟩
    · cases h
theorem ARel.len {O : List Addr} : ∀ {vs : List V} {rs : List (Nat ⊕ D)}, ARel K H O σ vs rs → vs.length = rs.length
  | [], [], _ => rfl
  | [], _ :: _, h => by simp [ARel] at h
  | _ :: _, [], h => by simp [ARel] at h
  | v :: vs, .inl i :: rs, h => by simp [ARel.len h.2]
  | v :: vs, .inr d :: rs, h => by simp [ARel.len h.2]
theorem splitA {O : List Addr} : ∀ {rs : List (Nat ⊕ D)} {vs : List V} {e : Env} {p : List W × Env} {T : List (V × W)}, takeA rs e = some p → σ.length = e.length → ARel K H O σ vs rs → (∀ a ∈ owned H (pr σ e ++ T), a ∈ O) → Rels K H (pr σ e ++ T) → Rels K H (vs.zip p.1 ++ (pr σ p.2 ++ T))
  | [], [], e, p, T, h, _, _, _, r => by cases h; exact r
  | [], _ :: _, _, _, _, _, _, a, _, _ => by simp [ARel] at a
  | _ :: _, [], _, _, _, _, _, a, _, _ => by simp [ARel] at a
  | .inl i :: rs, v :: vs, e, p, T, h, hl, a, hO, r => by
    unfold takeA at h
    split at h
    · rename_i w hx
      split at h
      · split at h
        · rename_i q hq
          cases h
          obtain ⟨pp, _⟩ := pr_clear a.1 hx hl
          have pp2 : (pr σ e ++ T).Perm (pr σ (e.set i none) ++ (v, w) :: T) := (pp.append_right T).trans List.perm_middle.symm
          have ih := splitA (T := (v, w) :: T) hq (by rw [List.length_set]; exact hl) a.2 (fun b z => hO b ((ownedM _ pp2).mpr z)) (r.perm pp2)
          refine ih.perm ?_
          show (vs.zip q.1 ++ (pr σ q.2 ++ (v, w) :: T)).Perm ((v, w) :: (vs.zip q.1 ++ (pr σ q.2 ++ T)))
          rw [← List.append_assoc, ← List.append_assoc]
          exact List.perm_middle
        · cases h
      · cases h
    · cases h
  | .inr d :: rs, v :: vs, e, p, T, h, hl, a, hO, r => by
    unfold takeA at h
    split at h
    · rename_i q hq
      cases h
      have r1 : Rels K H (pr σ e ++ (v, W.d d) :: T) := (r.data (a.1.to (fun _ _ _ z => z) hO)).perm List.perm_middle.symm
      have pp2 : (pr σ e ++ (v, W.d d) :: T).Perm ((v, W.d d) :: (pr σ e ++ T)) := List.perm_middle
      have ih := splitA (T := (v, W.d d) :: T) hq hl a.2 (fun b z => hO b (by
        have := (ownedM _ pp2).mp z
        rwa [owned_d] at this)) r1
      refine ih.perm ?_
      show (vs.zip q.1 ++ (pr σ q.2 ++ (v, W.d d) :: T)).Perm ((v, W.d d) :: (vs.zip q.1 ++ (pr σ q.2 ++ T)))
      rw [← List.append_assoc, ← List.append_assoc]
      exact List.perm_middle
    · cases h
theorem put_facts : ∀ {rs : List (Nat ⊕ D)} {e : Env} {p : List W × Env} {outs : List W} {e2 : Env}, takeA rs e = some p → putO rs outs p.2 = some e2 → e2.length = e.length ∧ (∀ j, e.getD j none = none → e2.getD j none = none) ∧ ∀ j x, e.getD j none = some x → isO x = true → ∃ y, e2.getD j none = some y ∧ isO y = true
  | [], e, p, outs, e2, h, g => by
    cases h
    cases outs with
    | nil => cases g; exact ⟨rfl, fun _ z => z, fun j xs z o => ⟨xs, z, o⟩⟩
    | cons _ _ => cases g
  | .inl i :: rs, e, p, outs, e2, h, g => by
    unfold takeA at h
    split at h
    · rename_i xs hx
      split at h
      · split at h
        · rename_i q hq
          cases h
          cases outs with
          | nil => cases g
          | cons ys os =>
            simp only [putO] at g
            split at g
            · rename_i hy
              split at g
              · rename_i e3 h3
                cases g
                obtain ⟨k1, k2, k3⟩ := put_facts hq h3
                have hie : i < e.length := by
                  by_cases hi : i < e.length
                  · exact hi
                  · rw [List.getD_eq_getElem?_getD, List.getElem?_eq_none (by omega)] at hx; cases hx
                refine ⟨by rw [List.length_set, k1, List.length_set], fun j hj => ?_, fun j zs hj ho => ?_⟩
                · have ne : i ≠ j := fun z => by rw [z, hj] at hx; cases hx
                  rw [set_getD, if_neg fun z => ne z.1]
                  exact k2 j (by rw [set_getD, if_neg fun z => ne z.1]; exact hj)
                · by_cases ne : i = j
                  · subst ne
                    exact ⟨ys, by rw [set_getD, if_pos ⟨rfl, by rw [k1, List.length_set]; exact hie⟩], hy⟩
                  · rw [set_getD, if_neg fun z => ne z.1]
                    exact k3 j zs (by rw [set_getD, if_neg fun z => ne z.1]; exact hj) ho
              · cases g
            · cases g
        · cases h
      · cases h
    · cases h
  | .inr d :: rs, e, p, outs, e2, h, g => by
    unfold takeA at h
    split at h
    · rename_i q hq
      cases h
      exact put_facts hq (show putO rs outs q.2 = some e2 by simpa only [putO] using g)
    · cases h
theorem joinA {O : List Addr} : ∀ {rs : List (Nat ⊕ D)} {vs : List V} {e : Env} {p : List W × Env} {outs : List W} {e2 : Env} {T : List (V × W)}, takeA rs e = some p → σ.length = e.length → ARel K H O σ vs rs → putO rs outs p.2 = some e2 →
    Rels K H' (vs.zip (updW p.1 outs) ++ (pr σ p.2 ++ T)) → Rels K H' (pr σ e2 ++ T)
  | [], [], e, p, outs, e2, T, h, _, _, g, r => by
    cases h
    cases outs with
    | nil => cases g; exact r
    | cons _ _ => cases g
  | [], _ :: _, _, _, _, _, _, _, _, a, _, _ => by simp [ARel] at a
  | _ :: _, [], _, _, _, _, _, _, _, a, _, _ => by simp [ARel] at a
  | .inl i :: rs, v :: vs, e, p, outs, e2, T, h, hl, a, g, r => by
    unfold takeA at h
    split at h
    · rename_i xs hx
      split at h
      · rename_i hxo
        split at h
        · rename_i q hq
          cases h
          cases outs with
          | nil => cases g
          | cons ys os =>
            simp only [putO] at g
            split at g
            · split at g
              · rename_i e3 h3
                cases g
                obtain ⟨k1, k2, _⟩ := put_facts hq h3
                have r1 : Rels K H' (vs.zip (updW q.1 os) ++ (pr σ q.2 ++ (v, ys) :: T)) := r.perm (by
                  show ((v :: vs).zip (updW (xs :: q.1) (ys :: os)) ++ (pr σ q.2 ++ T)).Perm _
                  rw [updW, if_pos hxo, List.zip_cons_cons, List.cons_append]
                  rw [← List.append_assoc, ← List.append_assoc]
                  exact List.perm_middle.symm)
                have ih := joinA (T := (v, ys) :: T) hq (by rw [List.length_set]; exact hl) a.2 h3 r1
                have hn : e3.getD i none = none := k2 i (by
                  rw [set_getD]
                  split
                  · rfl
                  · rename_i z
                    have : ¬ i < e.length := fun q => z ⟨rfl, q⟩
                    rw [List.getD_eq_getElem?_getD, List.getElem?_eq_none (by omega)]; rfl)
                have pf := pr_fill (w := ys) a.1 hn (by rw [k1, List.length_set]; exact hl)
                exact ih.perm (List.perm_middle.trans (pf.append_right T).symm)
              · cases g
            · cases g
        · cases h
      · cases h
    · cases h
  | .inr d :: rs, v :: vs, e, p, outs, e2, T, h, hl, a, g, r => by
    unfold takeA at h
    split at h
    · rename_i q hq
      cases h
      have g' : putO rs outs q.2 = some e2 := by simpa only [putO] using g
      refine joinA hq hl a.2 g' (Rels.tail (p := (v, W.d d)) ?_)
      have : updW (W.d d :: q.1) outs = .d d :: updW q.1 outs := by
        cases outs with
        | nil => rfl
        | cons o os => exact if_neg (by simp [isO])
      rw [this] at r
      exact r
    · cases h
end

/-- a def's promise where no repr is under way -/
structure FnG (P : Program) (w : World) (K : KK) (mg : Str → Option Value) (base : Heap) (k : Nat) (f : Addr) (fd : FuncData) (ps : List Str) (sp : Sp) : Prop where
  len : ∀ vs H Q E, sp vs H Q E → vs.length = ps.length
  run : ∀ (A : Around) (outer : List PySem.Env) (s : Shared) (H : Hp) (args : Args) (us : List Value) (vs : List V) (Q : VK), A.guards = some [] → Room k A → Env0 P w K mg base A outer s H → BindsTo s fd args (ps.zip us) → Vals vs us → sp vs H Q E0 →
    codeAny (model P w) A (.call (.ref f) args) (CR CX0 outer P w H s Q E0) s

section
variable {X : Cx} {k : Nat} {f : Addr} {fd : FuncData} {ps : List Str} {sp : Sp} {dvs : List V} {ds : List Value} {x : Str} {p pos : Pos} {e : Expr} {es : List Expr} {t : TA}
theorem run_fnG {pins : List (Addr × Obj)} {σ : L2.St} {H : Hp} {s : Shared} {Q : VK} {us : List Value} {vs : List V} (F : FnG X.prog X.w X.K X.mg X.base k f fd ps sp) (hgd : X.A.guards = some []) (hr : Room k X.A) (hb : Binds X.K fd ps ds) (hd : Vals dvs ds)
    (I : L2.Inv X pins σ H s) (r : Vals vs us) (h : sp (vs ++ dvs) H Q E0) : wpAny (model X.prog X.w) X.A (call (.ref f) us) (EP X pins σ Q) X.xe s := by
  have hl : (us ++ ds).length = ps.length := by rw [← (r.append hd).length]; exact F.len _ _ _ _ h
  refine wpAny_call (codeAny_mono (F.run X.A X.stack s H ⟨us, []⟩ _ _ Q hgd hr I.env0 (hb s us I.kIn hl) (r.append hd) h) fun res s' hq => ?_)
  match res, hq with
  | .ok (.ret u), hq => exact I.after hq
theorem pe_callG (F : FnG X.prog X.w X.K X.mg X.base k f fd ps sp) (hgd : X.A.guards = some []) (hr : Room k X.A) (hg : Gl X x) (hm : X.mg x = some (.ref f)) (hk : PySem.W.keepIn X.K (.ref f) = true) (hb : Binds X.K fd ps ds) (hd : Vals dvs ds)
    (ha : PA X (e :: es) t) (hdb : (x == ("__debug__" : Str)) = false := by decide) (he : starEach (e :: es) X.env = (false, eval e X.env) :: starEach es X.env := by rfl) (hpl : (backTo pos (starEach es X.env)).any (·.1) = false := by rfl) :
    PE X (.Call (.Name x p) (e :: es) [] pos) (fun σ H Q => t σ H fun vs H1 => sp (vs ++ dvs) H1 Q E0) := by
  refine ⟨fun pins s σ H Q I h => wpAny_Call_Name_kw (ld_glob I hg hm ?_ hdb)⟩
  refine PySem.W.callWith_K (h₀ := X.base) I.ok.mod.kin hk (thn (ha.run pos pins s σ H _ I h) ?_) he hpl
  rintro us s1 ⟨vs, H1, I1, r, q⟩
  exact ⟨I1.kIn, run_fnG F hgd hr hb hd I1 r q⟩
/-- a call of a def of the text, by its mirror -/
theorem pe_callM {P : List Nat} {C : Orc} {c n : Nat} {as : List Arg} (F : FnG X.prog X.w X.K X.mg X.base k f fd ps (spF X.K n (C c))) (hn : as.length + dvs.length = n) (hgd : X.A.guards = some []) (hr : Room k X.A) (hg : Gl X x) (hm : X.mg x = some (.ref f)) (hk : PySem.W.keepIn X.K (.ref f) = true) (hb : Binds X.K fd ps ds) (hd : Vals dvs ds) (hdv : dvs = [])
    (ha : PA X (e :: es) (tG X.K P as)) (hdb : (x == ("__debug__" : Str)) = false := by decide) (he : starEach (e :: es) X.env = (false, eval e X.env) :: starEach es X.env := by rfl) (hpl : (backTo pos (starEach es X.env)).any (·.1) = false := by rfl) :
    PE X (.Call (.Name x p) (e :: es) [] pos) (tE X.K P (eCall C c as)) := by
  subst hdv
  have evlen : ∀ {as : List Arg} {env e' : Env} {rs : List (Nat ⊕ D)}, evG as env = .ok rs e' → rs.length = as.length := by
    intro as
    induction as with
    | nil => intro env e' rs h; cases h; rfl
    | cons a as ih =>
      intro env e' rs h
      cases a with
      | rf i =>
        simp only [evG] at h
        split at h
        · obtain ⟨rs', e2, h2, h⟩ := bnd_eq_ok h
          cases h
          simp [ih h2]
        · obtain ⟨rs', e2, h2, h⟩ := bnd_eq_ok h
          cases h
          simp [ih h2]
        · cases h
      | vl m =>
        obtain ⟨w, e1, _, h⟩ := bnd_eq_ok h
        obtain ⟨rs', e2, h2, h⟩ := bnd_eq_ok h
        cases h
        simp [ih h2]
  exact mkE (pe_callG F hgd hr hg hm hk hb hd ha hdb he hpl) fun p0 T σ env H w env' Q sr gd hm hQ => by
    obtain ⟨rs, e1, h1, hm⟩ := bnd_eq_ok hm
    refine ⟨p0, T, env, rs, e1, sr, gd, h1, fun vs H1 ar sr1 g1 => ?_⟩
    split at hm
    · rename_i q hq
      split at hm
      · rename_i w' outs hC
        split at hm
        · rename_i e2 he2
          cases hm
          have hl := takeA_len hq
          obtain ⟨k1, k2, k3⟩ := put_facts hq he2
          rw [List.append_nil]
          refine ⟨pr σ q.2 ++ T, q.1, w, outs, ?_, ?_, splitA hq sr1.len ar (fun _ z => z) sr1.rels, g1, hC, fun v H2 r => hQ v H2 fun _ => ?_⟩
          · rw [ar.len, evlen h1]; simpa using hn
          · rw [ar.len, hl.2]
          · have r2 : Rels X.K H2 (vs.zip (updW q.1 outs) ++ (pr σ q.2 ++ (v, w) :: T)) := r.perm (by
              rw [← List.append_assoc, ← List.append_assoc]
              exact List.perm_middle.symm)
            have r3 := joinA (T := (v, w) :: T) hq sr1.len ar he2 r2
            exact ⟨r3, by rw [k1]; exact sr1.len, sr1.len0, fun i x hx => by
              cases hd1 : e1.getD i none with
              | none => rw [k2 i hd1] at hx; cases hx
              | some y => exact sr1.cov i y hd1, fun i hi => ⟨(sr1.par i hi).1, by
                obtain ⟨xs, hxs, ho⟩ := (sr1.par i hi).2
                exact k3 i xs hxs ho⟩⟩
        · cases hm
      · split at hm <;> cases hm
      · cases hm
    · cases hm
end
end Mi
set_option Elab.async false
set_option linter.all false
set_option maxRecDepth 100000
set_option maxHeartbeats 4000000
/-! Mi8: a def by its mirror -/
namespace Mi
open PySem PySem.Spec PyProof.Rows L2

def lpos : List W → Nat → List Nat
  | [], _ => []
  | w :: ws, i => if isO w = true then i :: lpos ws (i + 1) else lpos ws (i + 1)
def contO (e : Env) : List Nat → Option (List W)
  | [] => some []
  | i :: is => match e.getD i none with
    | some w => if isO w = true then (match contO e is with
      | some r => some (w :: r)
      | none => none) else none
    | none => none
def endF : Option (List W) → Out → CRes
  | some outs, .rt w => .ok w outs
  | some outs, .nx => .ok (.d .none) outs
  | _, _ => .no
def endX : Option (List W) → Exn → CRes
  | some outs, x => .ex x outs
  | none, _ => .no
/-- np parameters of n names; what is owned is handed on at the slots of one of Ps -/
def runF (np n : Nat) (Ps : List (List Nat)) (m : MS) (ws : List W) : CRes :=
  if ws.length = np ∧ Ps.contains (lpos ws 0) = true then
    match m (ws.map some ++ List.replicate (n - np) none) with
    | .ok o e => endF (contO e (lpos ws 0)) o
    | .ex x e => endX (contO e (lpos ws 0)) x
    | .no => .no
  else .no

section
variable {K : KK} {H H' : Hp}
theorem lpos_ge : ∀ {ws : List W} {i j : Nat}, j ∈ lpos ws i → i ≤ j ∧ ∃ w, ws[j - i]? = some w ∧ isO w = true
  | [], i, j, h => by simp [lpos] at h
  | w :: ws, i, j, h => by
    have next : j ∈ lpos ws (i + 1) → i ≤ j ∧ ∃ x, (w :: ws)[j - i]? = some x ∧ isO x = true := fun h => by
      obtain ⟨h1, ys, h2⟩ := lpos_ge h
      refine ⟨by omega, ys, ?_⟩
      have : j - i = (j - (i + 1)) + 1 := by omega
      rw [this]
      simpa using h2
    simp only [lpos] at h
    split at h
    · rename_i ho
      rcases List.mem_cons.mp h with h | h
      · subst h; exact ⟨Nat.le_refl _, w, by simp, ho⟩
      · exact next h
    · exact next h
theorem contO_cons {e' : Env} {i : Nat} {is : List Nat} {outs : List W} (h : contO e' (i :: is) = some outs) : ∃ w r, outs = w :: r ∧ e'.getD i none = some w ∧ isO w = true ∧ contO e' is = some r := by
  simp only [contO] at h
  split at h
  · rename_i w hx
    split at h
    · rename_i ho
      split at h
      · rename_i r hr
        cases h
        exact ⟨w, r, rfl, hx, ho, hr⟩
      · cases h
    · cases h
  · cases h
theorem updW_no {w : W} {ws outs : List W} (h : isO w = false) : updW (w :: ws) outs = w :: updW ws outs := by
  cases outs with
  | nil => rfl
  | cons o os => exact if_neg (by rw [h]; decide)
theorem updW_yes {w o : W} {ws os : List W} (h : isO w = true) : updW (w :: ws) (o :: os) = o :: updW ws os := if_pos h
theorem updW_mem {e' : Env} : ∀ {ws : List W} {i0 : Nat} {vs : List V} {outs : List W}, contO e' (lpos ws i0) = some outs → ∀ p ∈ vs.zip (updW ws outs), (isO p.2 = false ∧ p ∈ vs.zip ws) ∨ ∃ i, i ∈ lpos ws i0 ∧ vs[i - i0]? = some p.1 ∧ isO p.2 = true ∧ e'.getD i none = some p.2
  | [], i0, vs, outs, h, p, hp => by simp [updW] at hp
  | w :: ws, i0, [], outs, h, p, hp => by simp at hp
  | w :: ws, i0, v :: vs, outs, h, p, hp => by
    have later : ∀ r, contO e' (lpos ws (i0 + 1)) = some r → p ∈ vs.zip (updW ws r) → (isO p.2 = false ∧ p ∈ (v :: vs).zip (w :: ws)) ∨ ∃ i, i ∈ lpos ws (i0 + 1) ∧ (v :: vs)[i - i0]? = some p.1 ∧ isO p.2 = true ∧ e'.getD i none = some p.2 := fun r hr hp => by
      rcases updW_mem hr p hp with ⟨a, b⟩ | ⟨i, a, b, c, d⟩
      · exact .inl ⟨a, List.mem_cons_of_mem _ b⟩
      · have := (lpos_ge a).1
        refine .inr ⟨i, a, ?_, c, d⟩
        have e : i - i0 = (i - (i0 + 1)) + 1 := by omega
        rw [e]
        simpa using b
    simp only [lpos] at h ⊢
    cases ho : isO w with
    | true =>
      rw [if_pos ho] at h
      obtain ⟨x, r, rfl, hx, hxo, hr⟩ := contO_cons h
      rw [updW_yes ho, List.zip_cons_cons, List.mem_cons] at hp
      rcases hp with rfl | hp
      · exact .inr ⟨i0, by rw [if_pos rfl]; exact List.mem_cons_self, by simp, hxo, hx⟩
      · rcases later r hr hp with a | ⟨i, a, b⟩
        · exact .inl a
        · exact .inr ⟨i, by rw [if_pos rfl]; exact List.mem_cons_of_mem _ a, b⟩
    | false =>
      rw [if_neg (by rw [ho]; decide)] at h
      rw [updW_no ho, List.zip_cons_cons, List.mem_cons] at hp
      rcases hp with rfl | hp
      · exact .inl ⟨ho, List.mem_cons_self⟩
      · rcases later outs h hp with a | ⟨i, a, b⟩
        · exact .inl a
        · exact .inr ⟨i, by rw [if_neg (by decide)]; exact a, b⟩
theorem pr_drop_sub {σ : L2.St} {e : Env} (k : Nat) : (pr (σ.drop (k + 1)) (e.drop (k + 1))).Sublist (pr (σ.drop k) (e.drop k)) := by
  rw [← List.drop_drop, ← List.drop_drop]
  cases hσ : σ.drop k with
  | nil => simp [pr]
  | cons s σ' =>
    cases he : e.drop k with
    | nil => cases hx : List.drop 1 (s :: σ') <;> simp [pr]
    | cons x e' =>
      simp only [List.drop_succ_cons, List.drop_zero, pr]
      exact List.sublist_append_right _ _
theorem pr_drop_cons {σ : L2.St} {e : Env} {k : Nat} {v : V} {w : W} (h : σ[k]? = some (some v)) (g : e.getD k none = some w) : pr (σ.drop k) (e.drop k) = (v, w) :: pr (σ.drop (k + 1)) (e.drop (k + 1)) := by
  have h1 : k < σ.length := (List.getElem?_eq_some_iff.mp h).1
  have g1 : k < e.length := by
    by_cases hi : k < e.length
    · exact hi
    · rw [List.getD_eq_getElem?_getD, List.getElem?_eq_none (by omega)] at g; cases g
  have h2 : σ[k] = some v := by
    have := h
    rw [List.getElem?_eq_getElem h1] at this
    exact Option.some.inj this
  have g2 : e[k] = some w := by
    rw [List.getD_eq_getElem?_getD, List.getElem?_eq_getElem g1] at g
    exact g
  rw [List.drop_eq_getElem_cons h1, List.drop_eq_getElem_cons g1, h2, g2]
  rfl
theorem owned_no {v : V} {w : W} {L : List (V × W)} (h : isO w = false) : owned H ((v, w) :: L) = owned H L := by
  cases w with
  | d x => exact owned_d
  | l xs => cases h
  | t g ws => cases h
/-- the lists handed on are among what the slots bear -/
theorem sub_back {e' : Env} {σ : L2.St} : ∀ {ws : List W} {i0 : Nat} {vs : List V} {outs : List W}, contO e' (lpos ws i0) = some outs → vs.length = ws.length →
    (∀ i, i ∈ lpos ws i0 → ∃ v, vs[i - i0]? = some v ∧ σ[i]? = some (some v)) → ∃ S, S.Sublist (pr (σ.drop i0) (e'.drop i0)) ∧ owned H (vs.zip (updW ws outs)) = owned H S
  | [], i0, vs, outs, h, _, _ => ⟨[], by simp, by simp [updW]⟩
  | w :: ws, i0, [], outs, h, hl, _ => by simp at hl
  | w :: ws, i0, v :: vs, outs, h, hl, hs => by
    have hs' : ∀ i, i ∈ lpos ws (i0 + 1) → ∃ u, vs[i - (i0 + 1)]? = some u ∧ σ[i]? = some (some u) := fun i hi => by
      have hm : i ∈ lpos (w :: ws) i0 := by
        simp only [lpos]
        split
        · exact List.mem_cons_of_mem _ hi
        · exact hi
      obtain ⟨u, h1, h2⟩ := hs i hm
      have := (lpos_ge hi).1
      have e : i - i0 = (i - (i0 + 1)) + 1 := by omega
      rw [e] at h1
      exact ⟨u, by simpa using h1, h2⟩
    simp only [lpos] at h hs
    cases ho : isO w with
    | true =>
      rw [if_pos ho] at h
      obtain ⟨x, r, rfl, hx, hxo, hr⟩ := contO_cons h
      obtain ⟨S, h1, h2⟩ := sub_back hr (by simpa using hl) hs'
      obtain ⟨u, h3, h4⟩ := hs i0 (by rw [if_pos ho]; exact List.mem_cons_self)
      have hu : u = v := by simpa using h3.symm
      subst hu
      refine ⟨(u, x) :: S, ?_, ?_⟩
      · rw [pr_drop_cons h4 hx]
        exact List.Sublist.cons_cons _ h1
      · rw [updW_yes ho, List.zip_cons_cons, owned_c, owned_c, h2]
    | false =>
      rw [if_neg (by rw [ho]; decide)] at h
      obtain ⟨S, h1, h2⟩ := sub_back h (by simpa using hl) hs'
      refine ⟨S, h1.trans (pr_drop_sub i0), ?_⟩
      rw [updW_no ho, List.zip_cons_cons, owned_no ho, h2]
theorem Rels.ofMem {L L' : List (V × W)} (h : Rels K H L) (hm : ∀ p ∈ L', p ∈ L) (nd : (owned H L').Nodup) : Rels K H L' := by
  refine ⟨nd, fun p hp => RW.to (fun _ _ _ z => z) (fun a z => ?_) p.2 p.1 (fun _ _ => rfl) (h.at_ p (hm p hp))⟩
  obtain ⟨q, hq, hx⟩ := mem_owned.mp z
  exact mem_owned.mpr ⟨q, hm _ hq, hx⟩
/-- the data among the arguments -/
def dPart (l : List (V × W)) : List (V × W) := l.filter fun p => !isO p.2
theorem mem_dPart {p : V × W} {l : List (V × W)} : p ∈ dPart l ↔ p ∈ l ∧ isO p.2 = false := by
  unfold dPart
  rw [List.mem_filter]
  simp
theorem Rels.dup {L : List (V × W)} (h : Rels K H L) : ∀ (A : List (V × W)), (∀ p ∈ A, p ∈ L) → Rels K H (dPart A ++ L)
  | [], _ => h
  | (v, w) :: A, hA => by
    have ih := Rels.dup h A fun p hp => hA p (List.mem_cons_of_mem _ hp)
    unfold dPart
    rw [List.filter_cons]
    split
    · rename_i ho
      cases w with
      | d d =>
        refine Rels.data ih ?_
        have q := ih.at_ (v, .d d) (List.mem_append_right _ (hA _ List.mem_cons_self))
        simp only [RW] at q
        exact q
      | l xs => simp [isO] at ho
      | t g ws => simp [isO] at ho
    · exact ih
theorem pr_start : ∀ {vs : List V} {ws : List W} {a b : Nat}, vs.length = ws.length → a = b → pr (vs.map some ++ List.replicate a none) (ws.map some ++ List.replicate b none) = vs.zip ws
  | [], [], a, _, _, rfl => by
    simp only [List.map_nil, List.nil_append, List.zip_nil_left]
    induction a with
    | zero => rfl
    | succ a ih => simp [List.replicate_succ, pr, pc, ih]
  | [], _ :: _, _, _, h, _ => by simp at h
  | _ :: _, [], _, _, h, _ => by simp at h
  | v :: vs, w :: ws, a, b, h, e => by
    simp only [List.map_cons, List.cons_append, pr, pc, List.zip_cons_cons, List.singleton_append]
    rw [pr_start (by simpa using h) e]
    rfl
theorem map_getD {ws : List W} {n i : Nat} : (ws.map some ++ List.replicate n none).getD i none = ws[i]? := by
  rw [List.getD_eq_getElem?_getD]
  by_cases hi : i < ws.length
  · rw [List.getElem?_append_left (by simpa using hi), List.getElem?_map]
    simp [hi]
  · rw [List.getElem?_append_right (by simpa using hi), List.getElem?_eq_none (l := ws) (by omega)]
    simp only [List.getElem?_replicate]
    split <;> rfl
end

section
variable {P : Program} {w : World} {K : KK} {mg : Str → Option Value} {base : Heap} {x qual : Str} {params : Arguments} {body : List Stmt} {scope : Scope} {f : Addr} {fd : FuncData}
/-- a def of the text keeps its promise, by its body -/
theorem fnG_of {N ps : List Str} {k : Nat} {sp : Sp} {dvs : List V} {kws : List (Str × V)} (F : FunD K x qual params body scope dvs kws f fd) (S : FnScope N ps scope) (len : ∀ vs H Q E, sp vs H Q E → vs.length = ps.length)
    (hbody : ∀ (cdv : Value) (A : Around) (outer : List PySem.Env) (s : Shared) (H : Hp) (vs : List V) (Q : VK), A.guards = some [] → Room k (A.deeper (envOfC qual scope s.heap.objs.size f cdv)) → sp vs H Q E0 →
      ∃ t, PSs (cxOf CX0 P w K mg base N qual scope f cdv A outer s H E0) body t ∧ t { nx := fun _ H' => Q .non H', rt := Q } (start N vs) H) : FnG P w K mg base (k + 1) f fd ps sp := by
  obtain ⟨oc, od, dV, kV, doc, pm, an, cdv, ct, osl, hfd, lk, hcd, _, _⟩ := F.ex
  subst hfd
  constructor
  · exact len
  intro A outer s H args us vs Q hgd hr e0 hbnd hvals hpre
  have hvl := len _ _ _ _ hpre
  have KX : K.In s.heap := e0.mod.kin.keeps (fun b o e => (e0.bs b o e).1)
  have noLim : s.heap.NoLimit := e0.mod.nolimit.keeps (fun b o e => (e0.bs b o e).1)
  have kinds : ∀ y ∈ ps.zip us, scope.names.lookup y.1 = some .local ∨ (scope.names.lookup y.1 = some .cell ∧ ((cellsFrom (s.heap.objs.size + 1) scope.names []).lookup y.1).isSome = true) := by
    rintro ⟨n, v⟩ hy
    exact (S.par n (List.of_mem_zip hy).1).elim .inl fun q => .inr ⟨q, PySem.W.cellsFrom_some _ _ _ (.inl q)⟩
  refine codeAny_call_function hr.depth (KX _ _ lk) rfl S.co S.gen rfl (PySem.W.codeRec_of KX hcd) (hbnd _ _ _ _ (wpAny_newFunctionEnv_cells S.kind kinds ?_))
  intro env he s1 inC
  subst he
  refine ⟨noLim.keeps inC.toInCall.keep, codeAny_func ?_⟩
  obtain ⟨t, ht, hq⟩ := hbody cdv A outer s H vs Q hgd (hr.deeper _) hpre
  refine wpAny_mono (ht.run [] s1 _ H _ (inv_start S hr.hd e0 hvl hvals inC) hq) (fun fl s' hs => ?_) (fun _ _ z => z)
  match fl, hs with
  | .ret u, ⟨v, σ', H', J, rv, q⟩ => exact ⟨v, H', J.os, J.bare, J.base, J.hok, rv, q⟩
  | .next, ⟨σ', H', J, q⟩ => exact ⟨V.non, H', J.os, J.bare, J.base, J.hok, rfl, q⟩
  | .brk, ⟨_, _, _, q⟩ => exact q.elim
  | .cont, ⟨_, _, _, q⟩ => exact q.elim

/-- a def by the mirror of its body -/
theorem fnM {N ps : List Str} {k np n : Nat} {Ps : List (List Nat)} {m : MS} {F : List W → CRes} {dvs : List V} {kws : List (Str × V)} (FD : FunD K x qual params body scope dvs kws f fd) (S : FnScope N ps scope) (hnp : ps.length = np) (hn : N.length = n) (hF : F = runF np n Ps m)
    (hbody : ∀ (Pl : List Nat), Ps.contains Pl = true → ∀ (cdv : Value) (A : Around) (outer : List PySem.Env) (s : Shared) (H : Hp), A.guards = some [] → Room k (A.deeper (envOfC qual scope s.heap.objs.size f cdv)) →
      PSs (cxOf CX0 P w K mg base N qual scope f cdv A outer s H E0) body (tS K Pl m)) : FnG P w K mg base (k + 1) f fd ps (spF K np F) := by
  subst hF hnp hn
  refine fnG_of FD S (fun vs H Q E h => ?_) fun cdv A outer s H vs Q hgd hr h => ?_
  · obtain ⟨_, _, _, _, e, _⟩ := h
    exact e
  obtain ⟨T, ws, wr, outs, hv, hvw, rl, gd, hrun, hQ⟩ := h
  unfold runF at hrun
  split at hrun
  rotate_left
  · cases hrun
  rename_i hc
  obtain ⟨hc1, hc2⟩ := hc
  generalize hPl : lpos ws 0 = Pl at hc2 hrun
  refine ⟨_, hbody Pl hc2 cdv A outer s H hgd hr, ?_⟩
  split at hrun
  · rename_i o e' hm
    cases ho : contO e' Pl with
    | none => rw [ho] at hrun; cases hrun
    | some outs' =>
      rw [ho] at hrun
      have sr : SR K Pl (start N vs) (dPart (vs.zip ws) ++ T) (start N vs) (ws.map some ++ List.replicate (N.length - ps.length) none) H := by
        refine ⟨?_, ?_, rfl, fun i x hx => ?_, fun i hi => ⟨rfl, ?_⟩⟩
        · unfold L2.start
          rw [pr_start hvw (by rw [hv])]
          refine (rl.dup (vs.zip ws) fun p hp => List.mem_append_left _ hp).perm ?_
          rw [← List.append_assoc, ← List.append_assoc]
          exact List.Perm.append_right _ List.perm_append_comm
        · unfold L2.start
          simp only [List.length_append, List.length_map, List.length_replicate]
          omega
        · rw [map_getD] at hx
          have hi : i < ws.length := (List.getElem?_eq_some_iff.mp hx).1
          have hi2 : i < vs.length := by omega
          refine ⟨vs[i], ?_⟩
          unfold L2.start
          rw [List.getElem?_append_left (by simpa using hi2), List.getElem?_map]
          simp [hi2]
        · rw [map_getD]
          rw [← hPl] at hi
          obtain ⟨_, xs, hx, hxo⟩ := lpos_ge hi
          exact ⟨xs, by simpa using hx, hxo⟩
      -- the end, for a value that is held
      have fin : ∀ (σ' : L2.St) (H' : Hp) (v : V) (wv : W), SR K Pl (start N vs) ((v, wv) :: (dPart (vs.zip ws) ++ T)) σ' e' H' → Rels K H' ((v, wv) :: (vs.zip (updW ws outs') ++ T)) := fun σ' H' v wv s2 => by
        rw [← hPl] at ho
        have hst : ∀ i, i ∈ lpos ws 0 → ∃ u, vs[i - 0]? = some u ∧ σ'[i]? = some (some u) := fun i hi => by
          obtain ⟨_, x, hx, _⟩ := lpos_ge hi
          have hi2 : i < vs.length := by rw [hvw]; exact (List.getElem?_eq_some_iff.mp (by simpa using hx)).1
          refine ⟨vs[i], by simp [hi2], ?_⟩
          rw [(s2.par i (by rw [← hPl]; exact hi)).1]
          unfold L2.start
          rw [List.getElem?_append_left (by simpa using hi2), List.getElem?_map]
          simp [hi2]
        have inPr : ∀ i w u, i ∈ lpos ws 0 → vs[i]? = some u → e'.getD i none = some w → (u, w) ∈ pr σ' e' := fun i xs u hi hu he => by
          obtain ⟨u', h1, h2⟩ := hst i hi
          have : u' = u := by
            have e1 : vs[i]? = some u' := by simpa using h1
            rw [hu] at e1; exact (Option.some.inj e1).symm
          subst this
          exact pr_mem (i := i) h2 he
        refine s2.top.ofMem (fun p hp => ?_) ?_
        · rcases List.mem_cons.mp hp with rfl | hp
          · exact List.mem_cons_self
          refine List.mem_cons_of_mem _ ?_
          rcases List.mem_append.mp hp with hp | hp
          · rcases updW_mem ho p hp with ⟨a, b⟩ | ⟨i, a, b, c, d⟩
            · exact List.mem_append_right _ (List.mem_append_left _ (mem_dPart.mpr ⟨b, a⟩))
            · exact List.mem_append_left _ (inPr i _ _ a (by simpa using b) d)
          · exact List.mem_append_right _ (List.mem_append_right _ hp)
        · obtain ⟨S', h1, h2⟩ := sub_back (H := H') ho hvw hst
          have top := s2.top.nd
          rw [List.drop_zero, List.drop_zero] at h1
          have : (owned H' ((v, wv) :: (vs.zip (updW ws outs') ++ T))).Sublist (owned H' ((v, wv) :: (pr σ' e' ++ (dPart (vs.zip ws) ++ T)))) := by
            rw [owned_c, owned_c, owned_app, owned_app, owned_app, h2]
            refine List.Sublist.append_left (List.Sublist.append (ownedS _ h1) (List.sublist_append_right _ _)) _
          exact top.sublist this
      refine ⟨_, _, _, o, e', sr, gd, hm, ?_⟩
      cases o with
      | rt w' =>
        cases hrun
        exact fun v σ' H' s2 _ => hQ v H' (fin σ' H' v _ s2)
      | nx =>
        cases hrun
        exact fun σ' H' s2 _ => hQ .non H' (fin σ' H' .non _ (s2.push (s2.rels.data (by simp [Dat]))))
      | bk => cases hrun
      | ct => cases hrun
  · rename_i x e' hm
    cases ho : contO e' Pl with
    | none => rw [ho] at hrun; cases hrun
    | some outs' => rw [ho] at hrun; cases hrun
  · cases hrun
end
end Mi
set_option Elab.async false
set_option linter.all false
set_option maxRecDepth 100000
set_option maxHeartbeats 4000000
/-! Mi9: operators and built-ins on views -/
namespace Mi
open PySem PySem.Spec PyProof.Rows L2

theorem OpR.or {X : Cx} {f : Value → Value → Sem Value} {r r' : R2} (h : OpR X f r) (h' : OpR X f r') : OpR X f (fun x y H Q => r x y H Q ∨ r' x y H Q) := by
  intro pins s σ H x y v u Q I rx ry q
  rcases q with q | q
  · exact h pins s σ H x y v u Q I rx ry q
  · exact h' pins s σ H x y v u Q I rx ry q
section
variable {K : KK}
/-! ### arithmetic -/
def fAdd : D → D → Option W
  | .int i, .int j => some (.d (.int (i + j)))
  | .str i, .str j => if i.length + j.length ≤ 16777216 then some (.d (.str (i ++ j))) else none
  | .list xs, .list ys => if xs.length + ys.length ≤ 16777216 then some (.l (xs ++ ys)) else none
  | .tuple xs, .tuple ys => if xs.length + ys.length ≤ 16777216 then some (.d (.tuple (xs ++ ys))) else none
  | _, _ => none
@[simp] theorem fAdd_int (i j : Int) : fAdd (.int i) (.int j) = some (.d (.int (i + j))) := rfl
/-- ints alone -/
def fAddI : D → D → Option W
  | .int i, .int j => some (.d (.int (i + j)))
  | _, _ => none
@[simp] theorem fAddI_int (i j : Int) : fAddI (.int i) (.int j) = some (.d (.int (i + j))) := rfl
theorem op2_int {g : Int → Int → D} {C : Int → Int → Prop} {f : D → D → Option W} (hg : ∀ i j, ∃ k, g i j = .int k ∨ ∃ b, g i j = .bool b) (h : ∀ x y w, f x y = some w → ∃ i j, x = .int i ∧ y = .int j ∧ w = .d (g i j) ∧ C i j)
    {r : R2} (hr : ∀ i j H Q, C i j → (∀ v, Flat (g i j) v → Q v H) → r (.int i) (.int j) H Q) : Op2 K r f := fun H L x y dx dy w Q gd rl hx hy hf hQ => by
  obtain ⟨i, j, rfl, rfl, rfl, hc⟩ := h _ _ _ hf
  have ex := hx.int rl
  have ey := hy.int rl
  subst ex ey
  exact hr i j H Q hc fun v fv => hQ v H fun _ => rl.data fv.dat
theorem op_addI : Op2 K (rI0 fun i j => V.int (i + j)) fAddI := fun H L x y dx dy w Q gd rl hx hy hf hQ => by
  cases dx <;> cases dy <;> simp [fAddI] at hf
  subst hf
  have ex := hx.int rl
  have ey := hy.int rl
  subst ex ey
  exact ⟨_, _, rfl, rfl, hQ _ H fun _ => rl.data (by simp [Dat])⟩
def fSub : D → D → Option W
  | .int i, .int j => some (.d (.int (i - j)))
  | _, _ => none
@[simp] theorem fSub_int (i j : Int) : fSub (.int i) (.int j) = some (.d (.int (i - j))) := rfl
theorem op_subM : Op2 K (rI0 fun i j => V.int (i - j)) fSub := fun H L x y dx dy w Q gd rl hx hy hf hQ => by
  cases dx <;> cases dy <;> simp [fSub] at hf
  subst hf
  have ex := hx.int rl
  have ey := hy.int rl
  subst ex ey
  exact ⟨_, _, rfl, rfl, hQ _ H fun _ => rl.data (by simp [Dat])⟩
/-- a product: one factor small, or both below a million bits together -/
def fMul : D → D → Option W
  | .int i, .int j => if i.natAbs < 18446744073709551616 ∨ j.natAbs < 18446744073709551616 ∨ i.natAbs.log2 + j.natAbs.log2 < 1000000 then some (.d (.int (i * j))) else none
  | _, _ => none
theorem op_mulX {X : Cx} : OpR X (binaryOp .Mult) (fun x y H Q => (rI CMul fun i j => V.int (i * j)) x y H Q ∨ (rI CMulW fun i j => V.int (i * j)) x y H Q) := OpR.or op_mul op_mulW
theorem op_mulM : Op2 K (fun x y H Q => (rI CMul fun i j => V.int (i * j)) x y H Q ∨ (rI CMulW fun i j => V.int (i * j)) x y H Q) fMul := fun H L x y dx dy w Q gd rl hx hy hf hQ => by
  cases dx <;> cases dy <;> simp only [fMul] at hf <;> try cases hf
  split at hf
  · rename_i hc
    cases hf
    have ex := hx.int rl
    have ey := hy.int rl
    subst ex ey
    rcases hc with hc | hc | hc
    · exact .inl ⟨_, _, rfl, rfl, .inl ⟨by omega, by omega⟩, hQ _ H fun _ => rl.data (by simp [Dat])⟩
    · exact .inl ⟨_, _, rfl, rfl, .inr ⟨by omega, by omega⟩, hQ _ H fun _ => rl.data (by simp [Dat])⟩
    · exact .inr ⟨_, _, rfl, rfl, hc, hQ _ H fun _ => rl.data (by simp [Dat])⟩
  · cases hf
theorem fMul_small {i j : Int} {a b : Nat} (ha : i.natAbs < 2 ^ a) (hb : j.natAbs < 2 ^ b) (h0 : 0 < a) (h1 : 0 < b) (h : a + b ≤ 1000000) : fMul (.int i) (.int j) = some (.d (.int (i * j))) := by
  have := wide_mul ha hb h0 h1 h
  exact if_pos (.inr (.inr this))
def fMod : D → D → Option W
  | .int i, .int j => if 0 < j then some (.d (.int (i % j))) else none
  | _, _ => none
theorem op_modM : Op2 K (rI (fun _ j => 0 < j) fun i j => V.int (i % j)) fMod := fun H L x y dx dy w Q gd rl hx hy hf hQ => by
  cases dx <;> cases dy <;> simp only [fMod] at hf <;> try cases hf
  split at hf
  · rename_i hc
    cases hf
    have ex := hx.int rl
    have ey := hy.int rl
    subst ex ey
    exact ⟨_, _, rfl, rfl, hc, hQ _ H fun _ => rl.data (by simp [Dat])⟩
  · cases hf
def fDiv : D → D → Option W
  | .int i, .int j => if 0 < j ∧ j.natAbs.log2 < 9000 then some (.d (.int (i / j))) else none
  | _, _ => none
theorem op_divM : Op2 K (rI CDivW fun i j => V.int (i / j)) fDiv := fun H L x y dx dy w Q gd rl hx hy hf hQ => by
  cases dx <;> cases dy <;> simp only [fDiv] at hf <;> try cases hf
  split at hf
  · rename_i hc
    cases hf
    have ex := hx.int rl
    have ey := hy.int rl
    subst ex ey
    exact ⟨_, _, rfl, rfl, hc, hQ _ H fun _ => rl.data (by simp [Dat])⟩
  · cases hf
def fPow : D → D → Option W
  | .int i, .int j => if 0 ≤ j ∧ j ≤ 1000000 ∧ i.natAbs < 18446744073709551616 then some (.d (.int (i ^ j.toNat))) else none
  | _, _ => none
theorem op_powM : Op2 K (rI CPow fun i j => V.int (i ^ j.toNat)) fPow := fun H L x y dx dy w Q gd rl hx hy hf hQ => by
  cases dx <;> cases dy <;> simp only [fPow] at hf <;> try cases hf
  split at hf
  · rename_i hc
    cases hf
    have ex := hx.int rl
    have ey := hy.int rl
    subst ex ey
    exact ⟨_, _, rfl, rfl, hc, hQ _ H fun _ => rl.data (by simp [Dat])⟩
  · cases hf
def fNeg : D → Option W
  | .int i => some (.d (.int (-i)))
  | _ => none
@[simp] theorem fNeg_int (i : Int) : fNeg (.int i) = some (.d (.int (-i))) := rfl
theorem op_negM : Op1 K (rU fun i => V.int (-i)) fNeg := fun H L x dx w Q gd rl hx hf hQ => by
  cases dx <;> simp [fNeg] at hf
  subst hf
  have ex := hx.int rl
  subst ex
  exact ⟨_, rfl, hQ _ H fun _ => rl.data (by simp [Dat])⟩
/-- texts alone -/
def fAddS : D → D → Option W
  | .str i, .str j => if i.length + j.length ≤ 16777216 then some (.d (.str (i ++ j))) else none
  | _, _ => none
theorem op_addSM : Op2 K (fun x y H Q => ∃ i j, x = .str i ∧ y = .str j ∧ i.length + j.length ≤ sizeLine ∧ Q (.str (i ++ j)) H) fAddS := fun H L x y dx dy w Q gd rl hx hy hf hQ => by
  cases dx <;> cases dy <;> simp only [fAddS] at hf <;> try cases hf
  split at hf
  · rename_i hc
    cases hf
    have ex := hx.str rl
    have ey := hy.str rl
    subst ex ey
    exact ⟨_, _, rfl, rfl, by rw [sizeLine_eq]; exact hc, hQ _ H fun _ => rl.data (by simp [Dat])⟩
  · cases hf

/-! ### comparisons: f tells a truth value -/
def lB (f : D → D → Option Bool) (x y : D) : Option W := (f x y).map fun b => W.d (.bool b)
def Op2B (K : KK) (r : R2) (f : D → D → Option Bool) : Prop := ∀ (H : Hp) (L : List (V × W)) (x y : V) (dx dy : D) (b : Bool) (Q : VK), Good K H → Rels K H L → Vw L x dx → Vw L y dy → f dx dy = some b → Q (.bl b) H → r x y H Q
theorem Op2B.op {r : R2} {f : D → D → Option Bool} (h : Op2B K r f) : Op2 K r (lB f) := fun H L x y dx dy w Q gd rl hx hy hf hQ => by
  obtain ⟨b, h1, rfl⟩ := Option.map_eq_some_iff.mp hf
  exact h H L x y dx dy b Q gd rl hx hy h1 (hQ _ H fun _ => rl.data (by simp [Dat]))
def cCmp (p : Int → Int → Bool) : D → D → Option Bool
  | .int i, .int j => some (p i j)
  | _, _ => none
@[simp] theorem cCmp_int (p : Int → Int → Bool) (i j : Int) : cCmp p (.int i) (.int j) = some (p i j) := rfl
theorem op_cmpM {p : Int → Int → Bool} : Op2B K (rI0 fun i j => V.bl (p i j)) (cCmp p) := fun H L x y dx dy b Q gd rl hx hy hf hQ => by
  cases dx <;> cases dy <;> simp [cCmp] at hf
  subst hf
  have ex := hx.int rl
  have ey := hy.int rl
  subst ex ey
  exact ⟨_, _, rfl, rfl, hQ⟩
abbrev cLt := cCmp fun i j => decide (i < j)
abbrev cLe := cCmp fun i j => decide (i ≤ j)
abbrev cGt := cCmp fun i j => decide (j < i)
abbrev cGe := cCmp fun i j => decide (j ≤ i)
def cEq (x y : D) : Option Bool := match x, y with
  | .str a, .str b => some (a == b)
  | x, y => if (SeqAt.shaped x = true ∧ noD x = true) ∧ SeqAt.shaped y = true ∧ noD y = true then some (PyData.eqv x y) else none
def cNe (x y : D) : Option Bool := match x, y with
  | .str a, .str b => some (!(a == b))
  | x, y => if (SeqAt.shaped x = true ∧ noD x = true) ∧ SeqAt.shaped y = true ∧ noD y = true then some (!PyData.eqv x y) else none
theorem op_eqX {X : Cx} (hu : X.A.units + 64 < cLine) : OpR X (compareOp .Eq) (fun x y H Q => rEq x y H Q ∨ rEqD X.K x y H Q) := OpR.or op_eq (op_eqD hu)
theorem op_neX {X : Cx} (hu : X.A.units + 64 < cLine) : OpR X (compareOp .NotEq) (fun x y H Q => rNe x y H Q ∨ rNeD X.K x y H Q) := OpR.or op_ne (op_neD hu)
theorem op_eqM : Op2B K (fun x y H Q => rEq x y H Q ∨ rEqD K x y H Q) cEq := fun H L x y dx dy w Q gd rl hx hy hf hQ => by
  unfold cEq at hf
  split at hf
  · cases hf
    have ex := hx.str rl
    have ey := hy.str rl
    subst ex ey
    exact .inl ⟨rfl, by rw [dec_str]; exact hQ⟩
  · split at hf
    · rename_i hc
      cases hf
      exact .inr ⟨_, _, hx.dp rl hc.1.2, hy.dp rl hc.2.2, hc.1.1, hc.2.1, hQ⟩
    · cases hf
theorem op_neM : Op2B K (fun x y H Q => rNe x y H Q ∨ rNeD K x y H Q) cNe := fun H L x y dx dy w Q gd rl hx hy hf hQ => by
  unfold cNe at hf
  split at hf
  · cases hf
    have ex := hx.str rl
    have ey := hy.str rl
    subst ex ey
    exact .inl ⟨rfl, by rw [dec_str]; exact hQ⟩
  · split at hf
    · rename_i hc
      cases hf
      exact .inr ⟨_, _, hx.dp rl hc.1.2, hy.dp rl hc.2.2, hc.1.1, hc.2.1, hQ⟩
    · cases hf
@[simp] theorem cEq_str (i j : Str) : cEq (.str i) (.str j) = some (i == j) := rfl
@[simp] theorem cNe_str (i j : Str) : cNe (.str i) (.str j) = some (!(i == j)) := rfl
@[simp] theorem cEq_int (i j : Int) : cEq (.int i) (.int j) = some (i == j) := rfl
@[simp] theorem cNe_int (i j : Int) : cNe (.int i) (.int j) = some (!(i == j)) := rfl
def isNone : D → Bool
  | .none => true
  | _ => false
@[simp] theorem isNone_none : isNone .none = true := rfl
@[simp] theorem isNone_int (i : Int) : isNone (.int i) = false := rfl
@[simp] theorem isNone_str (i : Str) : isNone (.str i) = false := rfl
@[simp] theorem isNone_tuple (i : List D) : isNone (.tuple i) = false := rfl
@[simp] theorem isNone_list (i : List D) : isNone (.list i) = false := rfl
@[simp] theorem isNone_bool (i : Bool) : isNone (.bool i) = false := rfl
def cIs (x y : D) : Option Bool := match y with
  | .none => some (isNone x)
  | _ => none
def cIsNot (x y : D) : Option Bool := match y with
  | .none => some (!isNone x)
  | _ => none
@[simp] theorem cIs_none (x : D) : cIs x .none = some (isNone x) := rfl
@[simp] theorem cIsNot_none (x : D) : cIsNot x .none = some (!isNone x) := rfl
theorem isNone_v {H : Hp} {L : List (V × W)} {x : V} {dx : D} (rl : Rels K H L) (hx : Vw L x dx) : decide (x = .non) = isNone dx := by
  cases dx with
  | none => rw [hx.none rl]; rfl
  | bool b => rw [hx.bool rl]; rfl
  | int i => rw [hx.int rl]; rfl
  | str s => rw [hx.str rl]; rfl
  | list xs => obtain ⟨a, vs, e, _⟩ := hx.list rl; rw [e]; rfl
  | tuple xs => obtain ⟨a, vs, e, _⟩ := hx.tuple rl; rw [e]; rfl
  | dict kvs => obtain ⟨a, vs, e, _⟩ := hx.dict rl; rw [e]; rfl
theorem op_isM : Op2B K (fun x y H Q => y = .non ∧ Q (.bl (decide (x = .non))) H) cIs := fun H L x y dx dy w Q gd rl hx hy hf hQ => by
  cases dy <;> simp only [cIs, Option.some.injEq, reduceCtorEq] at hf
  subst hf
  refine ⟨hy.none rl, ?_⟩
  rw [isNone_v rl hx]
  exact hQ
theorem op_isNotM : Op2B K (fun x y H Q => y = .non ∧ Q (.bl (!decide (x = .non))) H) cIsNot := fun H L x y dx dy w Q gd rl hx hy hf hQ => by
  cases dy <;> simp only [cIsNot, Option.some.injEq, reduceCtorEq] at hf
  subst hf
  refine ⟨hy.none rl, ?_⟩
  rw [isNone_v rl hx]
  exact hQ
/-- in a list, data of any depth -/
def cIn (x y : D) : Option Bool := match y with
  | .list ds => if (SeqAt.shaped x = true ∧ noD x = true) ∧ SeqAt.shaped (.list ds) = true ∧ noD (.list ds) = true then some (ds.any fun z => PyData.eqv z x) else none
  | _ => none
def cNotIn (x y : D) : Option Bool := match y with
  | .list ds => if (SeqAt.shaped x = true ∧ noD x = true) ∧ SeqAt.shaped (.list ds) = true ∧ noD (.list ds) = true then some (!ds.any fun z => PyData.eqv z x) else none
  | _ => none
theorem op_inM : Op2B K (rInD K) cIn := fun H L x y dx dy w Q gd rl hx hy hf hQ => by
  cases dy <;> simp only [cIn] at hf <;> try cases hf
  split at hf
  · rename_i hc
    cases hf
    exact ⟨dx, _, hx.dp rl hc.1.2, hy.dp rl hc.2.2, hc.1.1, hc.2.1, hQ⟩
  · cases hf
theorem op_notInM : Op2B K (rNotInD K) cNotIn := fun H L x y dx dy w Q gd rl hx hy hf hQ => by
  cases dy <;> simp only [cNotIn] at hf <;> try cases hf
  split at hf
  · rename_i hc
    cases hf
    exact ⟨dx, _, hx.dp rl hc.1.2, hy.dp rl hc.2.2, hc.1.1, hc.2.1, hQ⟩
  · cases hf

/-! ### items -/
def fIx (x y : D) : Option W := match y with
  | .int i => (match x with
    | .list ds => (atI ds i).map W.d
    | .tuple ds => (atI ds i).map W.d
    | .str z => if z.length ≤ 16777216 then (atI z.cps.toList i).map fun c => W.d (.str ⟨#[c]⟩) else none
    | _ => none)
  | _ => none
theorem atI_dats {H : Hp} {O : List Addr} {ds : List D} {vs : List V} {i : Int} {d : D} (h : Dats K H O ds vs) (e : atI ds i = some d) : ∃ v, atI vs i = some v ∧ Dat K H O d v := by
  unfold atI at e ⊢
  rw [← h.length]
  cases hj : ixN ds.length i with
  | none => rw [hj] at e; cases e
  | some j =>
    rw [hj] at e
    obtain ⟨v, h1, h2⟩ := h.get (show ds[j]? = some d from e)
    exact ⟨v, h1, h2⟩
theorem op_ixM : Op2 K (rIx K) fIx := fun H L x y dx dy w Q gd rl hx hy hf hQ => by
  cases dy with
  | int i =>
    have ey := hy.int rl
    subst ey
    cases dx with
    | list ds =>
      obtain ⟨d, h1, rfl⟩ := Option.map_eq_some_iff.mp (show (atI ds i).map W.d = some w from hf)
      obtain ⟨a, vs, rfl, hs, hd⟩ := hx.list rl
      obtain ⟨v, h2, h3⟩ := atI_dats hd h1
      exact .inl ⟨a, vs, i, v, rfl, rfl, hs, h2, hQ v H fun _ => rl.data h3⟩
    | tuple ds =>
      obtain ⟨d, h1, rfl⟩ := Option.map_eq_some_iff.mp (show (atI ds i).map W.d = some w from hf)
      obtain ⟨a, vs, rfl, hs, _, hd⟩ := hx.tuple rl
      obtain ⟨v, h2, h3⟩ := atI_dats hd h1
      exact .inr (.inl ⟨a, vs, i, v, rfl, rfl, hs, h2, hQ v H fun _ => rl.data h3⟩)
    | str z =>
      simp only [fIx] at hf
      split at hf
      · rename_i hz
        obtain ⟨c, h1, rfl⟩ := Option.map_eq_some_iff.mp hf
        have ex := hx.str rl
        subst ex
        exact .inr (.inr ⟨z, i, c, rfl, rfl, by rw [sizeLine_eq]; exact hz, h1, hQ _ H fun _ => rl.data (by simp [Dat])⟩)
      · cases hf
    | none => cases hf
    | bool b => cases hf
    | int j => cases hf
    | dict kvs => cases hf
  | none => cases hf
  | bool b => cases hf
  | str z => cases hf
  | list z => cases hf
  | tuple z => cases hf
  | dict z => cases hf

/-! ### built-ins -/
theorem Vws.one {L : List (V × W)} {vs : List V} {d : D} (h : Vws L vs [d]) : ∃ v, vs = [v] ∧ Vw L v d := by
  match vs, h with
  | [v], h => exact ⟨v, rfl, h.1⟩
theorem Vws.two {L : List (V × W)} {vs : List V} {d d2 : D} (h : Vws L vs [d, d2]) : ∃ v v2, vs = [v, v2] ∧ Vw L v d ∧ Vw L v2 d2 := by
  match vs, h with
  | [v, v2], h => exact ⟨v, v2, rfl, h.1, h.2.1⟩
def bLen : List D → Option W
  | [.list xs] => some (.d (.int xs.length))
  | [.tuple xs] => some (.d (.int xs.length))
  | [.str z] => if z.length ≤ 16777216 then some (.d (.int z.length)) else none
  | _ => none
@[simp] theorem bLen_l (xs : List D) : bLen [.list xs] = some (.d (.int xs.length)) := rfl
@[simp] theorem bLen_t (xs : List D) : bLen [.tuple xs] = some (.d (.int xs.length)) := rfl
theorem oc_len : OpC K (fun xs H Q => ∃ x n, xs = [x] ∧ LenV K x H n ∧ Q (.int n) H) bLen := fun H L vs ds w Q gd rl hv hf hQ => by
  unfold bLen at hf
  split at hf
  · rename_i xs
    cases hf
    obtain ⟨v, rfl, h1⟩ := hv.one
    obtain ⟨a, us, rfl, hs, hd⟩ := h1.list rl
    refine ⟨.ref a, us.length, rfl, .inl ⟨us, hs, rfl⟩, ?_⟩
    rw [← hd.length]
    exact hQ _ H fun _ => rl.data (by simp [Dat])
  · rename_i xs
    cases hf
    obtain ⟨v, rfl, h1⟩ := hv.one
    obtain ⟨a, us, rfl, hs, _, hd⟩ := h1.tuple rl
    refine ⟨.ref a, us.length, rfl, .inr ⟨us, hs, rfl⟩, ?_⟩
    rw [← hd.length]
    exact hQ _ H fun _ => rl.data (by simp [Dat])
  · split at hf
    · rename_i hz
      cases hf
      obtain ⟨v, rfl, h1⟩ := hv.one
      have ev := h1.str rl
      subst ev
      exact ⟨_, _, rfl, ⟨by rw [sizeLine_eq]; exact hz, rfl⟩, hQ _ H fun _ => rl.data (by simp [Dat])⟩
    · cases hf
  · cases hf
def bAbs : List D → Option W
  | [.int i] => some (.d (.int (if i < 0 then -i else i)))
  | _ => none
@[simp] theorem bAbs_int (i : Int) : bAbs [.int i] = some (.d (.int (if i < 0 then -i else i))) := rfl
theorem oc_abs : OpC K (fun xs H Q => ∃ i, xs = [.int i] ∧ Q (.int (if i < 0 then -i else i)) H) bAbs := fun H L vs ds w Q gd rl hv hf hQ => by
  unfold bAbs at hf
  split at hf
  · cases hf
    obtain ⟨v, rfl, h1⟩ := hv.one
    have ev := h1.int rl
    subst ev
    exact ⟨_, rfl, hQ _ H fun _ => rl.data (by simp [Dat])⟩
  · cases hf
def bInt : List D → Option W
  | [.int i] => some (.d (.int i))
  | [.bool k] => some (.d (.int (if k then 1 else 0)))
  | _ => none
@[simp] theorem bInt_int (i : Int) : bInt [.int i] = some (.d (.int i)) := rfl
theorem oc_int : OpC K (fun xs H Q => (∃ i, xs = [.int i] ∧ Q (.int i) H) ∨ ∃ k, xs = [.bl k] ∧ Q (.int (if k then 1 else 0)) H) bInt := fun H L vs ds w Q gd rl hv hf hQ => by
  unfold bInt at hf
  split at hf
  · cases hf
    obtain ⟨v, rfl, h1⟩ := hv.one
    have ev := h1.int rl
    subst ev
    exact .inl ⟨_, rfl, hQ _ H fun _ => rl.data (by simp [Dat])⟩
  · cases hf
    obtain ⟨v, rfl, h1⟩ := hv.one
    have ev := h1.bool rl
    subst ev
    exact .inr ⟨_, rfl, hQ _ H fun _ => rl.data (by simp [Dat])⟩
  · cases hf
def bMax : List D → Option W
  | [.int i, .int j] => some (.d (.int (if j > i then j else i)))
  | _ => none
@[simp] theorem bMax_int (i j : Int) : bMax [.int i, .int j] = some (.d (.int (if j > i then j else i))) := rfl
theorem oc_max : OpC K (fun xs H Q => ∃ i j, xs = [.int i, .int j] ∧ Q (.int (if j > i then j else i)) H) bMax := fun H L vs ds w Q gd rl hv hf hQ => by
  unfold bMax at hf
  split at hf
  · cases hf
    obtain ⟨v, v2, rfl, h1, h2⟩ := hv.two
    have ev := h1.int rl
    have ev2 := h2.int rl
    subst ev ev2
    exact ⟨_, _, rfl, hQ _ H fun _ => rl.data (by simp [Dat])⟩
  · cases hf
def bMin : List D → Option W
  | [.int i, .int j] => some (.d (.int (if j < i then j else i)))
  | _ => none
@[simp] theorem bMin_int (i j : Int) : bMin [.int i, .int j] = some (.d (.int (if j < i then j else i))) := rfl
theorem oc_min : OpC K (fun xs H Q => ∃ i j, xs = [.int i, .int j] ∧ Q (.int (if j < i then j else i)) H) bMin := fun H L vs ds w Q gd rl hv hf hQ => by
  unfold bMin at hf
  split at hf
  · cases hf
    obtain ⟨v, v2, rfl, h1, h2⟩ := hv.two
    have ev := h1.int rl
    have ev2 := h2.int rl
    subst ev ev2
    exact ⟨_, _, rfl, hQ _ H fun _ => rl.data (by simp [Dat])⟩
  · cases hf
theorem newK {K : KK} {H : Hp} {p : Addr} {u : HO} (g : Good K (upd H p u)) : K.lookup p = none := by
  cases q : K.lookup p with
  | none => rfl
  | some o => have := g p o q; rw [upd_same] at this; cases this
def bList : List D → Option W
  | [.list xs] => some (.l xs)
  | [.tuple xs] => some (.l xs)
  | _ => none
@[simp] theorem bList_l (xs : List D) : bList [.list xs] = some (.l xs) := rfl
@[simp] theorem bList_t (xs : List D) : bList [.tuple xs] = some (.l xs) := rfl
theorem oc_list : OpC K (fun xs H Q => ∃ p ys, xs = [.ref p] ∧ (SqL K H p ys ∨ SqT K H p ys) ∧ ∀ l, H l = none → Q (.ref l) (upd H l (.lst ys))) bList := fun H L vs ds w Q gd rl hv hf hQ => by
  unfold bList at hf
  split at hf
  · cases hf
    obtain ⟨v, rfl, h1⟩ := hv.one
    obtain ⟨a, us, rfl, hs, hd⟩ := h1.list rl
    exact ⟨a, us, rfl, .inl hs, fun l hl => hQ _ _ fun g => rl.newOwn hl (newK g) hd⟩
  · cases hf
    obtain ⟨v, rfl, h1⟩ := hv.one
    obtain ⟨a, us, rfl, hs, _, hd⟩ := h1.tuple rl
    exact ⟨a, us, rfl, .inr hs, fun l hl => hQ _ _ fun g => rl.newOwn hl (newK g) hd⟩
  · cases hf
def bTuple : List D → Option W
  | [.list xs] => some (.d (.tuple xs))
  | [.tuple xs] => some (.d (.tuple xs))
  | _ => none
@[simp] theorem bTuple_l (xs : List D) : bTuple [.list xs] = some (.d (.tuple xs)) := rfl
@[simp] theorem bTuple_t (xs : List D) : bTuple [.tuple xs] = some (.d (.tuple xs)) := rfl
theorem oc_tuple : OpC K (fun xs H Q => ∃ p ys, xs = [.ref p] ∧ ((SqL K H p ys ∧ ∀ l, H l = none → Q (.ref l) (upd H l (.tup ys))) ∨ (SqT K H p ys ∧ Q (.ref p) H))) bTuple := fun H L vs ds w Q gd rl hv hf hQ => by
  unfold bTuple at hf
  split at hf
  · cases hf
    obtain ⟨v, rfl, h1⟩ := hv.one
    obtain ⟨a, us, rfl, hs, hd⟩ := h1.list rl
    exact ⟨a, us, rfl, .inl ⟨hs, fun l hl => hQ _ _ fun g => rl.newTup hl (newK g) hd⟩⟩
  · cases hf
    obtain ⟨v, rfl, h1⟩ := hv.one
    obtain ⟨a, us, rfl, hs, hn, hd⟩ := h1.tuple rl
    exact ⟨a, us, rfl, .inr ⟨hs, hQ _ H fun _ => rl.data ⟨a, us, rfl, hs, hn, hd⟩⟩⟩
  · cases hf
def ints? : List D → Option (List Int)
  | [] => some []
  | .int i :: ds => (ints? ds).map (i :: ·)
  | _ => none
theorem ints?_map (ns : List Int) : ints? (ns.map PyData.int) = some ns := by
  induction ns with
  | nil => rfl
  | cons n ns ih => simp [ints?, ih]
theorem ints?_eq : ∀ {ds : List D} {ns : List Int}, ints? ds = some ns → ds = ns.map PyData.int
  | [], ns, h => by cases h; rfl
  | .int i :: ds, ns, h => by
    obtain ⟨r, h1, rfl⟩ := Option.map_eq_some_iff.mp (show (ints? ds).map (i :: ·) = some ns from h)
    rw [ints?_eq h1]; rfl
  | .none :: _, _, h => by cases h
  | .bool _ :: _, _, h => by cases h
  | .str _ :: _, _, h => by cases h
  | .list _ :: _, _, h => by cases h
  | .tuple _ :: _, _, h => by cases h
  | .dict _ :: _, _, h => by cases h
def bSum : List D → Option W
  | [.list xs] => (ints? xs).map fun ns => W.d (.int ns.sum)
  | _ => none
theorem oc_sum : OpC K (rSum K) bSum := fun H L vs ds w Q gd rl hv hf hQ => by
  unfold bSum at hf
  split at hf
  · rename_i xs
    obtain ⟨ns, h1, rfl⟩ := Option.map_eq_some_iff.mp hf
    have e := ints?_eq h1
    subst e
    obtain ⟨v, rfl, h1⟩ := hv.one
    obtain ⟨a, us, rfl, hs, hd⟩ := h1.list rl
    have e2 := hd.ints
    subst e2
    exact ⟨a, ns, rfl, hs, hQ _ H fun _ => rl.data (by simp [Dat])⟩
  · cases hf
/-- repr of data -/
def bRepr : List D → Option W
  | [d] => if (d.showable = true ∧ noD d = true) ∧ d.shown.length ≤ 16777216 ∧ d.depth ≤ 64 then some (.d (.str d.shown)) else none
  | _ => none
def rRepr (K : KK) : List V → Hp → VK → Prop := fun xs H Q => ∃ x d, xs = [x] ∧ Dp K H x d ∧ d.showable = true ∧ d.shown.length ≤ sizeLine ∧ d.depth ≤ 64 ∧ Q (.str d.shown) H
mutual
theorem noDict {H : Hp} : ∀ (d : D) (v : V), Dp K H v d → d.hasDict = false
  | .none, _, _ => by simp only [PyData.hasDict]
  | .bool _, _, _ => by simp only [PyData.hasDict]
  | .int _, _, _ => by simp only [PyData.hasDict]
  | .str _, _, _ => by simp only [PyData.hasDict]
  | .list ds, _, h => by
    cases h with
    | lst _ h => simp only [PyData.hasDict]; exact noDicts ds _ h
  | .tuple ds, _, h => by
    cases h with
    | tup _ h => simp only [PyData.hasDict]; exact noDicts ds _ h
  | .dict _, _, h => by cases h
theorem noDicts {H : Hp} : ∀ (ds : List D) (vs : List V), DpAll K H vs ds → PyData.hasDictAll ds = false
  | [], _, _ => by simp only [PyData.hasDictAll]
  | d :: ds, _, h => by
    cases h with
    | cons h1 h2 =>
      simp only [PyData.hasDictAll]
      rw [noDict d _ h1, noDicts ds _ h2]
      rfl
end
theorem call_repr {X : Cx} (hgd : X.A.guards = some []) (hu : X.A.units + 66 < cLine) : CallR X (.builtin "repr") (rRepr X.K) := by
  intro pins s σ H xs us Q I r h
  obtain ⟨x, d, rfl, hd, hs, hz, hdp, q⟩ := h
  obtain ⟨u, rfl, r1⟩ := vals1 r
  have refd : ∀ a, x = .ref a → wpAny (model X.prog X.w) X.A (call (.builtin "repr") [u]) (EP X pins σ Q) X.xe s := fun a e => by
    subst e
    cases (show u = Value.ref a from r1)
    obtain ⟨as, rd⟩ := Dp.reads I d _ _ hd r1
    refine repr_of_reads' rd hs (PyData.noDict_hsm (noDict d _ hd)) hgd (by omega) (fun _ _ e => e) (fun h' u tk hk => ?_) hz
    exact ⟨.str d.shown, H, I.kept hk, ⟨_, rfl⟩, q⟩
  cases hd with
  | non =>
    cases (show u = Value.none from r1)
    exact PySem.P.repr_of_none ⟨.str _, H, I.tok _, ⟨_, rfl⟩, by simpa only [PyData.shown] using q⟩
  | bl b =>
    cases (show u = Value.bool b from r1)
    exact PySem.P.repr_of_bool ⟨.str _, H, I.tok _, ⟨_, rfl⟩, by simpa only [PyData.shown] using q⟩
  | int i =>
    obtain ⟨t, rfl⟩ := r1
    exact PySem.P.repr_of_int (by simpa only [PyData.showable, decide_eq_true_eq] using hs) ⟨.str _, H, I.tok _, ⟨_, rfl⟩, by simpa only [PyData.shown] using q⟩
  | str z =>
    obtain ⟨t, rfl⟩ := r1
    exact PySem.P.repr_of_str ⟨.str _, H, I.tok _, ⟨_, rfl⟩, by simpa only [PyData.shown] using q⟩ (by simpa only [PyData.shown] using hz)
  | lst h1 h2 => exact refd _ rfl
  | tup h1 h2 => exact refd _ rfl
theorem oc_repr : OpC K (rRepr K) bRepr := fun H L vs ds w Q gd rl hv hf hQ => by
  unfold bRepr at hf
  split at hf
  · split at hf
    · rename_i hc
      cases hf
      obtain ⟨v, rfl, h1⟩ := hv.one
      exact ⟨v, _, rfl, h1.dp rl hc.1.2, hc.1.1, by rw [sizeLine_eq]; exact hc.2.1, hc.2.2, hQ _ H fun _ => rl.data (by simp [Dat])⟩
    · cases hf
  · cases hf

/-! ### truth -/
def truD : D → Option Bool
  | .none => some false
  | .bool b => some b
  | .int i => some (i != 0)
  | .str z => if z.length ≤ 16777216 then some ((z.length : Int) != 0) else none
  | .list xs => some !xs.isEmpty
  | .tuple xs => some !xs.isEmpty
  | .dict _ => none
def tTru (o : Opd) : MT := fun e => bnd (o.run e) fun r e1 => match gv e1 r with
  | some d => ofO (truD d) e1
  | none => .no
theorem dats_empty {H : Hp} {O : List Addr} {ds : List D} {vs : List V} (h : Dats K H O ds vs) : ds.isEmpty = vs.isEmpty := by
  have := h.length
  cases ds <;> cases vs <;> simp_all
theorem pt_truM {X : Cx} {P : List Nat} {e : Expr} {o : Opd} (ha : PE X e (tD X.K P o)) (he : ∀ whole, isTrue e X.env whole = (do let v ← whole; standAt e.pos; holding [v] (truthy v)) := by intro _; rfl) : PT X e (tM X.K P (tTru o)) := mkT (pt_truth ha he) fun p0 T σ env H b env' Q sr g hm hQ => by
  obtain ⟨r, e1, h1, h2⟩ := bnd_eq_ok hm
  refine ⟨p0, T, env, r, e1, sr, g, h1, fun x H1 ox sr1 g1 => ?_⟩
  cases hg : gv e1 r with
  | none => rw [hg] at h2; cases h2
  | some d =>
    rw [hg] at h2
    obtain ⟨h3, rfl⟩ := ofO_eq_ok h2
    have hv := view_of sr1 ox (fun w e => by subst e; exact List.mem_cons_self) hg
    have done : SR X.K P p0 T σ env' H1 := by
      cases r with
      | inl i => exact sr1
      | inr w => exact sr1.drop
    refine ⟨b, ?_, hQ H1 fun _ => done⟩
    cases d with
    | none => cases h3; rw [hv.none sr1.rels]; rfl
    | bool c => cases h3; rw [hv.bool sr1.rels]; rfl
    | int i => cases h3; rw [hv.int sr1.rels]; rfl
    | str z =>
      simp only [truD] at h3
      split at h3
      · rename_i hz
        cases h3
        rw [hv.str sr1.rels]
        exact ⟨by rw [sizeLine_eq]; exact hz, rfl⟩
      · cases h3
    | list xs =>
      cases h3
      obtain ⟨a, us, rfl, hs, hd⟩ := hv.list sr1.rels
      exact .inl ⟨us, hs, by rw [dats_empty hd]⟩
    | tuple xs =>
      cases h3
      obtain ⟨a, us, rfl, hs, _, hd⟩ := hv.tuple sr1.rels
      exact .inr (.inl ⟨us, hs, by rw [dats_empty hd]⟩)
    | dict _ => cases h3

/-! ### methods of owned lists -/
def mApp : List D → List D → Option (W × List D)
  | xs, [d] => if xs.length < 16777216 then some (.d .none, xs ++ [d]) else none
  | _, _ => none
theorem om_app : OpM K rAppend mApp := fun H L a xs ds ys vs w Q gd rl hd hf hQ => by
  unfold mApp at hf
  split at hf
  · rename_i d
    split at hf
    · rename_i hl
      cases hf
      obtain ⟨v, r, rfl, h1, rfl⟩ := hd
      obtain ⟨b, us, e, h2, h3⟩ := rl.lst
      cases e
      refine ⟨a, us, v, rfl, rfl, h2, by rw [← h3.length, sizeLine_eq]; exact hl, hQ _ _ fun _ => ?_⟩
      have := rl.write (ys := xs ++ [d]) (us := us ++ [v]) (h3.append (Dats.one h1))
      exact this.data (by simp [Dat])
    · cases hf
  · cases hf
end
end Mi
set_option Elab.async false
set_option linter.all false
set_option maxRecDepth 100000
set_option maxHeartbeats 4000000
/-! Mi10: the end of a law by FnG -/
namespace Mi
open PySem PySem.Spec PyProof.Rows L2

/-- the law's call at the caller's around, from its promise -/
theorem lawG {P : Program} {w : World} {K : KK} {mg mb : Str → Option Value} {k : Nat} {fa a : Addr} {fd : FuncData} {x : Str} {sp : Sp} {s1 : Shared} {vs : List Value} {ns : List Int}
    (KX : K.In s1.heap) (hns : s1.heap.Ns mainGlobals mg) (hb : s1.heap.Ns builtinsNs mb) (hbb : ∀ y : Str, y ≠ "__name__" → mb y = bootBuiltins y) (hlim : s1.heap.NoLimit) (hgen : s1.gens = #[])
    (ha : s1.heap.get? a = some { cls := .type "list", data := .seq vs.toArray }) (hi : IntsAre vs ns) (hlen : ns.length ≤ sizeLine) (hr : Room k callerA)
    (F : ∀ base : Heap, K.In base → base.Ns mainGlobals mg → FnG P w K mg base k fa fd [x] sp) (hbind : ∀ (s : Shared) (u : Value), BindsTo s fd ⟨[u], []⟩ [(x, u)])
    (hsp : ∀ H : Hp, Only H → Good K H → SqL K H a (ns.map V.int) → sp [.ref a] H (fun v _ => v = .bl true) E0) :
    codeAny (model P w) callerA (.call (.ref fa) ⟨[.ref a], []⟩) (fun r t => r = .ok (.ret (.bool true)) ∧ OldK s1.heap t.heap ∧ t.os = s1.os ∧ AllBare t.gens) s1 := by
  have rels := vals_ints hi
  have nlen := hi.length
  have main : ∀ H : Hp, Only H → Good K H → SqL K H a (ns.map V.int) → HOk P w H s1.heap → (∀ b, H b ≠ none → b = a) →
      codeAny (model P w) callerA (.call (.ref fa) ⟨[.ref a], []⟩) (fun r t => r = .ok (.ret (.bool true)) ∧ OldK s1.heap t.heap ∧ t.os = s1.os ∧ AllBare t.gens) s1 := by
    intro H only good sq hok at_
    have keepB : ∀ {b : Addr} {o : Obj}, s1.heap.get? b = some o → H b = none → (hidT s1.heap H).get? b = some o := fun e1 e2 => hidT_get e1 e2
    have notA : ∀ {b : Addr} {o : Obj} {es : Array DictEntry} {ep : Nat}, s1.heap.get? b = some o → o.data = .dict es ep → H b = none := by
      intro b o es ep e1 e2
      by_cases hz : H b = none
      · exact hz
      · have e3 := at_ b hz
        subst e3
        rw [ha] at e1
        cases e1
        exact absurd e2 (by intro z; cases z)
    have nsB : ∀ {b : Addr} {m : Str → Option Value}, s1.heap.Ns b m → (hidT s1.heap H).Ns b m := by
      rintro b m ⟨o, es, ep, e1, e2, e3⟩
      exact ⟨o, es, ep, keepB e1 (notA e1 e2), e2, e3⟩
    have KB : K.In (hidT s1.heap H) := fun b o e1 => keepB (KX b o e1) (good b o e1)
    have modB : Mod K mg (hidT s1.heap H) := ⟨KB, nsB hns, ⟨mb, nsB hb, hbb⟩, by
      obtain ⟨mc, q1, q2⟩ := hlim
      exact ⟨mc, nsB q1, q2⟩⟩
    have e0 : Env0 P w K mg (hidT s1.heap H) callerA [] s1 H := ⟨rfl, modB, fun b o e1 => of_hidT e1, Nat.le_of_eq (hidT_size _ _), trivial, fun b hb => absurd hb (List.not_mem_nil), hok, .of_eq hgen⟩
    have run := (F _ KB (nsB hns)).run callerA [] s1 H ⟨[.ref a], []⟩ [.ref a] [.ref a] _ rfl hr e0 (hbind s1 (.ref a)) (.cons rfl .nil) (hsp H only good sq)
    refine codeAny_mono run fun res t hres => ?_
    match res, hres with
    | .ok (.ret u), ⟨v, H2, eos, ebare, un, hok2, rv, ev⟩ =>
      have ev2 : v = .bl true := ev
      subst ev2
      have eu : u = Value.bool true := rv
      subst eu
      refine ⟨rfl, OldK.of_keep (fun b o e1 => ?_), eos, ebare⟩
      by_cases hz : H b = none
      · exact un.keep b o e1 hz (List.not_mem_nil) (List.not_mem_nil)
      · rcases only b with z | ⟨ob, xs, z⟩
        · exact absurd z hz
        · obtain ⟨q1, _⟩ := hok b _ z
          obtain ⟨q2, _⟩ := hok2 b _ (un.frzs b ob _ z)
          rw [e1] at q1
          cases q1
          exact q2
  cases hk : K.lookup a with
  | some o =>
    have e1 := KX a o hk
    rw [ha] at e1
    cases e1
    refine main (fun _ => none) (fun _ => .inl rfl) (fun _ _ _ => rfl) (.inr ⟨_, vs.toArray, _, hk, rfl, rfl, rfl, by rw [List.size_toArray, nlen]; exact hlen, by simpa using rels⟩) (fun b u z => by cases (show (none : Option HO) = some u from z)) (fun b z => absurd rfl z)
  | none =>
    have at1 : ∀ b, (if b = a then some (HO.frz { cls := .type "list", data := .seq vs.toArray } (.lst (ns.map V.int))) else none) ≠ none → b = a := fun b z => by
      by_cases hb : b = a
      · exact hb
      · exact absurd (if_neg hb) z
    refine main (fun b => if b = a then some (.frz { cls := .type "list", data := .seq vs.toArray } (.lst (ns.map V.int))) else none) (fun b => ?_) (fun b o e1 => ?_) (.inl (.inr ⟨_, if_pos rfl⟩)) (fun b u z => ?_) at1
    · by_cases hb : b = a
      · exact .inr ⟨_, _, if_pos hb⟩
      · exact .inl (if_neg hb)
    · refine if_neg ?_
      rintro rfl
      rw [hk] at e1
      cases e1
    · have hb := at1 b (fun q => by
        have z1 : (if b = a then some (HO.frz { cls := .type "list", data := .seq vs.toArray } (.lst (ns.map V.int))) else none) = some u := z
        rw [q] at z1
        cases z1)
      subst hb
      have z2 := (if_pos rfl).symm.trans (show (if b = b then some (HO.frz { cls := .type "list", data := .seq vs.toArray } (.lst (ns.map V.int))) else none) = some u from z)
      cases z2
      exact ⟨ha, by rw [List.length_map]; exact hlen, vs, _, rels, ha⟩
/-- a law whose def keeps spF of its mirror -/
theorem walkG {l : PySem.W.OpenLaw} {n k : Nat} {q : Program} {loose : List Str} {XP : (Str → Option Value) → Heap → Prop} {YP : World → Heap → Prop} {d : DefRec} {x : Str} (hn : l.most = some n) (hn2 : n ≤ sizeLine) (hdf : d.params.defaults = []) (hr : Room k callerA)
    (F : ∀ (w : World) (mg : Str → Option Value) (fa : Addr) (h : Heap), YP w h → h.Ns mainGlobals mg → mg d.name = some (.ref fa) →
      ∃ (K : KK) (fd : FuncData) (G : List W → CRes), K.In h ∧ (∀ (s : Shared) (u : Value), BindsTo s fd ⟨[u], []⟩ [(x, u)]) ∧
        (∀ ns : List Int, ns.length ≤ n → G [.d (.list (ns.map PyData.int))] = .ok (.d (.bool true)) []) ∧
        ∀ base : Heap, K.In base → base.Ns mainGlobals mg → FnG l.prog w K mg base k fa fd [x] (spF K 1 G)) :
    PySem.W.WalkO q loose XP YP l.row.toRowW d [] (fun f vs => PySem.call f vs) := by
  refine Att.attach_call hn hdf fun w s0 s1 mg mb fa o pm cd doc a vs ns G Y ho hd hcd hmg hobj hints hlen hgen => ?_
  obtain ⟨K, fd, G', KX, hbd, hG, hF⟩ := F w mg fa _ Y G.T.g hmg
  refine lawG KX G.T.g G.T.b G.T.builtins G.T.nolimit hgen hobj hints (Nat.le_trans hlen hn2) hr hF hbd fun H _ good sq => ?_
  have dt : Dat K H [] (.list (ns.map PyData.int)) (.ref a) := ⟨a, _, rfl, sq, List.not_mem_nil, dats_ints⟩
  refine ⟨[], [.d (.list (ns.map PyData.int))], .d (.bool true), [], rfl, rfl, ?_, good, hG ns hlen, fun v H2 r => ?_⟩
  · exact Rels.data (L := []) ⟨List.nodup_nil, fun p hp => by cases hp⟩ dt
  · exact r.at_ _ List.mem_cons_self

/-! ### a list times an int -/
def eRep (a b : ME) : ME := fun e => bnd (a e) fun w e1 => bnd (b e1) fun w2 e2 => match w with
  | .l xs => (match vw w2 with
    | .int k => if -9223372036854775808 ≤ k ∧ k < 9223372036854775808 ∧ xs.length * k.toNat ≤ 16777216 then .ok (.l (List.replicate k.toNat xs).flatten) e2 else .no
    | _ => .no)
  | _ => .no
theorem dats_rep {K : KK} {H : Hp} {O : List Addr} {xs : List D} {vs : List V} (h : Dats K H O xs vs) : ∀ n : Nat, Dats K H O (List.replicate n xs).flatten (List.replicate n vs).flatten
  | 0 => rfl
  | n + 1 => by
    simp only [List.replicate_succ, List.flatten_cons]
    exact h.append (dats_rep h n)
theorem pe_repM {X : Cx} {P : List Nat} {a b : Expr} {pos : Pos} {ma mb : ME} (ha : PE X a (tE X.K P ma)) (hb : PE X b (tE X.K P mb)) : PE X (.BinOp a .Mult b pos) (tE X.K P (eRep ma mb)) := mkE (pe_op op_rep ha hb) fun p0 T σ env H w env' Q sr g hm hQ => by
  obtain ⟨w1, e1, h1, hm⟩ := bnd_eq_ok hm
  obtain ⟨w2, e2, h2, hm⟩ := bnd_eq_ok hm
  refine ⟨p0, T, env, w1, e1, sr, g, h1, fun v H1 sr1 g1 => ⟨p0, (v, w1) :: T, e1, w2, e2, sr1, g1, h2, fun u H2 sr2 g2 => ?_⟩⟩
  cases w1 with
  | d x => cases hm
  | t g0 ws0 => cases hm
  | l xs =>
    dsimp only at hm
    split at hm
    · rename_i k hk
      split at hm
      · rename_i hc
        cases hm
        have := vw_int hk
        subst this
        have hu : u = .int k := sr2.int
        have sr3 := sr2.drop
        obtain ⟨l, us, rfl, hl, hd⟩ := sr3.lst
        refine ⟨l, k, us, rfl, hu, hl, hc.1, hc.2.1, by rw [← hd.length, sizeLine_eq]; exact hc.2.2, fun p hp => hQ _ _ fun g3 => ?_⟩
        have r := sr3.rels.newOwn hp (newK g3) ((dats_rep hd k.toNat).to (fun _ _ _ z => z) fun b z => (ownedM _ (List.perm_middle (a := (V.ref l, W.l xs)) (l₁ := pr σ env') (l₂ := T))).mp z)
        exact (sr3.push r).sub (List.Sublist.cons_cons _ (List.sublist_cons_self _ _))
      · cases hm
    · cases hm
def mIns : List D → List D → Option (W × List D)
  | xs, [.int i, d] => if xs.length < 16777216 ∧ 0 ≤ i ∧ i < 9223372036854775808 then some (.d .none, xs.take i.toNat ++ d :: xs.drop i.toNat) else none
  | _, _ => none
theorem om_ins {K : KK} : OpM K (fun x vs H Q => ∃ (l : Addr) (xs : List V) (i : Int) (y : V), x = .ref l ∧ vs = [.int i, y] ∧ H l = some (.lst xs) ∧ xs.length < sizeLine ∧ 0 ≤ i ∧ i < 2 ^ 63 ∧ Q V.non (upd H l (.lst (xs.take i.toNat ++ [y] ++ xs.drop i.toNat)))) mIns := fun H L a xs ds ys vs w Q gd rl hd hf hQ => by
  unfold mIns at hf
  split at hf
  · rename_i i d
    split at hf
    · rename_i hl
      cases hf
      obtain ⟨v, r, rfl, h1, u, r2, rfl, h2, rfl⟩ := hd
      obtain ⟨b, us, e, h3, h4⟩ := rl.lst
      cases e
      have hv : v = .int i := by simpa only [Dat] using h1
      subst hv
      refine ⟨a, us, i, u, rfl, rfl, h3, by rw [← h4.length, sizeLine_eq]; exact hl.1, hl.2.1, hl.2.2, hQ _ _ fun _ => ?_⟩
      have := rl.write (ys := xs.take i.toNat ++ d :: xs.drop i.toNat) (us := us.take i.toNat ++ [u] ++ us.drop i.toNat) (by
        rw [List.append_assoc]
        exact (h4.take _).append ((Dats.one h2).append (h4.drop _)))
      exact this.data (by simp [Dat])
    · cases hf
  · cases hf
end Mi
set_option Elab.async false
set_option linter.all false
set_option maxRecDepth 100000
set_option maxHeartbeats 4000000
/-! Mi11: short words for printed derivations -/
namespace Mi
open PySem PySem.Spec PyProof.Rows L2

/-- a def that may be called: the name x, C's number c, n parameters -/
def Cal (P : Program) (w : World) (K : KK) (mg : Str → Option Value) (base : Heap) (lv : Nat) (C : Orc) (x : Str) (c n : Nat) : Prop :=
  ∃ (f : Addr) (fd : FuncData) (ps : List Str), mg x = some (.ref f) ∧ PySem.W.keepIn K (.ref f) = true ∧ Binds K fd ps [] ∧ FnG P w K mg base lv f fd ps (spF K n (C c))
theorem one_P {P Pl : List Nat} (h : [P].contains Pl = true) : P = Pl := by simpa [eq_comm] using h
/-- what a def's body may lean on -/
structure Ok (A : Around) (lv : Nat) : Prop where
  gd : A.guards = some []
  rm : Room lv A
section
variable {X : Cx} {P : List Nat} {e : Expr} {lv : Nat}
theorem pe_fn {C : Orc} {c n : Nat} {x : Str} {p pos : Pos} {es : List Expr} {as : List Arg} (o : Ok X.A lv) (h : Cal X.prog X.w X.K X.mg X.base lv C x c n) (hn : as.length = n) (hg : Gl X x) (ha : PA X (e :: es) (tG X.K P as)) (hdb : (x == ("__debug__" : Str)) = false := by decide)
    (he : starEach (e :: es) X.env = (false, eval e X.env) :: starEach es X.env := by rfl) (hpl : (backTo pos (starEach es X.env)).any (·.1) = false := by rfl) : PE X (.Call (.Name x p) (e :: es) [] pos) (tE X.K P (eCall C c as)) := by
  obtain ⟨f, fd, ps, h1, h2, h3, h4⟩ := h
  exact pe_callM h4 (by simpa using hn) o.gd o.rm hg h1 h2 h3 .nil rfl ha hdb he hpl
def tO2 (f : D → D → Option Bool) (a b : Opd) : MT := fun e => bnd (a.run e) fun r e1 => bnd (b.run e1) fun r2 e2 => match gv e2 r with
  | some x => (match gv e2 r2 with
    | some y => ofO (f x y) e2
    | none => .no)
  | none => .no
theorem pt_o2 {r : R2} {f : D → D → Option Bool} {oa ob : Opd} (ho : Op2B X.K r f) (h : PT X e (tTest (tOp r (tD X.K P oa) (tD X.K P ob)))) : PT X e (tM X.K P (tO2 f oa ob)) := mkT h fun p0 T σ env H b env' Q sr g hm hQ => by
  obtain ⟨ra, e2, h1, hm⟩ := bnd_eq_ok hm
  refine ⟨p0, T, env, ra, e2, sr, g, h1, fun x H1 ox sr1 g1 => ?_⟩
  obtain ⟨rb, e3, h2, hm⟩ := bnd_eq_ok hm
  refine ⟨p0, held T x ra, e2, rb, e3, sr1, g1, h2, fun y H2 oy sr2 g2 => ?_⟩
  cases hg : gv e3 ra with
  | none => rw [hg] at hm; cases hm
  | some d =>
    rw [hg] at hm
    cases hg2 : gv e3 rb with
    | none => rw [hg2] at hm; cases hm
    | some d2 =>
      rw [hg2] at hm
      obtain ⟨h3, rfl⟩ := ofO_eq_ok hm
      have done : SR X.K P p0 T σ env' H2 := by
        cases ra <;> cases rb
        · exact sr2
        · exact sr2.drop
        · exact sr2.drop
        · exact sr2.drop.drop
      refine ho H2 _ x y d d2 b (fun v H3 => ∃ k, v = .bl k ∧ Q k H3) g2 sr2.rels (view_of sr2 ox (fun w e => ?_) hg) (view_of sr2 oy (fun w e => by subst e; exact List.mem_cons_self) hg2) h3 ⟨b, rfl, hQ H2 fun _ => done⟩
      subst e
      cases rb with
      | inl i => exact List.mem_cons_self
      | inr w' => exact List.mem_cons_of_mem _ List.mem_cons_self
theorem PI.or {tg iter : Expr} {w1 w2 : TI} (h1 : PI X tg iter w1) (h2 : PI X tg iter w2) : PI X tg iter (fun σ H R => w1 σ H R ∨ w2 σ H R) := by
  refine ⟨fun pins s σ H R I h => ?_⟩
  rcases h with h | h
  · exact h1.run pins s σ H R I h
  · exact h2.run pins s σ H R I h
/-- a list or a tuple -/
def iAny (m : ME) : MI := fun e => bnd (m e) fun w e1 => match vw w with
  | .list xs => .ok xs e1
  | .tuple xs => .ok xs e1
  | _ => .no
theorem pi_anyM {tg iter : Expr} {m : ME} (h : PE X iter (tE X.K P m)) (h1 : ∀ te, PE X iter te → PI X tg iter (iList X.K te) := by exact fun te h => pi_list h) (h2 : ∀ te, PE X iter te → PI X tg iter (iTup X.K te) := by exact fun te h => pi_tup h) : PI X tg iter (tI X.K P (iAny m)) :=
  mkI (PI.or (h1 _ h) (h2 _ h)) fun p0 T σ env H xs env' R sr g hm hR => by
    obtain ⟨w, e1, h1, hm⟩ := bnd_eq_ok hm
    split at hm
    · rename_i ys hw
      cases hm
      refine .inl ⟨p0, T, env, w, _, sr, g, h1, fun v H1 sr1 g1 => ?_⟩
      have sr1 := sr1.fz
      rw [hw] at sr1
      have q := sr1.top.at_ _ List.mem_cons_self
      simp only [RW, Dat] at q
      obtain ⟨a, vs, rfl, hs, _, hd⟩ := q
      exact ⟨a, rfl, ⟨vs, hs⟩, hR _ [(.ref a, .d (.list xs))] H1 itOk_list fun _ => sr1⟩
    · rename_i ys hw
      cases hm
      refine .inr ⟨p0, T, env, w, _, sr, g, h1, fun v H1 sr1 g1 => ?_⟩
      have sr1 := sr1.fz
      rw [hw] at sr1
      have q := sr1.top.at_ _ List.mem_cons_self
      simp only [RW, Dat] at q
      obtain ⟨a, vs, rfl, hs, _, hd⟩ := q
      exact ⟨a, rfl, ⟨vs, hs⟩, hR _ [(.ref a, .d (.tuple xs))] H1 itOk_tup fun _ => sr1⟩
    · cases hm
end
end Mi
namespace Mi
open PySem PySem.Spec PyProof.Rows L2
theorem Ok.un65 {A : Around} {lv : Nat} (o : Ok A lv) : A.units + 65 < cLine := by
  have h := o.rm.un
  omega
theorem Ok.un66 {A : Around} {lv : Nat} (o : Ok A lv) : A.units + 66 < cLine := by
  have h := o.rm.un
  omega
end Mi

namespace Mi
open PySem PySem.Spec PyProof.Rows L2
section
variable {P : Program} {w : World} {K : KK} {mg : Str → Option Value} {base : Heap} {x qual : Str} {params : Arguments} {body : List Stmt} {scope : Scope} {f : Addr} {fd : FuncData} {C : Orc} {c np : Nat} {ps : List Str} {dvs : List V} {kws : List (Str × V)}
theorem Cal.zero (hC : ∀ ws, C c ws = .no) (hm : mg x = some (.ref f)) (hk : PySem.W.keepIn K (.ref f) = true) (hb : Binds K fd ps []) (hn : ps.length = np) : Cal P w K mg base 0 C x c np := by
  refine ⟨f, fd, ps, hm, hk, hb, fun vs H Q E h => ?_, fun A outer s H args us vs Q _ _ _ _ _ h => ?_⟩
  · obtain ⟨_, _, _, _, e, _⟩ := h
    rw [hn]; exact e
  · obtain ⟨T, ws, wr, outs, _, _, _, _, e, _⟩ := h
    rw [hC] at e
    cases e
theorem Cal.succ {N : List Str} {k n : Nat} {Ps : List (List Nat)} {m : MS} (hm : mg x = some (.ref f)) (F : FunD K x qual params body scope dvs kws f fd) (hb : Binds K fd ps []) (S : FnScope N ps scope) (hn : ps.length = np) (hN : N.length = n) (hC : C c = runF np n Ps m)
    (hbody : ∀ (Pl : List Nat), Ps.contains Pl = true → ∀ (cdv : Value) (A : Around) (outer : List PySem.Env) (s : Shared) (H : Hp), Ok (A.deeper (envOfC qual scope s.heap.objs.size f cdv)) k →
      PSs (cxOf CX0 P w K mg base N qual scope f cdv A outer s H E0).nox body (tS K Pl m)) : Cal P w K mg base (k + 1) C x c np :=
  ⟨f, fd, ps, hm, F.kp, hb, fnM F S hn hN hC fun Pl hP cdv A outer s H hg hr => (hbody Pl hP cdv A outer s H ⟨hg, hr⟩).nox⟩
theorem lawF {N : List Str} {k n : Nat} {Ps : List (List Nat)} {m : MS} (F : FunD K x qual params body scope dvs kws f fd) (S : FnScope N ps scope) (hn : ps.length = np) (hN : N.length = n) (hC : C c = runF np n Ps m)
    (hbody : ∀ (Pl : List Nat), Ps.contains Pl = true → ∀ (cdv : Value) (A : Around) (outer : List PySem.Env) (s : Shared) (H : Hp), Ok (A.deeper (envOfC qual scope s.heap.objs.size f cdv)) k →
      PSs (cxOf CX0 P w K mg base N qual scope f cdv A outer s H E0).nox body (tS K Pl m)) : FnG P w K mg base (k + 1) f fd ps (spF K np (C c)) :=
  fnM F S hn hN hC fun Pl hP cdv A outer s H hg hr => (hbody Pl hP cdv A outer s H ⟨hg, hr⟩).nox
end
end Mi
set_option Elab.async false
set_option linter.all false
set_option maxRecDepth 100000
set_option maxHeartbeats 4000000
namespace Ob
open PySem PySem.SeqAt
open PySem.AutoSeq1 (wpAny_loadPart')
open PySem.MeetsSeq PySem.MeetsSeq2 PySem.MeetsSeq3
theorem tuple_mul1 (l : Addr) (items : Array Value) (n : Nat) (dd : Option Addr) (sl : Array (Option Value)) (u : Tok) :
    Meets (Builtin.«tuple.__mul__» ⟨[.ref l, .int 1 u], []⟩) (fun _ R s => s.heap.get? l = some { cls := .type "tuple", dict := dd, data := .seq items n, slots := sl } ∧ R (.ok (.ret (Value.ref l))) s) :=
  .of_wp fun prog w A R s h => by
    obtain ⟨hp, g, d, tk, os⟩ := s
    obtain ⟨hl, h⟩ := h
    have f1 := AutoSeq1.idx_int
    wp_walk using wpAny_loadPart' hl
    exact ⟨_, rfl, h⟩
end Ob
/-! Mi12: name op= e of ints, the order of data, a repeated tuple -/
namespace Mi
open PySem PySem.Spec PyProof.Rows L2
/-! ### name op= e -/
def kAug (i : Nat) (g : Int → Int → Int) : Option W → Res W → Res Out
  | some (.d (.int x)), .ok w e1 => (match vw w with
    | .int y => .ok .nx (e1.set i (some (.d (.int (g x y)))))
    | _ => .no)
  | some (.d (.int _)), .ex x e => .ex x e
  | _, _ => .no
def sAug (i : Nat) (g : Int → Int → Int) (m : ME) : MS := fun e => kAug i g (e.getD i none) (m e)
section
variable {X : Cx} {P : List Nat}
theorem ps_augM {i : Nat} {x : Str} {g : Int → Int → Int} {m : ME} {e : Expr} {op : Operator} {pos pos' : Pos} (hN : X.N.Nodup) (hP : P.contains i = false) (hi : X.N[i]? = some x) (hx : Loc X.env.scope x) (ho : PIp X op (ipI g)) (he : PE X e (tE X.K P m))
    (hf : X.fn x = true ∨ X.env.scope.names.lookup x = some .local := by first | exact .inl rfl | exact .inr rfl | assumption) : PS X (.AugAssign (.Name x pos') op e pos) (tS X.K P (sAug i g m)) := mkS (ps_aug hN hi hx he ho hf) fun p0 T σ env H o env' D sr gd hl hm hQ => by
  have hP' : i ∉ P := fun z => by rw [List.contains_iff_mem.mpr z] at hP; cases hP
  unfold sAug at hm
  cases he0 : env.getD i none with
  | none => rw [he0] at hm; cases hm
  | some w0 =>
  rw [he0] at hm
  obtain ⟨v0, hv0⟩ := sr.cov i w0 he0
  have q0 := sr.val hv0 he0
  cases w0 with
  | l xs => cases hm
  | t g0 ws0 => cases hm
  | d d0 =>
  cases d0 with
  | int k =>
    have e0 : v0 = .int k := by simpa only [RW, Dat] using q0
    subst e0
    refine ⟨.int k, hv0, ?_⟩
    cases hr : m env with
    | ok w e1 =>
      rw [hr] at hm
      simp only [kAug] at hm
      split at hm
      · rename_i y hw
        cases hm
        refine ⟨p0, T, env, w, e1, sr, gd, hr, fun v H1 sr1 g1 => ?_⟩
        have sr2 := sr1.fz
        rw [hw] at sr2
        have q := sr2.top.at_ _ List.mem_cons_self
        have ev : v = .int y := by simpa only [RW, Dat] using q
        subst ev
        refine ⟨k, y, rfl, rfl, hQ _ H1 fun _ => ?_⟩
        have sr3 : SR X.K P p0 ((.int (g k y), .d (.int (g k y))) :: T) σ e1 H1 := sr1.drop.push (sr1.drop.rels.data (by simp [Dat]))
        exact sr3.store (by rw [hl]; exact (List.getElem?_eq_some_iff.mp hi).1) hP'
      · cases hm
    | ex x e1 => rw [hr] at hm; cases hm
    | no => rw [hr] at hm; cases hm
  | none => cases hm
  | bool b => cases hm
  | str b => cases hm
  | list b => cases hm
  | tuple b => cases hm
  | dict b => cases hm
end
/-! ### the order of data -/
section
variable {X : Cx} {K : KK}
open PySem.W in
def rOrdD (K : KK) (f : D → D → Bool) : R2 := fun x y H Q => ∃ d e, Dp K H x d ∧ Dp K H y e ∧ alike d e = true ∧ d ≠ .none ∧ min d.depth e.depth ≤ 64 ∧ Q (.bl (f d e)) H
open PySem.W in
theorem op_ltD (hu : X.A.units + 65 < cLine) : OpR X (compareOp .Lt) (rOrdD X.K fun d e => dataLt d e) := by
  intro pins s σ H x y v u Q I rx ry h
  obtain ⟨d, e, hd, he, ha, hn, hz, q⟩ := h
  obtain ⟨as, r1⟩ := Dp.reads I d x v hd rx
  obtain ⟨bs, r2⟩ := Dp.reads I e y u he ry
  exact lt_data r1 r2 ha hn (by omega) ⟨.bl _, H, I, rfl, q⟩
open PySem.W in
theorem op_gtD (hu : X.A.units + 65 < cLine) : OpR X (compareOp .Gt) (rOrdD X.K fun d e => dataLt e d) := by
  intro pins s σ H x y v u Q I rx ry h
  obtain ⟨d, e, hd, he, ha, hn, hz, q⟩ := h
  obtain ⟨as, r1⟩ := Dp.reads I d x v hd rx
  obtain ⟨bs, r2⟩ := Dp.reads I e y u he ry
  exact gt_data r1 r2 ha hn (by omega) ⟨.bl _, H, I, rfl, q⟩
open PySem.W in
theorem op_leD (hu : X.A.units + 65 < cLine) : OpR X (compareOp .LtE) (rOrdD X.K fun d e => !dataLt e d) := by
  intro pins s σ H x y v u Q I rx ry h
  obtain ⟨d, e, hd, he, ha, hn, hz, q⟩ := h
  obtain ⟨as, r1⟩ := Dp.reads I d x v hd rx
  obtain ⟨bs, r2⟩ := Dp.reads I e y u he ry
  exact le_data r1 r2 ha hn (by omega) ⟨.bl _, H, I, rfl, q⟩
open PySem.W in
theorem op_geD (hu : X.A.units + 65 < cLine) : OpR X (compareOp .GtE) (rOrdD X.K fun d e => !dataLt d e) := by
  intro pins s σ H x y v u Q I rx ry h
  obtain ⟨d, e, hd, he, ha, hn, hz, q⟩ := h
  obtain ⟨as, r1⟩ := Dp.reads I d x v hd rx
  obtain ⟨bs, r2⟩ := Dp.reads I e y u he ry
  exact ge_data r1 r2 ha hn (by omega) ⟨.bl _, H, I, rfl, q⟩
/-- ordered: two ints, or two data that are alike -/
def cOrd (p : Int → Int → Bool) (f : D → D → Bool) (x y : D) : Option Bool := match x, y with
  | .int i, .int j => some (p i j)
  | x, y => if PySem.W.alike x y = true ∧ isNone x = false ∧ min x.depth y.depth ≤ 64 ∧ noD x = true ∧ noD y = true then some (f x y) else none
theorem cOrd_int (p : Int → Int → Bool) (f : D → D → Bool) (i j : Int) : cOrd p f (.int i) (.int j) = some (p i j) := rfl
theorem op_ordM {p : Int → Int → Bool} {f : D → D → Bool} : Op2B K (fun x y H Q => rI0 (fun i j => V.bl (p i j)) x y H Q ∨ rOrdD K f x y H Q) (cOrd p f) := fun H L x y dx dy b Q gd rl hx hy hf hQ => by
  unfold cOrd at hf
  split at hf
  · cases hf
    have ex := hx.int rl
    have ey := hy.int rl
    subst ex ey
    exact .inl ⟨_, _, rfl, rfl, hQ⟩
  · split at hf
    · rename_i hc
      cases hf
      exact .inr ⟨_, _, hx.dp rl hc.2.2.2.1, hy.dp rl hc.2.2.2.2, hc.1, fun e => by rw [e] at hc; exact absurd hc.2.1 (by simp), hc.2.2.1, hQ⟩
    · cases hf
abbrev dLt := cOrd (fun i j => decide (i < j)) fun d e => PySem.W.dataLt d e
abbrev dGt := cOrd (fun i j => decide (j < i)) fun d e => PySem.W.dataLt e d
abbrev dLe := cOrd (fun i j => decide (i ≤ j)) fun d e => !PySem.W.dataLt e d
abbrev dGe := cOrd (fun i j => decide (j ≤ i)) fun d e => !PySem.W.dataLt d e
theorem op_ltX (hu : X.A.units + 65 < cLine) : OpR X (compareOp .Lt) (fun x y H Q => rI0 (fun i j => V.bl (decide (i < j))) x y H Q ∨ rOrdD X.K (fun d e => PySem.W.dataLt d e) x y H Q) := OpR.or op_lt (op_ltD hu)
theorem op_gtX (hu : X.A.units + 65 < cLine) : OpR X (compareOp .Gt) (fun x y H Q => rI0 (fun i j => V.bl (decide (j < i))) x y H Q ∨ rOrdD X.K (fun d e => PySem.W.dataLt e d) x y H Q) := OpR.or op_gt (op_gtD hu)
theorem op_leX (hu : X.A.units + 65 < cLine) : OpR X (compareOp .LtE) (fun x y H Q => rI0 (fun i j => V.bl (decide (i ≤ j))) x y H Q ∨ rOrdD X.K (fun d e => !PySem.W.dataLt e d) x y H Q) := OpR.or op_le (op_leD hu)
theorem op_geX (hu : X.A.units + 65 < cLine) : OpR X (compareOp .GtE) (fun x y H Q => rI0 (fun i j => V.bl (decide (j ≤ i))) x y H Q ∨ rOrdD X.K (fun d e => !PySem.W.dataLt d e) x y H Q) := OpR.or op_ge (op_geD hu)
end
/-! ### a tuple times an int -/
section
variable {X : Cx} {K : KK}
def rRep1 (K : KK) : R2 := fun x y H Q => ∃ l xs, x = .ref l ∧ y = .int 1 ∧ SqT K H l xs ∧ Q (.ref l) H
theorem op_rep1 : OpR X (binaryOp .Mult) (rRep1 X.K) := by
  intro pins s σ H x y v u Q I rx ry h
  obtain ⟨l, xs, rfl, rfl, hT, q⟩ := h
  cases rx
  obtain ⟨t, rfl⟩ := ry
  obtain ⟨its, r, ⟨⟨cls, dd, data, sl⟩, ho, hc, n, hd⟩, hs⟩ := I.tuple hT
  simp only at hc hd
  subst hc hd
  exact wpAny_binaryOp_repeat_ref (T := "tuple") (U := "int") (by decide) ⟨_, ho, rfl⟩ (fun s' => typeIs_int s' 1 t) noFill_tuple_mul F.fills_int_mul F.slot_int_rmul repeat_tuple F.slot_int_index.lookup
    (call_meets F.slot_int_rmul (typeIs_int s 1 t) F.entry_int_rmul (F.args_int_rmul_2 _ _) (int_rmul_tuple 1 t l its.toArray n dd sl)
      ⟨ho, rfl, ⟨_, ho, rfl⟩, call_meets F.slot_tuple_mul ⟨_, ho, rfl⟩ F.entry_tuple_mul (F.args_tuple_mul_2 _ _) (Ob.tuple_mul1 l its.toArray n dd sl t) ⟨ho, V.ref l, H, I, rfl, q⟩⟩)
theorem op_repX : OpR X (binaryOp .Mult) (fun x y H Q => rRep1 X.K x y H Q ∨ rRepT X.K x y H Q) := OpR.or op_rep1 op_repT
def fRepT : D → D → Option W
  | .tuple xs, .int k => if k = 1 then some (.d (.tuple xs)) else if 2 ≤ k ∧ k ≤ 1000 ∧ xs.length ≤ 1000 ∧ xs.isEmpty = false then some (.d (.tuple (List.replicate k.toNat xs).flatten)) else none
  | _, _ => none
theorem op_repTM : Op2 K (fun x y H Q => rRep1 K x y H Q ∨ rRepT K x y H Q) fRepT := fun H L x y dx dy w Q gd rl hx hy hf hQ => by
  cases dx <;> cases dy <;> simp only [fRepT] at hf <;> try cases hf
  rename_i xs k
  obtain ⟨a, vs, rfl, hs, ha, hd⟩ := hx.tuple rl
  have ey := hy.int rl
  subst ey
  split at hf
  · rename_i hk
    cases hf
    subst hk
    exact .inl ⟨a, vs, rfl, rfl, hs, hQ _ H fun _ => rl.data ⟨a, vs, rfl, hs, ha, hd⟩⟩
  · split at hf
    · rename_i hc
      cases hf
      refine .inr ⟨a, k, vs, rfl, rfl, hs, fun e => ?_, hc.1, hc.2.1, by rw [← hd.length]; exact hc.2.2.1, fun p hp => hQ _ _ fun g => rl.newTup hp (newK g) (dats_rep hd k.toNat)⟩
      subst e
      have := hd.length
      cases xs with
      | nil => exact absurd hc.2.2.2 (by simp)
      | cons _ _ => simp at this
    · cases hf
end
end Mi
set_option Elab.async false
set_option linter.all false
set_option maxRecDepth 100000
set_option maxHeartbeats 4000000
/-! Mi13: isinstance -/
namespace Mi
open PySem PySem.Spec PyProof.Rows L2
section
variable {X : Cx} {K : KK}
def tyOf : D → String
  | .none => "NoneType"
  | .bool _ => "bool"
  | .int _ => "int"
  | .str _ => "str"
  | .list _ => "list"
  | .tuple _ => "tuple"
  | .dict _ => "dict"
def isTy (d : D) (n : String) : Bool := tyOf d == n || (tyOf d == "bool" && n == "int")
theorem kit_int (d : D) : PySem.W.kitOne K (.type (tyOf d)) (.type "int") = some (isTy d "int") := by cases d <;> rfl
theorem kit_bool (d : D) : PySem.W.kitOne K (.type (tyOf d)) (.type "bool") = some (isTy d "bool") := by cases d <;> rfl
theorem kit_tuple (d : D) : PySem.W.kitOne K (.type (tyOf d)) (.type "tuple") = some (isTy d "tuple") := by cases d <;> rfl
theorem kit_list (d : D) : PySem.W.kitOne K (.type (tyOf d)) (.type "list") = some (isTy d "list") := by cases d <;> rfl
theorem kit_str (d : D) : PySem.W.kitOne K (.type (tyOf d)) (.type "str") = some (isTy d "str") := by cases d <;> rfl
theorem tyX_of {H : Hp} {L : List (V × W)} {x : V} {d : D} (rl : Rels K H L) (hx : Vw L x d) (hd : tyOf d ≠ "dict") : TyX K H x (.type (tyOf d)) := by
  cases d with
  | none => rw [hx.none rl]; exact .base .non
  | bool b => rw [hx.bool rl]; exact .base (.bl b)
  | int i => rw [hx.int rl]; exact .base (.int i)
  | str s => rw [hx.str rl]; exact .base (.str s)
  | list xs =>
    obtain ⟨a, vs, rfl, hs, _⟩ := hx.list rl
    rcases hs with (h | ⟨o, h⟩) | ⟨o, its, n, h1, h2, _⟩
    · exact .base (.lst h)
    · exact .base (.frz h)
    · exact .kList h1 h2
  | tuple xs =>
    obtain ⟨a, vs, rfl, hs, _⟩ := hx.tuple rl
    rcases hs with (h | ⟨o, h⟩) | ⟨o, its, n, h1, h2, _⟩
    · exact .base (.tup h)
    · exact .fTuple h
    · exact .kTuple h1 h2
  | dict kvs => exact absurd rfl hd
def fIs (n : String) (d : D) : Option W := if tyOf d ≠ "dict" then some (.d (.bool (isTy d n))) else none
def rIs1 (K : KK) (n : String) : V → Hp → VK → Prop := fun v H Q => rIsi K [v, .ty n] H Q
theorem op_isi {n : String} (hn : ∀ d : D, PySem.W.kitOne K (.type (tyOf d)) (.type n) = some (isTy d n)) : Op1 K (rIs1 K n) (fIs n) := fun H L x dx w Q gd rl hx hf hQ => by
  unfold fIs at hf
  split at hf
  · rename_i hd
    cases hf
    exact ⟨x, .ty n, _, _, isTy dx n, rfl, .ty n, tyX_of rl hx hd, hn dx, hQ _ H fun _ => rl.data (by simp [Dat])⟩
  · cases hf
theorem pe_isi {a : Expr} {ta : TE} {T : Str} {n : String} {p p2 pos : Pos} (ha : PE X a ta) (hg : Gl X "isinstance") (hm : X.mg "isinstance" = none) (hb : bootBuiltins "isinstance" = some (.builtin "isinstance")) (hg2 : Gl X T) (hm2 : X.mg T = none) (hb2 : bootBuiltins T = some (.type n))
    (hn : T ≠ "__name__" := by decide) (hd : (T == ("__debug__" : Str)) = false := by decide) (hs : starEach [a, .Name T p2] X.env = (false, eval a X.env) :: starEach [.Name T p2] X.env := by rfl) (hs2 : ((backTo pos (starEach [.Name T p2] X.env)).any fun x => x.fst) = false := by rfl) (hs3 : starEach [.Name T p2] X.env = (false, eval (.Name T p2) X.env) :: starEach [] X.env := by rfl) :
    PE X (.Call (.Name "isinstance" p) [a, .Name T p2] [] pos) (tUn (rIs1 X.K n) ta) :=
  pe_callB call_isi hg hm hb (pa_cons ha (pa_cons (pe_bltn (v := .ty n) hg2 hm2 hb2 rfl hn hd) pa_nil hs3) hs) (by decide) (by decide) hs hs2
end
end Mi
set_option Elab.async false
set_option linter.all false
set_option maxRecDepth 100000
set_option maxHeartbeats 4000000
namespace PySem
open Sem (wp)
open AutoSeq1 (wpAny_loadPart')
theorem meets_enumerate_newT (l : Addr) (items : Array Value) (n : Nat) (dct : Option Addr) (sl : Array (Option Value)) :
    Meets (Builtin.«enumerate.__new__» ⟨[.type "enumerate", .ref l], []⟩) (fun _ R s => s.heap.get? l = some { cls := .type "tuple", dict := dct, data := .seq items n, slots := sl } ∧
      R (.ok (.ret (.ref (s.heap.push { cls := .type "tuple_iterator", data := .fields #[.ref l, .int 0 0] }).objs.size)))
        { s with heap := (s.heap.push { cls := .type "tuple_iterator", data := .fields #[.ref l, .int 0 0] }).push { cls := .type "enumerate", data := .fields #[.none, .bool false, .ref s.heap.objs.size, rawInt 0, .none, .none] } }) :=
  .of_wp fun prog w A R s h => by
    obtain ⟨hp, g, d, tk, os⟩ := s; obtain ⟨hl, h⟩ := h
    have hsub := sub_enumerate
    have hL : Heap.IsTuple (Shared.heap ⟨hp, g, d, tk, os⟩) l items := ⟨_, hl, rfl, n, rfl⟩
    wp_walk using wpAny_loadPart' hl
    refine wpAny_stack_any fun st => wpAny_pure ?_
    split
    · rename_i c _ _ _ _ _
      cases (c == Value.type "enumerate")
      · wp_walk using wpAny_loadPart' hl, wpAny_pyIter_tuple hL
        exact ⟨_, rfl, h⟩
      · wp_walk using wpAny_loadPart' hl, wpAny_pyIter_tuple hL
        exact ⟨_, rfl, h⟩
    · wp_walk using wpAny_loadPart' hl, wpAny_pyIter_tuple hL
      exact ⟨_, rfl, h⟩
section
variable {prog : Program} {w : World} {A : Around} {E : Value → Shared → Prop} {s : Shared}
theorem call_enumerate_tuple {l : Addr} {items : Array Value} {Q : Value → Shared → Prop} (hL : s.heap.IsTuple l items)
    (h : ∀ h', IsEnum h' (s.heap.objs.size + 1) s.heap.objs.size 0 .none → h'.IsTupleIter s.heap.objs.size l 0 → h'.objs.size = s.heap.objs.size + 2 →
      (∀ b o, s.heap.get? b = some o → h'.get? b = some o) → Q (.ref (s.heap.objs.size + 1)) { s with heap := h' }) :
    wpAny (model prog w) A (call (.type "enumerate") [.ref l]) Q E s := by
  obtain ⟨⟨c, dct, dt, sl⟩, hl, hc, n, hd⟩ := hL
  replace hc : c = .type "tuple" := hc
  replace hd : dt = .seq items n := hd
  subst hc hd
  refine callType_new F.called_enumerate (by decide) (F.typeCall_enumerate_1 _) (F.newCall_enumerate_1 _) (fun obj => F.args_object_init_2 obj _) F.entry_enumerate_new
    (meets_enumerate_newT l items n dct sl) ⟨hl, ?_⟩
  have hz : (s.heap.push { cls := .type "tuple_iterator", data := .fields #[.ref l, .int 0 0] }).objs.size = s.heap.objs.size + 1 := Heap.size_push ..
  show _ ∧ _
  rw [hz]
  have he : IsEnum ((s.heap.push { cls := .type "tuple_iterator", data := .fields #[.ref l, .int 0 0] }).push
      { cls := .type "enumerate", data := .fields #[.none, .bool false, .ref s.heap.objs.size, rawInt 0, .none, .none] }) (s.heap.objs.size + 1) s.heap.objs.size 0 .none := by
    have := Heap.get?_push_size (s.heap.push { cls := .type "tuple_iterator", data := .fields #[.ref l, .int 0 0] })
      (o := { cls := .type "enumerate", data := .fields #[.none, .bool false, .ref s.heap.objs.size, rawInt 0, .none, .none] }) rfl
    rw [hz] at this; exact this
  refine ⟨⟨_, he, rfl⟩, h _ he ⟨_, Heap.get?_push_of_some _ (Heap.get?_push_size _ rfl), rfl, rfl⟩ (by rw [Heap.size_push, hz]) fun b o x => Heap.get?_push_of_some _ (Heap.get?_push_of_some _ x)⟩
end
end PySem

namespace L2
open PySem PySem.Spec PyProof.Rows
theorem wpAny_pyNext_enum_endT {prog : Program} {w : World} {A : Around} {E : Value → Shared → Prop} {s : Shared} {e it a : Addr} {i : Nat} {items : Array Value} {old : Value} {k : Int} {Q : Option Value → Shared → Prop} (hh : A.handled = none) (he : IsEnum s.heap e it k old) (hit : s.heap.IsTupleIter it a i) (ht : s.heap.IsTuple a items) (hx : items[i]? = none)
    (hQ : ∀ h', Heap.ExtBut it s.heap h' → Q none { s with heap := h' }) : wpAny (model prog w) A (pyNext (.ref e)) Q E s := by
  have hT : s.TypeIs (.ref e) "enumerate" := ⟨_, he, rfl⟩
  unfold pyNext
  refine wpAny_bind (wpAny_attempt (wpAny_callSpecial?_slot (name := Str.ofString "__next__") hT F.slot_enumerate_next
    (wpAny_call_entry F.slot_enumerate_next hT F.entry_enumerate_next ?_ (F.args_enumerate_next_1 _))))
  show wpAny _ _ (field (.ref e) 2 >>= _) _ _ _
  refine wpAny_bind (wpAny_field he rfl (x := .ref it) rfl ?_)
  refine wpAny_bind (wpAny_nextOf_tuple_end hh hit ht hx fun h' x he' hx' => ?_)
  obtain ⟨o, ho, hc⟩ := hx'
  refine wpAny_bind (wpAny_isInstance (T := "StopIteration") (b := true) ⟨o, ho, hc⟩ isSubtype_stop ?_)
  exact wpAny_pure (hQ _ he')
/-- the tuple at a, each item in a new pair with its number -/
def IteT (K : PySem.W.Frag) (a : Addr) : It :=
  ⟨fun i H => ∃ (xs : List V) (x : V), SqT K H a xs ∧ xs[i]? = some x, fun i H v H' => ∃ T x, v = .ref T ∧ H T = none ∧ H' = upd H T (.tup [.int (i : Nat), x]) ∧ ∀ xs, SqT K H a xs → xs[i]? = some x, fun i H => ∃ xs : List V, SqT K H a xs ∧ xs.length ≤ i⟩
theorem turn_enumT {P : Program} {w : World} {K : PySem.W.Frag} {elts : List Expr} {kk : Nat} {tpos : Pos} (a e it : Addr) :
    Turn P w K (.Tuple elts kk tpos) (IteT K a) [e, it] e (fun i h => (∃ old, IsEnum h e it ((i : Nat) : Int) old) ∧ h.IsTupleIter it a i ∧ e ≠ it) where
  mem := by simp
  obj := fun i h st b hb => by
    obtain ⟨⟨old, he⟩, ⟨o, ho, hc, hd⟩, _⟩ := st
    have e' : b = e ∨ b = it := by simpa using hb
    rcases e' with z | z
    · rw [z]; exact ⟨_, he, fun v q => nomatch q⟩
    · rw [z]; exact ⟨o, ho, fun v q => by rw [hd] at q; cases q⟩
  keep := fun i h h' st k => let ⟨⟨old, he⟩, hi, hne⟩ := st; ⟨⟨old, k e (by simp) _ he⟩, hi.at fun o q => k it (by simp) o q, hne⟩
  item := by
    intro X hP hw hK hc i pins s σ H E I hf st hg
    subst hP hw hK
    obtain ⟨⟨old, he⟩, hit, hne⟩ := st
    obtain ⟨xs, x, hq, hx⟩ := hg
    obtain ⟨its, rv, p, hz⟩ := I.tuple hq
    obtain ⟨u, hu, ru⟩ := rv.get hx
    have hel : e < s.heap.objs.size := Heap.lt_size he
    have hil : it < s.heap.objs.size := by obtain ⟨_, q, _⟩ := hit; exact Heap.lt_size q
    have hea : e ≠ a := fun z => by
      obtain ⟨o, ho, hcl, _⟩ := p
      rw [← z] at ho
      have := he.symm.trans ho
      cases this
      simp at hcl
    have hia : a ≠ it := fun z => by
      obtain ⟨o, ho, hcl, _⟩ := p
      obtain ⟨o2, ho2, hcl2, _⟩ := hit
      rw [z] at ho
      have := ho2.symm.trans ho
      cases this
      rw [hcl] at hcl2
      simp at hcl2
    refine wpAny_pyNext_enum_itemD (Draws.tuple (A := X.A.in1) (I.ok.hd hc) it a hia its.toArray) he ⟨hit, p⟩ (by simp; exact (List.getElem?_eq_some_iff.mp hu).1) hne (by simp; exact ⟨hne, hea⟩) fun u' h' tk hu' ho hit' hT hsz hk => ?_
    have eu : u' = u := by
      have : its[i]? = some u' := by simpa using hu'
      rw [hu] at this
      cases this; rfl
    subst eu
    refine ⟨_, rfl, wpAny_letOwnedTupleGo_enum (s := { s with heap := h', toks := tk + 1 }) ho fun h'' he' sb => ?_⟩
    have hT2 : h''.get? s.heap.objs.size = some { cls := .type "tuple", data := .seq #[.int i tk, u'] } := (sb.2 _ (Nat.ne_of_gt hel)).trans hT
    have new : ObjOk X.prog X.w (upd H s.heap.objs.size (.tup [.int (i : Nat), x])) h'' s.heap.objs.size (.tup [.int (i : Nat), x]) :=
      ⟨by show 2 ≤ sizeLine; decide, [.int i tk, u'], .cons ⟨_, rfl⟩ (.cons ru .nil), ⟨_, hT2, rfl, _, rfl⟩⟩
    have I1 : Inv X pins σ (upd H s.heap.objs.size (.tup [.int (i : Nat), x])) { s with heap := h'', toks := tk + 1 } :=
      I.turnedNew (ch := [e, it]) (fun b ob hb q => (sb.2 b (fun z => hb (by simp [z]))).trans (hk b ob (fun z => hb (by simp [z])) (fun z => hb (by simp [z])) q)) hf (Nat.le_refl _) new
    refine ⟨.ref s.heap.objs.size, _, I1, rfl, ⟨_, x, rfl, I.hok.fresh (Nat.le_refl _), rfl, fun ys hy => by rw [I.tuple_inj hy hq]; exact hx⟩, ⟨⟨u', ?_⟩, hit'.1.at fun o q => (sb.2 it (Ne.symm hne)).trans q, hne⟩, fun b hb => ?_⟩
    · have e1 : ((i + 1 : Nat) : Int) = (i : Int) + 1 := by omega
      rw [e1]; exact he'
    · have hb' : b < s.heap.objs.size := by
        have e' : b = e ∨ b = it := by simpa using hb
        rcases e' with z | z
        · rw [z]; exact hel
        · rw [z]; exact hil
      rw [upd_ne (Nat.ne_of_lt hb')]
      exact (hf b hb).1
  done := by
    intro X hP hw hK hc i pins s σ H E I hf st hg
    subst hP hw hK
    obtain ⟨⟨old, he⟩, hit, hne⟩ := st
    obtain ⟨xs, hq, hx⟩ := hg
    obtain ⟨its, rv, p, hz⟩ := I.tuple hq
    have hl := rv.length
    obtain ⟨f0, f1, f2, f3, f4, f5⟩ := hf it (by simp)
    exact wpAny_pyNext_enum_endT (I.ok.hd hc) he hit p (by simp; omega) fun h' eb => ⟨rfl, I.turned (t' := s.toks) (fun b o hb q => eb b o hb q) f0 f1 f3 f4 f5⟩
  self := fun A i s Q E st h => let ⟨⟨_, he⟩, _⟩ := st; wpAny_pyIter_enum he h
def iEnumT (K : PySem.W.Frag) (ta : TA) : TI := fun σ H R => ta σ H fun vs H1 => ∃ a xs, vs = [.ref a] ∧ SqT K H1 a xs ∧ R (IteT K a) H1
theorem pi_enumT {X : Cx} {e : Expr} {ta : TA} {p pos tpos : Pos} {elts : List Expr} {kk : Nat} (hg : Gl X "enumerate") (hm : X.mg "enumerate" = none) (ha : PA X [e] ta) (hs : starEach [e] X.env = [(false, eval e X.env)] := by rfl) :
    PI X (.Tuple elts kk tpos) (.Call (.Name "enumerate" p) [e] [] pos) (iEnumT X.K ta) := by
  refine ⟨fun pins s σ H R I h => ?_⟩
  refine Call_ (ld_blt I hg hm boot_enumerate (PyProof.Rows.callWith_type1 (thn (ha.run pos pins s σ H _ I h) fun us s1 ⟨vs, H1, I1, r1, q1⟩ => ?_) hs rfl))
  obtain ⟨a, xs, ex, hq, q⟩ := q1
  subst ex
  cases r1 with
  | cons r rr =>
    cases rr
    cases r
    obtain ⟨its, rv, p', hz⟩ := I1.tuple hq
    refine call_enumerate_tuple p' fun h' he hit hsz hk => wpAny_pyIter_enum he ?_
    have I2 : Inv X pins σ H1 { s1 with heap := h' } := I1.kept (t' := s1.toks) hk
    refine ⟨s1.heap.objs.size + 1, [s1.heap.objs.size + 1, s1.heap.objs.size], _, _, H1, rfl, I2, turn_enumT a (s1.heap.objs.size + 1) s1.heap.objs.size, ⟨⟨.none, he⟩, hit, Nat.succ_ne_self _⟩, fun b hb => ?_, q⟩
    have e' : b = s1.heap.objs.size + 1 ∨ b = s1.heap.objs.size := by simpa using hb
    have hle : s1.heap.objs.size ≤ b := by
      rcases e' with z | z
      · rw [z]; exact Nat.le_add_right _ _
      · rw [z]; exact Nat.le_refl _
    exact I1.fpOk hle (I1.hok.fresh hle)
end L2
namespace Mi
open PySem PySem.Spec PyProof.Rows L2
def enumD : Nat → List D → List D
  | _, [] => []
  | n, x :: xs => .tuple [.int (n : Int), x] :: enumD (n + 1) xs
theorem enumD_len : ∀ (n : Nat) (xs : List D), (enumD n xs).length = xs.length
  | _, [] => rfl
  | n, x :: xs => by simp [enumD, enumD_len (n + 1) xs]
theorem enumD_get : ∀ (n : Nat) (xs : List D) (i : Nat), (enumD n xs)[i]? = (xs[i]?).map fun x => PyData.tuple [.int ((n + i : Nat) : Int), x]
  | _, [], i => by simp [enumD]
  | n, x :: xs, 0 => by simp [enumD]
  | n, x :: xs, i + 1 => by
    simp only [enumD, List.getElem?_cons_succ, enumD_get (n + 1) xs i]
    rw [show n + 1 + i = n + (i + 1) by omega]
theorem itOk_enumT {K : KK} {a : Addr} {xs : List D} : ItOk K (IteT K a) (enumD 0 xs) [(.ref a, .d (.tuple xs))] where
  go := fun i H L hi h s => by
    obtain ⟨b, vs, e, h1, _, h2⟩ := (show ∃ b vs, V.ref a = .ref b ∧ SqT K H b vs ∧ b ∉ owned H L ∧ Dats K H (owned H L) xs vs from by simpa only [RW, Dat] using h.at_ _ (s _ List.mem_cons_self))
    cases e
    rw [enumD_len] at hi
    obtain ⟨x, hx⟩ := h2.lt hi
    exact ⟨vs, x, h1, hx⟩
  stop := fun H L h s => by
    obtain ⟨b, vs, e, h1, _, h2⟩ := (show ∃ b vs, V.ref a = .ref b ∧ SqT K H b vs ∧ b ∉ owned H L ∧ Dats K H (owned H L) xs vs from by simpa only [RW, Dat] using h.at_ _ (s _ List.mem_cons_self))
    cases e
    exact ⟨vs, h1, by rw [enumD_len, h2.length]; exact Nat.le_refl _⟩
  yld := fun i H L x H' d h s e y g => by
    obtain ⟨b, vs, e2, h1, _, h2⟩ := (show ∃ b vs, V.ref a = .ref b ∧ SqT K H b vs ∧ b ∉ owned H L ∧ Dats K H (owned H L) xs vs from by simpa only [RW, Dat] using h.at_ _ (s _ List.mem_cons_self))
    cases e2
    obtain ⟨T, x', rfl, hn, rfl, hy⟩ := y
    have hk := newK g
    rw [enumD_get] at e
    obtain ⟨d', hd', rfl⟩ := Option.map_eq_some_iff.mp e
    refine ⟨fun p o hp => ?_, h.newTup hn hk ?_⟩
    · have := g p o hp
      rw [upd_ne (fun z => by rw [z, hk] at hp; cases hp)] at this
      exact this
    · refine ⟨_, _, rfl, ?_, _, _, rfl, h2.at hd' (hy vs h1), rfl⟩
      show V.int (i : Nat) = .int ((0 + i : Nat) : Int)
      rw [Nat.zero_add]
def iEnT (m : ME) : MI := fun e => bnd (m e) fun w e1 => match vw w with
  | .tuple xs => .ok (enumD 0 xs) e1
  | _ => .no
theorem pi_enM {X : Cx} {P : List Nat} {tg iter : Expr} {m : ME} {ta : TA} (hta : ta = tF X.K P [m]) (h : PI X tg iter (iEnumT X.K ta)) : PI X tg iter (tI X.K P (iEnT m)) := mkI h fun p0 T σ env H xs env' R sr g hm hR => by
  subst hta
  obtain ⟨w, e1, h1, hm⟩ := bnd_eq_ok hm
  split at hm
  · rename_i ys hw
    cases hm
    refine ⟨p0, T, env, [.tuple ys], env', sr, g, by simp only [evT, h1, bnd_ok, hw], fun vs H1 hd sr1 g1 => ?_⟩
    obtain ⟨v, r, rfl, hv, rfl⟩ := hd
    obtain ⟨a, us, rfl, hs, ha, hd⟩ := (show ∃ a us, v = .ref a ∧ SqT X.K H1 a us ∧ a ∉ owned H1 (pr σ env' ++ T) ∧ Dats X.K H1 (owned H1 (pr σ env' ++ T)) ys us from by simpa only [Dat] using hv)
    refine ⟨a, us, rfl, hs, hR _ [(.ref a, .d (.tuple ys))] H1 itOk_enumT fun _ => ?_⟩
    exact sr1.push (sr1.rels.data hv)
  · cases hm
end Mi
set_option Elab.async false
set_option linter.all false
set_option maxRecDepth 100000
set_option maxHeartbeats 4000000
/-! Mi15: slices, sums of sequences, extend, pop, all, any, max, min -/
namespace PySem
open Sem (wp)
open AutoSeq1 (wpAny_loadPart')
theorem list_extend_list_anyT (l : Addr) (items : Array Value) (n : Nat) (b : Addr) (items2 : Array Value) (n2 : Nat) (dct : Option Addr) (sl : Array (Option Value)) (hs0 : ¬(!items.isEmpty && Builtin.List.listTooLong (items.size + items2.size)) = true) (hs1 : items.size ≤ sizeLine) (hs2 : items.size + items2.size ≤ sizeLine + 1) :
    Meets (Builtin.«list.extend» ⟨[.ref l, .ref b], []⟩) (fun _ R s => s.heap.get? l = some { cls := .type "list", dict := none, data := .seq items n, slots := #[] } ∧ s.heap.get? b = some { cls := .type "tuple", dict := dct, data := .seq items2 n2, slots := sl } ∧ R (.ok (.ret Value.none)) { s with heap := s.heap.update l (Obj.mapSeq fun x => x ++ items2), toks := s.toks }) :=
  .of_wp fun prog w A R s h => by
    obtain ⟨hp, g, d, tk, os⟩ := s; obtain ⟨hl, hb, h⟩ := h; have f1 := AutoSeq1.idx_int; have f2 := AutoSeq1.sub_tuple_tuple; have f3 := AutoSeq1.sub_list_list; have f4 := AutoSeq1.sub_tuple_list; have f5 := AutoSeq1.sub_list_tuple;
    have hz' : (items ++ items2).size ≤ sizeLine + 1 := by rw [Array.size_append]; exact hs2
    wp_walk using (wpAny_updateSeq hl rfl (hz := hs1) (_hz' := hz')), wpAny_loadPart' hl, wpAny_loadPart' hb; exact ⟨_, rfl, h⟩
theorem list_extend_list_anyL (l : Addr) (items : Array Value) (n : Nat) (b : Addr) (items2 : Array Value) (n2 : Nat) (dct : Option Addr) (sl : Array (Option Value)) (hs0 : ¬(!items.isEmpty && Builtin.List.listTooLong (items.size + items2.size)) = true) (hs1 : items.size ≤ sizeLine) (hs2 : items.size + items2.size ≤ sizeLine + 1) :
    Meets (Builtin.«list.extend» ⟨[.ref l, .ref b], []⟩) (fun _ R s => s.heap.get? l = some { cls := .type "list", dict := none, data := .seq items n, slots := #[] } ∧ s.heap.get? b = some { cls := .type "list", dict := dct, data := .seq items2 n2, slots := sl } ∧ R (.ok (.ret Value.none)) { s with heap := s.heap.update l (Obj.mapSeq fun x => x ++ items2), toks := s.toks }) :=
  .of_wp fun prog w A R s h => by
    obtain ⟨hp, g, d, tk, os⟩ := s; obtain ⟨hl, hb, h⟩ := h; have f1 := AutoSeq1.idx_int; have f2 := AutoSeq1.sub_tuple_tuple; have f3 := AutoSeq1.sub_list_list; have f4 := AutoSeq1.sub_tuple_list; have f5 := AutoSeq1.sub_list_tuple;
    have hz' : (items ++ items2).size ≤ sizeLine + 1 := by rw [Array.size_append]; exact hs2
    wp_walk using (wpAny_updateSeq hl rfl (hz := hs1) (_hz' := hz')), wpAny_loadPart' hl, wpAny_loadPart' hb; exact ⟨_, rfl, h⟩
end PySem
namespace L2
open PySem PySem.Spec PyProof.Rows
section
variable {X : Cx}
/-- xs.extend(ys), ys a list or a tuple -/
def rExtA (K : PySem.W.Frag) : V → List V → Hp → VK → Prop := fun x vs H Q => ∃ l b xs zs, x = .ref l ∧ vs = [.ref b] ∧ H l = some (.lst xs) ∧ (SqL K H b zs ∨ SqT K H b zs) ∧ xs.length + zs.length ≤ sizeLine ∧ Q .non (upd H l (.lst (xs ++ zs)))
theorem mt_extA : MtM X "list.extend" (rExtA X.K) := by
  intro pins s σ H x vs v us Q I rx rv h
  obtain ⟨l, b, xs, zs, rfl, rfl, hH, hB, hz, q⟩ := h
  cases rx
  obtain ⟨u, rfl, ru⟩ := rv.one
  cases ru
  obtain ⟨z, its, n, r, hl, e⟩ := I.lstM hH
  have fin : ∀ its2 : List Value, Vals zs its2 → EP X pins σ Q Value.none { s with heap := s.heap.update l (Obj.mapSeq fun x => x ++ its2.toArray), toks := s.toks } := fun its2 r2 => by
    refine ⟨.non, _, I.lset (its' := its ++ its2) hH e (by simp) (r.append r2) ?_, rfl, q⟩
    rw [List.length_append]
    omega
  have door : ∀ its2 : List Value, Vals zs its2 → its.toArray.size + its2.toArray.size ≤ sizeLine ∧ ¬ (!its.toArray.isEmpty && Builtin.List.listTooLong (its.toArray.size + its2.toArray.size)) = true := fun its2 r2 => by
    have h1 := r.length
    have h2 := r2.length
    have hsz : its.toArray.size + its2.toArray.size ≤ sizeLine := by rw [List.size_toArray, List.size_toArray]; omega
    refine ⟨hsz, ?_⟩
    rw [notLongL hsz, Bool.and_false]
    exact Bool.false_ne_true
  rcases hB with hB | hB
  · obtain ⟨its2, r2, hb, _⟩ := I.list hB
    obtain ⟨⟨c2, d2, dt2, sl2⟩, n2, e2, hc, hd, hn⟩ := hb
    simp only at hc hn
    subst hc hn
    obtain ⟨hsz, hlong⟩ := door its2 r2
    exact call_meets F.slot_list_extend ⟨_, e, rfl⟩ F.entry_list_extend (F.args_list_extend_2 _ _)
      (list_extend_list_anyL l its.toArray n b its2.toArray n2 d2 sl2 hlong (by rw [List.size_toArray]; omega) (by omega)) ⟨e, e2, fin its2 r2⟩
  · obtain ⟨its2, r2, hb, _⟩ := I.tuple hB
    obtain ⟨⟨c2, d2, dt2, sl2⟩, e2, hc, n2, hn⟩ := hb
    simp only at hc hn
    subst hc hn
    obtain ⟨hsz, hlong⟩ := door its2 r2
    exact call_meets F.slot_list_extend ⟨_, e, rfl⟩ F.entry_list_extend (F.args_list_extend_2 _ _)
      (list_extend_list_anyT l its.toArray n b its2.toArray n2 d2 sl2 hlong (by rw [List.size_toArray]; omega) (by omega)) ⟨e, e2, fin its2 r2⟩
end
end L2

namespace HT
open PySem PySem.Spec PyProof.Rows
section
variable {prog : Program} {w : World} {A : Around} {E : Value → Shared → Prop} {s : Shared}
theorem sliceApplied_rev {sl : Addr} {vs : Value} {n : Nat} {Q : Int × Int × Nat → Shared → Prop} (hs : s.heap.IsSliceOf sl .none .none vs) (ps : IsPart vs (some (-1)))
    (h : Q ((n : Int) - 1, -1, n) s) : wpAny (model prog w) A (Builtin.Slice.sliceApplied (.ref sl) (pure (n : Int))) Q E s := by
  obtain ⟨os, hos, hcs, hds⟩ := id hs
  unfold Builtin.Slice.sliceApplied Builtin.Slice.sliceFields
  refine wpAny_bind (wpAny_bind (wpAny_field hos hds (x := .none) rfl (wpAny_bind (wpAny_field hos hds (x := .none) rfl (wpAny_bind (wpAny_field hos hds (x := vs) rfl (wpAny_pure ?_)))))))
  refine wpAny_bind (slicePart_ ps ?_)
  show wpAny _ _ (if ((-1 : Int) == 0) = true then _ else _) _ _ s
  rw [if_neg (by decide)]
  refine wpAny_bind (slicePart_none (wpAny_bind (slicePart_none (wpAny_bind (wpAny_pure ?_)))))
  show wpAny _ _ (match Builtin.Slice.sliceAdjust none none (-1) (n : Int) with | (lo, hi) => pure (lo, (-1 : Int), Builtin.Slice.slicePlaces lo hi (-1))) _ _ s
  have e1 : Builtin.Slice.sliceAdjust none none (-1) (n : Int) = ((n : Int) - 1, -1) := by
    unfold Builtin.Slice.sliceAdjust
    simp
  have e2 : Builtin.Slice.slicePlaces ((n : Int) - 1) (-1) (-1) = n := by
    unfold Builtin.Slice.slicePlaces
    simp
    omega
  rw [e1]
  show wpAny _ _ (pure ((n : Int) - 1, (-1 : Int), Builtin.Slice.slicePlaces ((n : Int) - 1) (-1) (-1))) _ _ s
  rw [e2]
  exact wpAny_pure h
theorem pick_rev (xs : Array Value) : ((List.range xs.size).filterMap fun (m : Nat) => xs[((xs.size : Int) - 1 + (m : Int) * -1).toNat]?).toArray = xs.toList.reverse.toArray := by
  congr 1
  have : ∀ (k : Nat), k ≤ xs.size → ((List.range k).filterMap fun (m : Nat) => xs[((xs.size : Int) - 1 + (m : Int) * -1).toNat]?) = xs.toList.reverse.take k := by
    intro k
    induction k with
    | zero => intro _; simp
    | succ k ih =>
      intro hk
      rw [List.range_succ, List.filterMap_append, ih (by omega)]
      have e : ((xs.size : Int) - 1 + (k : Int) * -1).toNat = xs.size - 1 - k := by omega
      have hlt : xs.size - 1 - k < xs.size := by omega
      simp only [List.filterMap_cons, List.filterMap_nil, e]
      rw [Array.getElem?_eq_getElem hlt]
      simp only []
      rw [List.take_succ_eq_append_getElem (by simp; omega)]
      congr 1
      simp
  have := this xs.size (Nat.le_refl _)
  rw [this, List.take_of_length_le (by simp)]
theorem getItem_tuple_rev {t sl : Addr} {items : Array Value} {vs : Value} {Q : Value → Shared → Prop} (ht : IsTup s.heap t items) (hs : s.heap.IsSliceOf sl .none .none vs) (ps : IsPart vs (some (-1)))
    (h : Q (.ref s.heap.objs.size) { s with heap := s.heap.push { cls := .type "tuple", data := .seq items.toList.reverse.toArray } })
    (hsz : items.size ≤ sizeLine) : wpAny (model prog w) A (getItem (.ref t) (.ref sl)) Q E s := by
  have htake : sizeOk (.seq items.toList.reverse.toArray) := by
    show items.toList.reverse.toArray.size ≤ sizeLine
    simpa using hsz
  obtain ⟨os, hos, hcs, hds⟩ := id hs
  have hTs : s.TypeIs (.ref sl) "slice" := ⟨os, hos, hcs⟩
  unfold getItem
  try with_reducible refine wpAny_holding ?_
  first | refine wpAny_bind (wpAny_pure ?_) | skip
  refine wpAny_bind (wpAny_sequenceKey ht.typeIs (by decide) ?_)
  refine wpAny_bind (wpAny_callSpecial?_slot (name := Str.ofString "__getitem__") ht.typeIs PyProof.Rows.slot_tuple_getitem
    (wpAny_call_entry PyProof.Rows.slot_tuple_getitem ht.typeIs entry_tuple_getitem ?_ (args_tuple_getitem _ _)))
  show wpAny _ _ (Builtin.Tuple.tupleItemsOf (.ref t) >>= _) _ _ s
  refine wpAny_bind (tupleItemsOf_ ht ?_)
  refine wpAny_bind (wpAny_typeOf hTs ?_)
  rw [if_pos (by decide)]
  refine wpAny_bind (sliceApplied_rev hs ps ?_)
  have hno : ¬ ((((items.size : Int) - 1) == 0 && (-1 : Int) == 1 && items.size == items.size) = true) := by simp
  show wpAny _ _ (if (((items.size : Int) - 1) == 0 && (-1 : Int) == 1 && items.size == items.size) = true then _ else _) _ _ s
  rw [if_neg hno, pick_rev]
  first
    | exact wpAny_bind (m := Builtin.Tuple.tupleExact _) (wpAny_newObj_type (wpAny_pure ⟨_, rfl, wpAny_pure h⟩) htake)
    | exact wpAny_bind (m := Builtin.Tuple.tupleExact _) (wpAny_newObj_type (wpAny_bind (wpAny_pure (wpAny_pure ⟨_, rfl, wpAny_pure h⟩))) htake)
    | exact wpAny_bind (wpAny_bind (m := Builtin.Tuple.tupleExact _) (wpAny_newObj_type (wpAny_pure (wpAny_pure ⟨_, rfl, wpAny_pure h⟩)) htake))
    | exact wpAny_bind (wpAny_bind (m := Builtin.Tuple.tupleExact _) (wpAny_newObj_type (wpAny_pure ⟨_, rfl, wpAny_pure h⟩) htake))
end
end HT
namespace L2
open PySem PySem.Spec PyProof.Rows
section
variable {X : Cx}
/-- x[::-1], x a list or a tuple -/
def rRevA (K : PySem.W.Frag) : V → Hp → VK → Prop := fun x H1 Q => ∃ a xs, x = .ref a ∧ ((SqL K H1 a xs ∧ ∀ p, H1 p = none → Q (.ref p) (upd H1 p (.lst xs.reverse))) ∨ (SqT K H1 a xs ∧ ∀ p, H1 p = none → Q (.ref p) (upd H1 p (.tup xs.reverse))))
theorem pe_revA {e : Expr} {te : TE} {k : Nat} {p1 p2 p3 pos : Pos} (he : PE X e te) : PE X (.Subscript e (.Slice none none (some (.UnaryOp .USub (.Constant (.int 1) k p1) p2)) p3) pos) (tUn (rRevA X.K) te) := by
  refine ⟨fun pins s σ H Q I h => ?_⟩
  refine Subscript_ (thn (he.run pins s σ H _ I h) fun v s1 ⟨x, H1, I1, r1, q1⟩ => ?_)
  obtain ⟨a, xs, ex, hq⟩ := q1
  subst ex
  cases r1
  have hst : PO X (some (.UnaryOp .USub (.Constant (.int 1) k p1) p2)) (tPart (tUn (rU fun i => .int (-i)) (tC (.int 1)))) := po_some (pe_un un_neg pe_int)
  refine wpAny_Slice (thn (po_none.run pins s1 σ H1 (fun o H2 => o = none ∧ H2 = H1) I1 ⟨rfl, rfl⟩) fun vl s2 ⟨l, H2, I2, pl, el, e2⟩ => ?_)
  subst el e2
  refine thn (po_none.run pins s2 σ H2 (fun o H3 => o = none ∧ H3 = H2) I2 ⟨rfl, rfl⟩) fun vu s3 ⟨u, H3, I3, pu, eu, e3⟩ => ?_
  subst eu e3
  refine thn (hst.run pins s3 σ H3 (fun o H4 => o = some (-1) ∧ H4 = H3) I3 ⟨1, rfl, -1, rfl, rfl, rfl⟩) fun vs s4 ⟨o, H4, I4, ps, eo, e4⟩ => ?_
  subst eo e4
  have I5 : Inv X pins σ H4 { s4 with heap := s4.heap.push { cls := .type "slice", data := .fields #[vl, vu, vs] } } := I4.kept (t' := s4.toks) fun b ob q => Heap.get?_push_of_some _ q
  show wpAny (model X.prog X.w) X.A (subscriptTail e (.Slice none none (some (.UnaryOp .USub (.Constant (.int 1) k p1) p2)) p3) (.ref a) (.ref s4.heap.objs.size)) (EP X pins σ Q) X.xe { s4 with heap := s4.heap.push { cls := .type "slice", data := .fields #[vl, vu, vs] } }
  rcases hq with ⟨hx, q⟩ | ⟨hx, q⟩
  · obtain ⟨its, r, ht, hz⟩ := I5.list hx
    have hlen := r.length
    refine tail_any (ops := [.ref a, .ref s4.heap.objs.size]) ht.isList.typeIs (PySem.slot_list_getitem.lookup) ?_ (by with_unfolding_all rfl)
    refine wpAny_getItem_list_slice ht.isList (Heap.IsSliceOf.new _ vl vu vs) pl pu ps (by decide) ?_ (by rw [List.size_toArray]; omega)
    rw [PySem.W.krv_pick]
    refine ⟨.ref _, _, I5.laid (t' := s4.toks) (o := .lst xs.reverse) (fun b ob q => Heap.get?_push_of_some _ q) (Nat.le_refl _) ?_, rfl, q _ (I5.hok.fresh (Nat.le_refl _))⟩
    exact ⟨by rw [List.length_reverse]; exact hz, _, 0, r.reverse, Heap.get?_push_size _ rfl⟩
  · obtain ⟨its, r, ht, hz⟩ := I5.tuple hx
    have hlen := r.length
    have el : vl = .none := by cases pl; rfl
    have eu : vu = .none := by cases pu; rfl
    subst el eu
    refine tail_any (ops := [.ref a, .ref s4.heap.objs.size]) ht.typeIs (PyProof.Rows.slot_tuple_getitem.lookup) ?_ (by with_unfolding_all rfl)
    refine HT.getItem_tuple_rev ht (Heap.IsSliceOf.new _ _ _ vs) ps ?_ (by rw [List.size_toArray]; omega)
    refine ⟨.ref _, _, I5.laid (t' := s4.toks) (o := .tup xs.reverse) (fun b ob q => Heap.get?_push_of_some _ q) (Nat.le_refl _) ?_, rfl, q _ (I5.hok.fresh (Nat.le_refl _))⟩
    exact ⟨by rw [List.length_reverse]; exact hz, _, r.reverse, ⟨_, Heap.get?_push_size _ rfl, rfl, 0, by simp⟩⟩
end
end L2
namespace PySem
open Sem (wp)
open AutoSeq1 (wpAny_loadPart')
theorem list_add_any (l : Addr) (items : Array Value) (n : Nat) (b : Addr) (items2 : Array Value) (n2 : Nat) (dd dd2 : Option Addr) (sl sl2 : Array (Option Value)) (hc0 : items.size + items2.size ≤ sizeLine) :
    Meets (Builtin.«list.__add__» ⟨[.ref l, .ref b], []⟩) (fun _ R s => s.heap.get? l = some { cls := .type "list", dict := dd, data := .seq items n, slots := sl } ∧ s.heap.get? b = some { cls := .type "list", dict := dd2, data := .seq items2 n2, slots := sl2 } ∧ R (.ok (.ret (Value.ref s.heap.objs.size))) { s with heap := s.heap.push { cls := Value.type "list", data := Data.seq (items ++ items2) }, toks := s.toks }) :=
  .of_wp fun prog w A R s h => by obtain ⟨hp, g, d, tk, os⟩ := s; obtain ⟨hl, hb, h⟩ := h; have f1 := AutoSeq1.idx_int; have f2 := AutoSeq1.sub_tuple_tuple; have f3 := AutoSeq1.sub_list_list; have f4 := AutoSeq1.sub_tuple_list; have f5 := AutoSeq1.sub_list_tuple; wp_walk using wpAny_loadPart' hl, wpAny_loadPart' hb; exact ⟨_, rfl, h⟩
end PySem
namespace L2
open PySem PySem.Spec PyProof.Rows
section
variable {X : Cx}
/-- xs + ys, lists of any kind -/
def rCatL (K : PySem.W.Frag) : R2 := fun x y H Q => ∃ l b xs zs, x = .ref l ∧ y = .ref b ∧ SqL K H l xs ∧ SqL K H b zs ∧ xs.length + zs.length ≤ sizeLine ∧ ∀ p, H p = none → Q (.ref p) (upd H p (.lst (xs ++ zs)))
theorem op_catL : OpR X (binaryOp .Add) (rCatL X.K) := by
  intro pins s σ H x y v u Q I rx ry h
  obtain ⟨l, b, xs, zs, rfl, rfl, hH, hB, hz, q⟩ := h
  cases rx
  cases ry
  obtain ⟨its, r, hb, _⟩ := I.list hH
  obtain ⟨⟨c2, d2, dt2, sl2⟩, n2, e2, hc, hd, hn⟩ := hb
  simp only at hc hn
  subst hc hn
  obtain ⟨its3, r3, hb3, _⟩ := I.list hB
  obtain ⟨⟨c3, d3, dt3, sl3⟩, n3, e3, hc3, hd3, hn3⟩ := hb3
  simp only at hc3 hn3
  subst hc3 hn3
  have h1 := r.length
  have h2 := r3.length
  refine concat_meets ⟨_, e2, rfl⟩ ⟨_, e3, rfl⟩ noFill_list_add seq_list_add PySem.F.slot_list_add PySem.F.entry_list_add (PySem.F.args_list_add_2 _ _)
    (list_add_any l its.toArray n2 b its3.toArray n3 d2 d3 sl2 sl3 (by rw [List.size_toArray, List.size_toArray]; omega)) ⟨e2, e3, ?_⟩
  have ea : its.toArray ++ its3.toArray = (its ++ its3).toArray := by simp
  rw [ea]
  exact ⟨.ref _, _, I.lnew (t' := s.toks) (r.append r3) (by rw [List.length_append]; omega), rfl, q _ I.fresh⟩
end
end L2
namespace Mi
open PySem PySem.Spec PyProof.Rows L2
/-! ### sums of any kind -/
def rAddA (K : KK) : R2 := fun x y H Q => (rI0 fun i j => V.int (i + j)) x y H Q ∨ (∃ i j, x = .str i ∧ y = .str j ∧ i.length + j.length ≤ sizeLine ∧ Q (.str (i ++ j)) H) ∨ rCatL K x y H Q ∨ rCatA K x y H Q
theorem op_addA {X : Cx} : OpR X (binaryOp .Add) (rAddA X.K) := OpR.or op_add (OpR.or op_add_str (OpR.or op_catL op_catA))
theorem op_addAM {K : KK} : Op2 K (rAddA K) fAdd := fun H L x y dx dy w Q gd rl hx hy hf hQ => by
  cases dx with
  | int i =>
    cases dy <;> simp only [fAdd] at hf <;> try cases hf
    have ex := hx.int rl
    have ey := hy.int rl
    subst ex ey
    exact .inl ⟨_, _, rfl, rfl, hQ _ H fun _ => rl.data (by simp [Dat])⟩
  | str a =>
    cases dy with
    | str b =>
      simp only [fAdd] at hf
      split at hf
      · rename_i hc
        cases hf
        have ex := hx.str rl
        have ey := hy.str rl
        subst ex ey
        exact .inr (.inl ⟨_, _, rfl, rfl, by rw [sizeLine_eq]; exact hc, hQ _ H fun _ => rl.data (by simp [Dat])⟩)
      · cases hf
    | _ => cases hf
  | list xs =>
    cases dy with
    | list ys =>
      simp only [fAdd] at hf
      split at hf
      · rename_i hc
        cases hf
        obtain ⟨a, us, rfl, hs, hd⟩ := hx.list rl
        obtain ⟨b, vs, rfl, hs2, hd2⟩ := hy.list rl
        exact .inr (.inr (.inl ⟨a, b, us, vs, rfl, rfl, hs, hs2, by rw [← hd.length, ← hd2.length, sizeLine_eq]; exact hc, fun p hp => hQ _ _ fun g => rl.newOwn hp (newK g) (hd.append hd2)⟩))
      · cases hf
    | _ => cases hf
  | tuple xs =>
    cases dy with
    | tuple ys =>
      simp only [fAdd] at hf
      split at hf
      · rename_i hc
        cases hf
        obtain ⟨a, us, rfl, hs, ha, hd⟩ := hx.tuple rl
        obtain ⟨b, vs, rfl, hs2, hb, hd2⟩ := hy.tuple rl
        refine .inr (.inr (.inr ⟨a, b, us, vs, rfl, rfl, hs, hs2, by rw [← hd.length, ← hd2.length, sizeLine_eq]; exact hc, fun e => ?_, fun e1 e2 => ?_, fun _ _ p hp => hQ _ _ fun g => rl.newTup hp (newK g) (hd.append hd2)⟩))
        · subst e
          have : xs = [] := List.eq_nil_of_length_eq_zero hd.length
          subst this
          exact hQ _ H fun _ => rl.data (by simp only [List.nil_append, Dat]; exact ⟨b, vs, rfl, hs2, hb, hd2⟩)
        · subst e2
          have : ys = [] := List.eq_nil_of_length_eq_zero hd2.length
          subst this
          exact hQ _ H fun _ => rl.data (by simp only [List.append_nil, Dat]; exact ⟨a, us, rfl, hs, ha, hd⟩)
      · cases hf
    | _ => cases hf
  | none => cases dy <;> cases hf
  | bool b => cases dy <;> cases hf
  | dict b => cases dy <;> cases hf

/-! ### slices -/
def evP : Option ME → Env → Res (Option Int)
  | none, e => .ok none e
  | some m, e => bnd (m e) fun w e1 => match vw w with
    | .int i => .ok (some i) e1
    | _ => .no
def cutD (xs : List D) (lo hi : Option Int) : List D := (xs.drop (HT.sIx xs.length 0 lo)).take (HT.sIx xs.length xs.length hi - HT.sIx xs.length 0 lo)
def fSl (lo hi : Option Int) : D → Option W
  | .list xs => some (.l (cutD xs lo hi))
  | .tuple xs => some (.d (.tuple (cutD xs lo hi)))
  | .str z => if z.length ≤ 16777216 then some (.d (.str (cutS z lo hi))) else none
  | _ => none
def eSl (o : Opd) (lo hi : Option ME) : ME := fun e => bnd (o.run e) fun r e1 => bnd (evP lo e1) fun l e2 => bnd (evP hi e2) fun u e3 => match gv e3 r with
  | some d => ofO (fSl l u d) e3
  | none => .no
def rSlX (K : KK) : V → Option Int → Option Int → Hp → VK → Prop := fun x lo hi H Q => rSlL K x lo hi H Q ∨ rSlA K x lo hi H Q ∨ rSlS x lo hi H Q
theorem sl_any {X : Cx} : SlR X (rSlX X.K) := SlR.or sl_list (SlR.or sl_tupA sl_str)
theorem cut_dats {K : KK} {H : Hp} {O : List Addr} {ds : List D} {vs : List V} (h : Dats K H O ds vs) (lo hi : Option Int) : Dats K H O (cutD ds lo hi) (cutV vs lo hi) := by
  unfold cutD cutV
  rw [h.length]
  exact (h.drop _).take _
theorem op_slM {K : KK} {lo hi : Option Int} : Op1 K (fun x H Q => rSlX K x lo hi H Q) (fSl lo hi) := fun H L x dx w Q gd rl hx hf hQ => by
  cases dx with
  | list xs =>
    cases hf
    obtain ⟨a, us, rfl, hs, hd⟩ := hx.list rl
    exact .inl ⟨a, us, rfl, hs, fun p hp => hQ _ _ fun g => rl.newOwn hp (newK g) (cut_dats hd lo hi)⟩
  | tuple xs =>
    cases hf
    obtain ⟨a, us, rfl, hs, ha, hd⟩ := hx.tuple rl
    refine .inr (.inl ⟨a, us, rfl, hs, fun e => hQ _ H fun _ => rl.data ?_, fun _ p hp => hQ _ _ fun g => rl.newTup hp (newK g) (cut_dats hd lo hi)⟩)
    have : cutD xs lo hi = xs := by
      unfold cutD
      rw [hd.length, e.1, e.2, List.drop_zero, ← hd.length]
      simp
    rw [this]
    simp only [Dat]
    exact ⟨a, us, rfl, hs, ha, hd⟩
  | str z =>
    simp only [fSl] at hf
    split at hf
    · rename_i hz
      cases hf
      have ex := hx.str rl
      subst ex
      exact .inr (.inr ⟨z, rfl, by rw [sizeLine_eq]; exact hz, hQ _ H fun _ => rl.data (by simp [Dat])⟩)
    · cases hf
  | _ => cases hf
/-- a slice's part by its mirror -/
def tPM (K : KK) (P : List Nat) (m : Option ME) : TO := fun σ H Q => ∃ p0 T env l env', SR K P p0 T σ env H ∧ Good K H ∧ evP m env = .ok l env' ∧ ∀ H', SR K P p0 T σ env' H' → Good K H' → Q l H'
theorem po_noneM {X : Cx} {P : List Nat} : PO X none (tPM X.K P none) := ⟨fun pins s σ H Q I h => by
  obtain ⟨p0, T, env, l, env', sr, g, hm, hQ⟩ := h
  cases hm
  exact po_none.run pins s σ H Q I (hQ H sr g)⟩
theorem po_someM {X : Cx} {P : List Nat} {e : Expr} {m : ME} (h : PE X e (tE X.K P m)) : PO X (some e) (tPM X.K P (some m)) := ⟨fun pins s σ H Q I hq => by
  obtain ⟨p0, T, env, l, env', sr, g, hm, hQ⟩ := hq
  obtain ⟨w, e1, h1, hm⟩ := bnd_eq_ok hm
  split at hm
  · rename_i i hw
    cases hm
    have := vw_int hw
    subst this
    refine (po_some h).run pins s σ H Q I ⟨p0, T, env, _, _, sr, g, h1, fun v H' s1 g1 => ?_⟩
    exact ⟨i, s1.int, hQ H' s1.drop g1⟩
  · cases hm⟩
theorem pe_slM {X : Cx} {P : List Nat} {e : Expr} {o : Opd} {lo hi : Option Expr} {ml mh : Option ME} {p2 pos : Pos} (he : PE X e (tD X.K P o)) (hl : PO X lo (tPM X.K P ml)) (hh : PO X hi (tPM X.K P mh)) : PE X (.Subscript e (.Slice lo hi none p2) pos) (tE X.K P (eSl o ml mh)) :=
  mkE (pe_slice sl_any he hl hh) fun p0 T σ env H w env' Q sr g hm hQ => by
    obtain ⟨ra, e1, h1, hm⟩ := bnd_eq_ok hm
    obtain ⟨l, e2, h2, hm⟩ := bnd_eq_ok hm
    obtain ⟨u, e3, h3, hm⟩ := bnd_eq_ok hm
    refine ⟨p0, T, env, ra, e1, sr, g, h1, fun x H1 ox sr1 g1 => ⟨p0, _, e1, l, e2, sr1, g1, h2, fun H2 sr2 g2 => ⟨p0, _, e2, u, e3, sr2, g2, h3, fun H3 sr3 g3 => ?_⟩⟩⟩
    cases hg : gv e3 ra with
    | none => rw [hg] at hm; cases hm
    | some d =>
      rw [hg] at hm
      obtain ⟨h4, rfl⟩ := ofO_eq_ok hm
      exact op_slM H3 _ x d w _ g3 sr3.rels (view_of sr3 ox (fun w e => by subst e; exact List.mem_cons_self) hg) h4 fun v H4 q => hQ v H4 fun g4 => dropHeld (sr3.push (q g4))
def fRev : D → Option W
  | .list xs => some (.l xs.reverse)
  | .tuple xs => some (.d (.tuple xs.reverse))
  | _ => none
theorem op_revM {K : KK} : Op1 K (rRevA K) fRev := fun H L x dx w Q gd rl hx hf hQ => by
  cases dx with
  | list xs =>
    cases hf
    obtain ⟨a, us, rfl, hs, hd⟩ := hx.list rl
    exact ⟨a, us, rfl, .inl ⟨hs, fun p hp => hQ _ _ fun g => rl.newOwn hp (newK g) hd.reverse⟩⟩
  | tuple xs =>
    cases hf
    obtain ⟨a, us, rfl, hs, ha, hd⟩ := hx.tuple rl
    exact ⟨a, us, rfl, .inr ⟨hs, fun p hp => hQ _ _ fun g => rl.newTup hp (newK g) hd.reverse⟩⟩
  | _ => cases hf

/-! ### extend, pop -/
def mExt : List D → List D → Option (W × List D)
  | xs, [.list ys] => if xs.length + ys.length ≤ 16777216 then some (.d .none, xs ++ ys) else none
  | xs, [.tuple ys] => if xs.length + ys.length ≤ 16777216 then some (.d .none, xs ++ ys) else none
  | _, _ => none
theorem om_ext {K : KK} : OpM K (rExtA K) mExt := fun H L a xs ds ys vs w Q gd rl hd hf hQ => by
  have fin : ∀ (b : Addr) (zs : List D) (us : List V), vs = [.ref b] → (SqL K H b us ∨ SqT K H b us) → Dats K H (owned H ((.ref a, .l xs) :: L)) zs us → xs.length + zs.length ≤ 16777216 → (w, ys) = (.d .none, xs ++ zs) → rExtA K (.ref a) vs H Q := by
    intro b zs us e1 h1 h2 hz e
    cases e
    obtain ⟨a', us0, e, h3, h4⟩ := rl.lst
    cases e
    refine ⟨a, b, us0, us, rfl, e1, h3, h1, by rw [← h4.length, ← h2.length, sizeLine_eq]; exact hz, hQ _ _ fun _ => ?_⟩
    exact (rl.write (h4.append h2)).data (by simp [Dat])
  unfold mExt at hf
  split at hf
  · split at hf
    · rename_i zs hz
      obtain ⟨v, r, rfl, h1, rfl⟩ := hd
      simp only [Dat] at h1
      obtain ⟨b, us, rfl, hs, _, h2⟩ := h1
      exact fin b zs us rfl (.inl hs) h2 hz (Option.some.inj hf).symm
    · cases hf
  · split at hf
    · rename_i zs hz
      obtain ⟨v, r, rfl, h1, rfl⟩ := hd
      simp only [Dat] at h1
      obtain ⟨b, us, rfl, hs, _, h2⟩ := h1
      exact fin b zs us rfl (.inr hs) h2 hz (Option.some.inj hf).symm
    · cases hf
  · cases hf
theorem pe_mu0 {X : Cx} {P : List Nat} {e : Expr} {f : List D → List D → Option (W × List D)} {i : Nat} {te : TE} {Ty : String} {r : V → List V → Hp → VK → Prop} (hte : te = tVar i) (hTy : Ty = "list") (ho : OpM X.K r f)
    (h : PE X e (tBM0 X.K Ty r te)) : PE X e (tE X.K P (eMu f i [])) := mkE h fun p0 T σ env H w env' Q sr g hm hQ => by
  subst hte hTy
  unfold eMu at hm
  split at hm
  · rename_i hL
    obtain ⟨xs, hd⟩ := isL_some hL
    change (match env.getD i none with
      | some (.l xs) => (match f xs [] with
        | some (w, ys) => Res.ok w (env.set i (some (.l ys)))
        | none => .no)
      | _ => .no) = _ at hm
    rw [hd] at hm
    change (match f xs [] with | some (w, ys) => Res.ok w (env.set i (some (.l ys))) | none => Res.no) = _ at hm
    cases hf : f xs [] with
    | none => rw [hf] at hm; cases hm
    | some p =>
    obtain ⟨w', ys⟩ := p
    rw [hf] at hm
    cases hm
    obtain ⟨v, hv⟩ := sr.cov i _ hd
    obtain ⟨a, us, rfl, ha, _⟩ := (show ∃ a us, v = .ref a ∧ H a = some (.lst us) ∧ Dats X.K H (owned H (pr σ env ++ T)) xs us from by simpa only [RW] using sr.val hv hd)
    obtain ⟨R, q1, q2⟩ := sr.front hv hd
    refine ⟨.ref a, hv, Or.inl ⟨rfl, _, SqL.of ha⟩, ho H R a xs [] ys [] w _ g (sr.rels.perm q1) rfl hf fun u H2 q => hQ u H2 fun g2 => ?_⟩
    have q' := q g2
    have s2 : SR X.K P p0 T σ (env.set i (some (.l ys))) H2 := by
      refine ⟨q'.tail.perm (q2 _).symm, by rw [List.length_set]; exact sr.len, sr.len0, fun j x hj => ?_, fun j hj => ⟨(sr.par j hj).1, ?_⟩⟩
      · rw [set_getD] at hj
        split at hj
        · rename_i z
          rw [← z.1]
          exact ⟨_, hv⟩
        · exact sr.cov j x hj
      · rw [set_getD]
        split
        · exact ⟨_, rfl, rfl⟩
        · exact (sr.par j hj).2
    exact s2.push (q'.perm (List.Perm.cons _ (q2 _).symm))
  · cases hm
def mPop (xs ds : List D) : Option (W × List D) := match ds with
  | [] => (match xs.getLast? with
    | some y => some (.d y, xs.dropLast)
    | none => none)
  | _ => none
def mPopAt (xs ds : List D) : Option (W × List D) := match ds with
  | [.int i] => if -9223372036854775808 ≤ i ∧ i < 9223372036854775808 then (match ixN xs.length i with
    | some k => (match xs[k]? with
      | some y => some (.d y, xs.eraseIdx k)
      | none => none)
    | none => none) else none
  | _ => none
theorem Dats.dropLast {K : KK} {H : Hp} {O : List Addr} {ds : List D} {vs : List V} (h : Dats K H O ds vs) : Dats K H O ds.dropLast vs.dropLast := by
  rw [List.dropLast_eq_take, List.dropLast_eq_take, h.length]
  exact h.take _
theorem Dats.eraseIdx {K : KK} {H : Hp} {O : List Addr} {ds : List D} {vs : List V} (h : Dats K H O ds vs) (k : Nat) : Dats K H O (ds.eraseIdx k) (vs.eraseIdx k) := by
  rw [List.eraseIdx_eq_take_drop_succ, List.eraseIdx_eq_take_drop_succ]
  exact (h.take _).append (h.drop _)
theorem back {K : KK} {H : Hp} {L : List (V × W)} {a : Addr} {xs ys : List D} {us : List V} {d : D} {v : V} (rl : Rels K H ((.ref a, .l xs) :: L)) (q : Dats K H (owned H ((.ref a, .l xs) :: L)) ys us) (h6 : Dat K H (owned H ((.ref a, .l xs) :: L)) d v) : Rels K (upd H a (.lst us)) ((v, .d d) :: (.ref a, .l ys) :: L) := by
  refine (rl.write q).data (h6.to (fun b o n z => ?_) fun b z => ?_)
  · have : b ≠ a := by rintro rfl; exact n (by rw [owned_l]; exact List.mem_cons_self)
    rw [upd_ne this]; exact z
  · rw [owned_l] at z ⊢
    have nd := rl.nd
    rw [owned_l] at nd
    have na := (List.nodup_cons.mp nd).1
    rwa [owned_congr (H := H) (H' := upd H a (.lst us)) fun c hc => upd_ne (by rintro rfl; exact na hc)] at z
theorem om_pop {K : KK} : OpM K rPop mPop := fun H L a xs ds ys vs w Q gd rl hd hf hQ => by
  unfold mPop at hf
  split at hf
  · simp only [Dats] at hd
    subst hd
    split at hf
    · rename_i y hy
      cases hf
      obtain ⟨b, us, e, h3, h4⟩ := rl.lst
      cases e
      have hy' : xs[us.length - 1]? = some y := by rw [← h4.length, ← List.getLast?_eq_getElem?]; exact hy
      obtain ⟨v, h5, h6⟩ := h4.get hy'
      exact ⟨a, us, v, rfl, rfl, h3, h5, hQ _ _ fun _ => back rl h4.dropLast h6⟩
    · cases hf
  · cases hf
theorem om_popAt {K : KK} : OpM K rPopAt mPopAt := fun H L a xs ds ys vs w Q gd rl hd hf hQ => by
  unfold mPopAt at hf
  split at hf
  · rename_i i
    split at hf
    · rename_i hi
      split at hf
      · rename_i k hk
        split at hf
        · rename_i y hy
          cases hf
          obtain ⟨v0, r, rfl, hv, rfl⟩ := hd
          have hv' : v0 = .int i := by simpa only [Dat] using hv
          subst hv'
          obtain ⟨b, us, e, h3, h4⟩ := rl.lst
          cases e
          obtain ⟨v, h5, h6⟩ := h4.get hy
          exact ⟨a, us, i, k, v, rfl, rfl, h3, by omega, by omega, by rw [← h4.length]; exact (ixN_seq hk).1, h5, hQ _ _ fun _ => back rl (h4.eraseIdx k) h6⟩
        · cases hf
      · cases hf
    · cases hf
  · cases hf
end Mi
set_option Elab.async false
set_option linter.all false
set_option maxRecDepth 100000
set_option maxHeartbeats 4000000
/-! Mi16: a name's value taken out of its slot -/
namespace Mi
open PySem PySem.Spec PyProof.Rows L2
variable {X : Cx} {P : List Nat} {e : Expr}
theorem SR.take {K : KK} {p0 : L2.St} {T : List (V × W)} {σ : L2.St} {env : Env} {H : Hp} {i : Nat} {v : V} {w : W} (h : SR K P p0 T σ env H) (hv : σ[i]? = some (some v)) (hw : env.getD i none = some w) (hP : i ∉ P) : SR K P p0 ((v, w) :: T) σ (env.set i none) H := by
  obtain ⟨h1, _⟩ := pr_clear hv hw h.len
  refine ⟨h.rels.perm ?_, by simp [h.len], h.len0, fun j x e => ?_, fun j hj => ?_⟩
  · refine (h1.append_right T).trans ?_
    rw [List.cons_append]
    exact List.perm_middle.symm
  · rw [set_getD] at e
    split at e
    · cases e
    · exact h.cov j x e
  · have ne : i ≠ j := fun q => hP (q ▸ hj)
    rw [set_getD, if_neg (fun q => ne q.1)]
    exact h.par j hj
def eMv (i : Nat) : ME := fun e => match e.getD i none with
  | some w => .ok w (e.set i none)
  | none => .no
theorem pe_move {i : Nat} (hP : P.contains i = false) (h : PE X e (tVar i)) : PE X e (tE X.K P (eMv i)) := mkE h fun p0 T σ env H w env' Q sr g hm hQ => by
  have hP' : i ∉ P := fun z => by rw [List.contains_iff_mem.mpr z] at hP; cases hP
  unfold eMv at hm
  split at hm
  · rename_i w hd
    cases hm
    obtain ⟨v, hv⟩ := sr.cov i _ hd
    exact ⟨v, hv, hQ _ _ fun _ => sr.take hv hd hP'⟩
  · cases hm
end Mi
set_option Elab.async false
set_option linter.all false
set_option maxRecDepth 100000
set_option maxHeartbeats 4000000
/-! Mi17: reversed(list, tuple or range), tuple(range), list(range) -/
namespace Mi
open PySem PySem.Spec PyProof.Rows L2
section
variable {X : Cx} {P : List Nat} {tg iter : Expr}
theorem rev_get {xs : List D} {i : Nat} {d : D} (h : xs.reverse[i]? = some d) : xs[xs.length - 1 - i]? = some d ∧ i < xs.length := by
  have hi : i < xs.length := by
    have := (List.getElem?_eq_some_iff.mp h).1
    simpa using this
  rw [List.getElem?_reverse hi] at h
  exact ⟨h, hi⟩
theorem itOk_rev {K : KK} {a : Addr} {xs : List D} : ItOk K (Itv K a xs.length) xs.reverse [(.ref a, .d (.list xs))] where
  go := fun i H L hi h s => by
    obtain ⟨b, vs, e, h1, _, h2⟩ := (show ∃ b vs, V.ref a = .ref b ∧ SqL K H b vs ∧ b ∉ owned H L ∧ Dats K H (owned H L) xs vs from by simpa only [RW, Dat] using h.at_ _ (s _ List.mem_cons_self))
    cases e
    rw [List.length_reverse] at hi
    obtain ⟨x, hx⟩ := h2.lt (i := xs.length - 1 - i) (by omega)
    exact ⟨hi, vs, x, h1, hx⟩
  stop := fun H L h s => by rw [List.length_reverse]; exact Nat.le_refl _
  yld := fun i H L x H' d h s e y g => by
    obtain ⟨b, vs, e2, h1, _, h2⟩ := (show ∃ b vs, V.ref a = .ref b ∧ SqL K H b vs ∧ b ∉ owned H L ∧ Dats K H (owned H L) xs vs from by simpa only [RW, Dat] using h.at_ _ (s _ List.mem_cons_self))
    cases e2
    obtain ⟨rfl, hy⟩ := y
    exact ⟨g, h.data (h2.at (rev_get e).1 (hy vs h1))⟩
theorem itOk_revT {K : KK} {a : Addr} {xs : List D} : ItOk K (RT.ItvT K a xs.length) xs.reverse [(.ref a, .d (.tuple xs))] where
  go := fun i H L hi h s => by
    obtain ⟨b, vs, e, h1, _, h2⟩ := (show ∃ b vs, V.ref a = .ref b ∧ SqT K H b vs ∧ b ∉ owned H L ∧ Dats K H (owned H L) xs vs from by simpa only [RW, Dat] using h.at_ _ (s _ List.mem_cons_self))
    cases e
    rw [List.length_reverse] at hi
    obtain ⟨x, hx⟩ := h2.lt (i := xs.length - 1 - i) (by omega)
    exact ⟨hi, vs, x, h1, hx⟩
  stop := fun H L h s => by rw [List.length_reverse]; exact Nat.le_refl _
  yld := fun i H L x H' d h s e y g => by
    obtain ⟨b, vs, e2, h1, _, h2⟩ := (show ∃ b vs, V.ref a = .ref b ∧ SqT K H b vs ∧ b ∉ owned H L ∧ Dats K H (owned H L) xs vs from by simpa only [RW, Dat] using h.at_ _ (s _ List.mem_cons_self))
    cases e2
    obtain ⟨rfl, hy⟩ := y
    exact ⟨g, h.data (h2.at (rev_get e).1 (hy vs h1))⟩
/-- a list or a tuple from its end -/
def iRvA (m : ME) : MI := fun e => bnd (m e) fun w e1 => match vw w with
  | .list xs => .ok xs.reverse e1
  | .tuple xs => .ok xs.reverse e1
  | _ => .no
theorem pi_rvM {m : ME} (h : PI X tg iter (RT.iRevA X.K (tE X.K P m))) : PI X tg iter (tI X.K P (iRvA m)) := mkI h fun p0 T σ env H xs env' R sr g hm hR => by
  obtain ⟨w, e1, h1, hm⟩ := bnd_eq_ok hm
  split at hm
  · rename_i ys hw
    cases hm
    refine ⟨p0, T, env, w, _, sr, g, h1, fun v H1 sr1 g1 => ?_⟩
    have sr1 := sr1.fz
    rw [hw] at sr1
    have q := sr1.top.at_ _ List.mem_cons_self
    simp only [RW, Dat] at q
    obtain ⟨a, vs, rfl, hs, _, hd⟩ := q
    refine ⟨a, vs, rfl, .inl ⟨hs, ?_⟩⟩
    rw [← hd.length]
    exact hR _ [(.ref a, .d (.list ys))] H1 itOk_rev fun _ => sr1
  · rename_i ys hw
    cases hm
    refine ⟨p0, T, env, w, _, sr, g, h1, fun v H1 sr1 g1 => ?_⟩
    have sr1 := sr1.fz
    rw [hw] at sr1
    have q := sr1.top.at_ _ List.mem_cons_self
    simp only [RW, Dat] at q
    obtain ⟨a, vs, rfl, hs, _, hd⟩ := q
    refine ⟨a, vs, rfl, .inr ⟨hs, ?_⟩⟩
    rw [← hd.length]
    exact hR _ [(.ref a, .d (.tuple ys))] H1 itOk_revT fun _ => sr1
  · cases hm
/-! ### ranges as values -/
/-- a range expression gives its bounds -/
abbrev MR := Env → Res (Int × Int)
def gR1 (a : ME) : MR := fun e => bnd (a e) fun w e1 => match vw w with
  | .int j => .ok (0, j) e1
  | _ => .no
def gR2 (a b : ME) : MR := fun e => bnd (a e) fun w e1 => bnd (b e1) fun w2 e2 => match vw w with
  | .int i => (match vw w2 with
    | .int j => .ok (i, j) e2
    | _ => .no)
  | _ => .no
def tR (K : KK) (P : List Nat) (m : MR) : L2.St → Hp → (Int → Int → Hp → Prop) → Prop := fun σ H Q => ∃ p0 T env a b env', SR K P p0 T σ env H ∧ Good K H ∧ m env = .ok (a, b) env' ∧ ∀ H', SR K P p0 T σ env' H' → Good K H' → Q a b H'
theorem mkR {e : Expr} {t : L2.St → Hp → (Int → Int → Hp → Prop) → Prop} {m : MR} (h : PRg X e t)
    (k : ∀ (p0 : L2.St) (T : List (V × W)) (σ : L2.St) (env : Env) (H : Hp) (a b : Int) (env' : Env) (Q : Int → Int → Hp → Prop), SR X.K P p0 T σ env H → Good X.K H → m env = .ok (a, b) env' →
      (∀ H', (Good X.K H' → SR X.K P p0 T σ env' H') → Q a b H') → t σ H Q) : PRg X e (tR X.K P m) := by
  intro pins s σ H Q I hq
  obtain ⟨p0, T, env, a, b, env', sr, g, hm, hQ⟩ := hq
  refine thn (h pins s σ H (fun a b H' => Good X.K H' → Q a b H') I (k p0 T σ env H a b env' _ sr g hm fun H' q g' => hQ H' (q g') g')) ?_
  rintro u s' ⟨r, a', b', t', u', v', H', e1, e2, I', q⟩
  exact ⟨r, a', b', t', u', v', H', e1, e2, I', q (inv_good I')⟩
theorem pr_1M {e : Expr} {m : ME} (h : PRg X e (tRg1 (tE X.K P m))) : PRg X e (tR X.K P (gR1 m)) := mkR h fun p0 T σ env H a b env' Q sr g hm hQ => by
  obtain ⟨w, e1, h1, hm⟩ := bnd_eq_ok hm
  split at hm
  · rename_i j hw
    cases hm
    refine ⟨p0, T, env, w, _, sr, g, h1, fun v H1 sr1 g1 => ?_⟩
    obtain rfl := vw_int hw
    have hv : v = .int b := by simpa only [RW, Dat] using sr1.top.at_ _ List.mem_cons_self
    exact ⟨_, hv, hQ H1 fun _ => sr1.drop⟩
  · cases hm
theorem pr_2M {e : Expr} {m m2 : ME} (h : PRg X e (tRg2 (tE X.K P m) (tE X.K P m2))) : PRg X e (tR X.K P (gR2 m m2)) := mkR h fun p0 T σ env H a b env' Q sr g hm hQ => by
  obtain ⟨w, e1, h1, hm⟩ := bnd_eq_ok hm
  obtain ⟨w2, e2, h2, hm⟩ := bnd_eq_ok hm
  split at hm
  · rename_i i hw
    split at hm
    · rename_i j hw2
      cases hm
      refine ⟨p0, T, env, w, _, sr, g, h1, fun v H1 sr1 g1 => ?_⟩
      obtain rfl := vw_int hw
      have hv : v = .int a := by simpa only [RW, Dat] using sr1.top.at_ _ List.mem_cons_self
      refine ⟨p0, _, _, w2, _, sr1, g1, h2, fun v2 H2 sr2 g2 => ?_⟩
      obtain rfl := vw_int hw2
      have hv2 : v2 = .int b := by simpa only [RW, Dat] using sr2.top.at_ _ List.mem_cons_self
      exact ⟨_, _, hv, hv2, hQ H2 fun _ => sr2.drop.drop⟩
    · cases hm
  · cases hm
theorem dats_rg {K : KK} {H : Hp} {O : List Addr} (a b : Int) : Dats K H O (rng a (b - a).toNat) (rgV a b) := by
  unfold rng rgV
  induction List.range (b - a).toNat with
  | nil => simp [Dats]
  | cons x xs ih =>
    simp only [List.map_cons, Dats]
    exact ⟨_, _, rfl, by simp [Dat], ih⟩
def rgOk (a b : Int) : Bool := decide (-4611686018427387904 ≤ a ∧ a < 4611686018427387904 ∧ -4611686018427387904 ≤ b ∧ b < 4611686018427387904 ∧ (b - a).toNat ≤ 16777216)
theorem rgOk_iff {a b : Int} (h : rgOk a b = true) : RgOk a b := by
  have := of_decide_eq_true h
  exact ⟨this.1, this.2.1, this.2.2.1, this.2.2.2.1, this.2.2.2.2⟩
def eTupR (m : MR) : ME := fun e => bnd (m e) fun p e1 => if rgOk p.1 p.2 = true then .ok (.d (.tuple (rng p.1 (p.2 - p.1).toNat))) e1 else .no
def eLstR (m : MR) : ME := fun e => bnd (m e) fun p e1 => if rgOk p.1 p.2 = true then .ok (.l (rng p.1 (p.2 - p.1).toNat)) e1 else .no
theorem newKK {K : KK} {H : Hp} {p : Addr} {x : HO} (g2 : Good K (upd H p x)) : K.lookup p = none := by
  cases q : K.lookup p with
  | none => rfl
  | some o => have := g2 p o q; rw [upd_same] at this; cases this
theorem pe_tupRM {e : Expr} {m : MR} (h : PE X e (tTupRg (tR X.K P m))) : PE X e (tE X.K P (eTupR m)) := mkE h fun p0 T σ env H w env' Q sr g hm hQ => by
  obtain ⟨⟨a, b⟩, e1, h1, hm⟩ := bnd_eq_ok hm
  split at hm
  · rename_i hr
    cases hm
    exact ⟨p0, T, env, a, b, _, sr, g, h1, fun H1 sr1 g1 => ⟨rgOk_iff hr, fun p hp => hQ _ _ fun g2 => sr1.push (sr1.rels.newTup hp (newKK g2) (dats_rg a b))⟩⟩
  · cases hm
theorem pe_lstRM {e : Expr} {m : MR} (h : PE X e (tLstRg (tR X.K P m))) : PE X e (tE X.K P (eLstR m)) := mkE h fun p0 T σ env H w env' Q sr g hm hQ => by
  obtain ⟨⟨a, b⟩, e1, h1, hm⟩ := bnd_eq_ok hm
  split at hm
  · rename_i hr
    cases hm
    exact ⟨p0, T, env, a, b, _, sr, g, h1, fun H1 sr1 g1 => ⟨rgOk_iff hr, fun p hp => hQ _ _ fun g2 => sr1.push (sr1.rels.newOwn hp (newKK g2) (dats_rg a b))⟩⟩
  · cases hm
/-- a range from its end -/
def iRvR (m : MR) : MI := fun e => bnd (m e) fun p e1 => if -4611686018427387904 ≤ p.1 ∧ p.1 < 4611686018427387904 ∧ -4611686018427387904 ≤ p.2 ∧ p.2 < 4611686018427387904 then .ok (rng p.1 (p.2 - p.1).toNat).reverse e1 else .no
theorem itOk_revR {K : KK} {lo : Int} {n : Nat} : ItOk K (Itc (lo + (n : Int) - 1) (-1) n) (rng lo n).reverse [] where
  go := fun i H L hi h s => by simpa [rng, Itc] using hi
  stop := fun H L h s => by simp [rng, Itc]
  yld := fun i H L x H' d h s e y g => by
    obtain ⟨rfl, rfl⟩ := y
    obtain ⟨e1, hi⟩ := rev_get e
    have hl : (rng lo n).length = n := by simp [rng]
    rw [hl] at e1 hi
    clear hl
    have : d = .int (lo + (n : Int) - 1 + (i : Int) * -1) := by
      have hj : n - 1 - i < n := by omega
      simp only [rng, List.getElem?_map] at e1
      rw [List.getElem?_range hj] at e1
      rw [Option.map_some, Option.some.injEq] at e1
      rw [← e1]
      congr 1
      omega
    subst this
    exact ⟨g, h.data (by simp [Dat])⟩
theorem pi_rvRM {m : MR} (h : PI X tg iter (iRevR (tR X.K P m))) : PI X tg iter (tI X.K P (iRvR m)) := mkI h fun p0 T σ env H xs env' R sr g hm hR => by
  obtain ⟨⟨a, b⟩, e1, h1, hm⟩ := bnd_eq_ok hm
  split at hm
  · rename_i hr
    obtain ⟨rfl, rfl⟩ : (rng a (b - a).toNat).reverse = xs ∧ e1 = env' := by cases hm; exact ⟨rfl, rfl⟩
    exact ⟨p0, T, env, a, b, e1, sr, g, h1, fun H1 sr1 g1 => ⟨hr.1, hr.2.1, hr.2.2.1, hr.2.2.2, hR _ [] H1 itOk_revR fun _ => sr1⟩⟩
  · cases hm
end
end Mi
set_option Elab.async false
set_option linter.all false
set_option maxRecDepth 100000
set_option maxHeartbeats 4000000
/-! Mi18: any, all of a list of bools; max, min of a list of ints; sorted of ints -/
namespace Mi
open PySem PySem.Spec PyProof.Rows L2
section
variable {K : KK}
def bools? : List D → Option (List Bool)
  | [] => some []
  | .bool b :: ds => (bools? ds).map (b :: ·)
  | _ => none
theorem bools?_map (bs : List Bool) : bools? (bs.map PyData.bool) = some bs := by
  induction bs with
  | nil => rfl
  | cons n ns ih => simp [bools?, ih]
theorem bools?_eq : ∀ {ds : List D} {bs : List Bool}, bools? ds = some bs → ds = bs.map PyData.bool
  | [], bs, h => by cases h; rfl
  | .bool b :: ds, bs, h => by
    obtain ⟨r, h1, rfl⟩ := Option.map_eq_some_iff.mp (show (bools? ds).map (b :: ·) = some bs from h)
    rw [bools?_eq h1]; rfl
  | .none :: _, _, h => by cases h
  | .int _ :: _, _, h => by cases h
  | .str _ :: _, _, h => by cases h
  | .list _ :: _, _, h => by cases h
  | .tuple _ :: _, _, h => by cases h
  | .dict _ :: _, _, h => by cases h
theorem Dats.bools {H : Hp} {O : List Addr} : ∀ {bs : List Bool} {vs : List V}, Dats K H O (bs.map PyData.bool) vs → vs = bs.map V.bl
  | [], _, h => by simpa [Dats] using h
  | b :: bs, _, h => by
    simp only [List.map_cons, Dats] at h
    obtain ⟨v, r, rfl, h1, h2⟩ := h
    have e : v = .bl b := by simpa only [Dat] using h1
    rw [e, Dats.bools h2]; rfl
def bAny : List D → Option W
  | [.list xs] => (bools? xs).map fun bs => W.d (.bool (bs.any id))
  | _ => none
theorem oc_any : OpC K (rAny K) bAny := fun H L vs ds w Q gd rl hv hf hQ => by
  unfold bAny at hf
  split at hf
  · rename_i xs
    obtain ⟨bs, h1, rfl⟩ := Option.map_eq_some_iff.mp hf
    have e := bools?_eq h1
    subst e
    obtain ⟨v, rfl, h1⟩ := hv.one
    obtain ⟨a, us, rfl, hs, hd⟩ := h1.list rl
    have e2 := hd.bools
    subst e2
    exact ⟨a, bs, rfl, hs, hQ _ H fun _ => rl.data (by simp [Dat])⟩
  · cases hf
def bAll : List D → Option W
  | [.list xs] => (bools? xs).map fun bs => W.d (.bool (bs.all id))
  | _ => none
theorem oc_all : OpC K (rAll K) bAll := fun H L vs ds w Q gd rl hv hf hQ => by
  unfold bAll at hf
  split at hf
  · rename_i xs
    obtain ⟨bs, h1, rfl⟩ := Option.map_eq_some_iff.mp hf
    have e := bools?_eq h1
    subst e
    obtain ⟨v, rfl, h1⟩ := hv.one
    obtain ⟨a, us, rfl, hs, hd⟩ := h1.list rl
    have e2 := hd.bools
    subst e2
    exact ⟨a, bs, rfl, hs, hQ _ H fun _ => rl.data (by simp [Dat])⟩
  · cases hf
/-- the greatest one, 0 of none -/
def maxI : List Int → Int
  | [] => 0
  | [x] => x
  | x :: xs => max x (maxI xs)
def minI : List Int → Int
  | [] => 0
  | [x] => x
  | x :: xs => min x (minI xs)
theorem maxI_le : ∀ {ns : List Int} {y : Int}, y ∈ ns → y ≤ maxI ns
  | [x], y, h => by rw [List.mem_singleton.mp h]; exact Int.le_refl _
  | x :: z :: xs, y, h => by
    show y ≤ max x (maxI (z :: xs))
    rcases List.mem_cons.mp h with rfl | h
    · omega
    · have := maxI_le h
      omega
theorem maxI_mem : ∀ {ns : List Int}, ns ≠ [] → maxI ns ∈ ns
  | [x], _ => List.mem_singleton.mpr rfl
  | x :: z :: xs, _ => by
    have := maxI_mem (ns := z :: xs) (by simp)
    show max x (maxI (z :: xs)) ∈ _
    rcases Int.le_total x (maxI (z :: xs)) with h | h
    · rw [Int.max_eq_right h]; exact List.mem_cons_of_mem _ this
    · rw [Int.max_eq_left h]; exact List.mem_cons_self
theorem minI_le : ∀ {ns : List Int} {y : Int}, y ∈ ns → minI ns ≤ y
  | [x], y, h => by rw [List.mem_singleton.mp h]; exact Int.le_refl _
  | x :: z :: xs, y, h => by
    show min x (minI (z :: xs)) ≤ y
    rcases List.mem_cons.mp h with rfl | h
    · omega
    · have := minI_le h
      omega
theorem minI_mem : ∀ {ns : List Int}, ns ≠ [] → minI ns ∈ ns
  | [x], _ => List.mem_singleton.mpr rfl
  | x :: z :: xs, _ => by
    have := minI_mem (ns := z :: xs) (by simp)
    show min x (minI (z :: xs)) ∈ _
    rcases Int.le_total x (minI (z :: xs)) with h | h
    · rw [Int.min_eq_left h]; exact List.mem_cons_self
    · rw [Int.min_eq_right h]; exact List.mem_cons_of_mem _ this
def bMaxL : List D → Option W
  | [.list xs] => (ints? xs).bind fun ns => if ns = [] then none else some (W.d (.int (maxI ns)))
  | _ => none
theorem oc_maxL : OpC K (rMax K) bMaxL := fun H L vs ds w Q gd rl hv hf hQ => by
  unfold bMaxL at hf
  split at hf
  · rename_i xs
    obtain ⟨ns, h1, hf⟩ := Option.bind_eq_some_iff.mp hf
    split at hf
    · cases hf
    · rename_i hne
      cases hf
      have e := ints?_eq h1
      subst e
      obtain ⟨v, rfl, h1⟩ := hv.one
      obtain ⟨a, us, rfl, hs, hd⟩ := h1.list rl
      have e2 := hd.ints
      subst e2
      refine ⟨a, ns, rfl, hs, List.length_pos_iff.mpr hne, fun m hm hle => ?_⟩
      have e : m = maxI ns := Int.le_antisymm (maxI_le hm) (hle _ (maxI_mem hne))
      rw [e]
      exact hQ _ H fun _ => rl.data (by simp [Dat])
  · cases hf
def bMinL : List D → Option W
  | [.list xs] => (ints? xs).bind fun ns => if ns = [] then none else some (W.d (.int (minI ns)))
  | _ => none
theorem oc_minL : OpC K (rMin K) bMinL := fun H L vs ds w Q gd rl hv hf hQ => by
  unfold bMinL at hf
  split at hf
  · rename_i xs
    obtain ⟨ns, h1, hf⟩ := Option.bind_eq_some_iff.mp hf
    split at hf
    · cases hf
    · rename_i hne
      cases hf
      have e := ints?_eq h1
      subst e
      obtain ⟨v, rfl, h1⟩ := hv.one
      obtain ⟨a, us, rfl, hs, hd⟩ := h1.list rl
      have e2 := hd.ints
      subst e2
      refine ⟨a, ns, rfl, hs, List.length_pos_iff.mpr hne, fun m hm hle => ?_⟩
      have e : m = minI ns := Int.le_antisymm (hle _ (minI_mem hne)) (minI_le hm)
      rw [e]
      exact hQ _ H fun _ => rl.data (by simp [Dat])
  · cases hf
theorem bAny_b (bs : List Bool) : bAny [.list (bs.map PyData.bool)] = some (.d (.bool (bs.any id))) := by
  show (bools? (bs.map PyData.bool)).map _ = _
  rw [bools?_map]; rfl
theorem bAll_b (bs : List Bool) : bAll [.list (bs.map PyData.bool)] = some (.d (.bool (bs.all id))) := by
  show (bools? (bs.map PyData.bool)).map _ = _
  rw [bools?_map]; rfl
theorem bMaxL_i {ns : List Int} (h : ns ≠ []) : bMaxL [.list (ns.map PyData.int)] = some (.d (.int (maxI ns))) := by
  show (ints? (ns.map PyData.int)).bind _ = _
  rw [ints?_map]
  exact if_neg h
theorem bMinL_i {ns : List Int} (h : ns ≠ []) : bMinL [.list (ns.map PyData.int)] = some (.d (.int (minI ns))) := by
  show (ints? (ns.map PyData.int)).bind _ = _
  rw [ints?_map]
  exact if_neg h
/-- truth, as known of data -/
theorem truV_of {H : Hp} {L : List (V × W)} {x : V} {d : D} {b : Bool} (rl : Rels K H L) (hv : Vw L x d) (h3 : truD d = some b) : TruV K x H b := by
  cases d with
  | none => cases h3; rw [hv.none rl]; rfl
  | bool c => cases h3; rw [hv.bool rl]; rfl
  | int i => cases h3; rw [hv.int rl]; rfl
  | str z =>
    simp only [truD] at h3
    split at h3
    · rename_i hz
      cases h3
      rw [hv.str rl]
      exact ⟨by rw [sizeLine_eq]; exact hz, rfl⟩
    · cases h3
  | list xs =>
    cases h3
    obtain ⟨a, us, rfl, hs, hd⟩ := hv.list rl
    exact .inl ⟨us, hs, by rw [dats_empty hd]⟩
  | tuple xs =>
    cases h3
    obtain ⟨a, us, rfl, hs, _, hd⟩ := hv.tuple rl
    exact .inr (.inl ⟨us, hs, by rw [dats_empty hd]⟩)
  | dict _ => cases h3
/-- not x, as a value -/
def fNotT (d : D) : Option W := (truD d).map fun k => W.d (.bool (!k))
theorem op_notT : Op1 K (fun x H Q => ∃ k, TruV K x H k ∧ Q (.bl (!k)) H) fNotT := fun H L x dx w Q gd rl hv hf hQ => by
  obtain ⟨k, h1, rfl⟩ := Option.map_eq_some_iff.mp hf
  exact ⟨k, truV_of rl hv h1, hQ _ H fun _ => rl.data (by simp [Dat])⟩
theorem fNotT_s {d : D} {k : Bool} (h : truD d = some k) : fNotT d = some (.d (.bool (!k))) := by unfold fNotT; rw [h]; rfl
theorem fNotT_l (xs : List D) : fNotT (.list xs) = some (.d (.bool xs.isEmpty)) := by rw [fNotT_s rfl, Bool.not_not]
theorem fNotT_b (b : Bool) : fNotT (.bool b) = some (.d (.bool (!b))) := fNotT_s rfl
end
end Mi
set_option Elab.async false
set_option linter.all false
set_option maxRecDepth 100000
set_option maxHeartbeats 4000000
/-! Mi19: list(zip(a, b)) of two tuples of one length -/
namespace Mi
open PySem PySem.Spec PyProof.Rows L2 RZ

abbrev zipO (TI TO : Addr) (f0 : Value) (f : Bool) : Obj := { cls := .type "zip", dict := none, data := .fields #[f0, .bool f, .bool false, .ref TI, .ref TO], slots := #[] }
section
variable {prog : Program} {w : World} {A : Around} {E : Value → Shared → Prop} {s : Shared}
theorem zl_free {z a TI TO : Addr} {f : Bool} {oa : Obj} {Q : Bool → Shared → Prop} (hz : s.heap.get? z = some (zipO TI TO (rawInt a) f)) (ha : s.heap.get? a = some oa)
    (hQ : ∀ h', h'.get? z = some (zipO TI TO (rawInt a) true) → Heap.SameBut z s.heap h' → Q false { s with heap := h' }) :
    wpAny (model prog w) A (Builtin.SmallTypes.ownedTupleIsFree (.ref z)) Q E s := by
  unfold Builtin.SmallTypes.ownedTupleIsFree
  refine wpAny_bind (wpAny_field hz rfl (x := rawInt a) rfl ?_)
  show wpAny _ _ (loadIfAlive ((a : Int).toNat) >>= _) _ _ _
  rw [Int.toNat_natCast]
  refine wpAny_bind (PySem.W.kdx_alive ha ?_)
  simp only [Option.isNone_some, Bool.false_eq_true, if_false]
  refine wpAny_bind (wpAny_field hz rfl (x := .bool f) rfl ?_)
  cases f with
  | true =>
    rw [if_neg (show ¬ ((Value.bool true != Value.bool true) = true) from Bool.false_ne_true)]
    exact wpAny_pure (hQ _ hz (Heap.SameBut.refl _ _))
  | false =>
    rw [if_pos (show (Value.bool false != Value.bool true) = true from rfl)]
    refine wpAny_bind (wpAny_setField_rec hz (by simp) fun h₃ he₃ hs₃ => ?_)
    exact wpAny_pure (hQ h₃ he₃ hs₃)
/-- the tuple handed out is still there: a new one is made -/
theorem zl_item_out {z TI TO i1 i2 l1 l2 a : Addr} {k1 k2 : Nat} {xs ys : Array Value} {x y : Value} {f : Bool} {oa : Obj} {Q : Value → Shared → Prop} (D : ZipApart z TI TO i1 i2 l1 l2)
    (hz : s.heap.get? z = some (zipO TI TO (rawInt a) f)) (ha : s.heap.get? a = some oa) (hTI : IsPair s.heap TI (.ref i1) (.ref i2))
    (h1 : s.heap.IsTupleIter i1 l1 k1) (h2 : s.heap.IsTupleIter i2 l2 k2) (hl1 : s.heap.IsTuple l1 xs) (hl2 : s.heap.IsTuple l2 ys) (hx : xs[k1]? = some x) (hy : ys[k2]? = some y)
    (hQ : ∀ h', h'.get? z = some (zipO TI TO (rawInt a) true) → h'.IsTupleIter i1 l1 (k1 + 1) → h'.IsTupleIter i2 l2 (k2 + 1) → IsPair h' s.heap.objs.size x y → h'.objs.size = s.heap.objs.size + 1 →
      (∀ c o, c ≠ z → c ≠ i1 → c ≠ i2 → s.heap.get? c = some o → h'.get? c = some o) → Q (.ref s.heap.objs.size) { s with heap := h' }) :
    wpAny (model prog w) A (Builtin.«zip.__next__» ⟨[.ref z], []⟩) (fun fin s' => ∃ v, fin = .done (.ret v) ∧ Q v s') E s := by
  show wpAny _ _ (field (.ref z) 2 >>= _) _ _ _
  refine wpAny_bind (wpAny_field hz rfl (x := .bool false) rfl ?_)
  show wpAny _ _ (field (.ref z) 3 >>= _) _ _ _
  refine wpAny_bind (wpAny_field hz rfl (x := .ref TI) rfl ?_)
  refine wpAny_bind (wpAny_seqItems hTI rfl ?_)
  show wpAny _ _ (Builtin.SmallTypes.ownedTupleIsFree (.ref z) >>= _) _ _ _
  refine wpAny_bind (zl_free hz ha fun h₁ hz₁ hs₁ => ?_)
  simp only [Bool.false_eq_true, if_false]
  refine wpAny_bind ?_
  simp only [← Array.forIn_toList, List.forIn_cons, List.forIn_nil]
  refine wpAny_bind (wpAny_bind (wpAny_holding ?_))
  show wpAny _ _ (Builtin.SmallTypes.nextOf (.ref i1) >>= _) _ _ _
  refine wpAny_bind (nextOf_tuple_item (h1.extBut hs₁.extBut D.i1z) (hl1.extBut hs₁.extBut D.l1z) hx fun h₂ h1₂ hs₂ => wpAny_pure ?_)
  refine wpAny_pure ?_
  refine wpAny_bind (wpAny_bind (wpAny_holding ?_))
  show wpAny _ _ (Builtin.SmallTypes.nextOf (.ref i2) >>= _) _ _ _
  refine wpAny_bind (nextOf_tuple_item ((h2.extBut hs₁.extBut D.i2z).extBut hs₂.extBut D.i12.symm) ((hl2.extBut hs₁.extBut D.l2z).extBut hs₂.extBut D.l2i1) hy fun h₄ h2₄ hs₄ => wpAny_pure ?_)
  refine wpAny_pure (wpAny_pure ?_)
  refine wpAny_bind (wpAny_newTuple (hsz := by show (2 : Nat) ≤ sizeLine; decide) ?_)
  have hsz : h₄.objs.size = s.heap.objs.size := by rw [hs₄.1, hs₂.1, hs₁.1]
  have up : ∀ c o, h₄.get? c = some o → (h₄.push { cls := .type "tuple", data := .seq #[x, y] }).get? c = some o := fun c o e => Heap.get?_push_of_some _ e
  refine wpAny_pure ⟨_, rfl, ?_⟩
  show Q (.ref h₄.objs.size) _
  rw [hsz]
  refine hQ (h₄.push { cls := .type "tuple", data := .seq #[x, y] }) (up _ _ (hs₄.extBut _ _ D.i2z.symm (hs₂.extBut _ _ D.i1z.symm hz₁))) ((h1₂.extBut hs₄.extBut D.i12).at fun o e => up _ o e) (h2₄.at fun o e => up _ o e) ?_ ?_ fun c o c1 c2 c3 e => up _ _ (hs₄.extBut _ _ c3 (hs₂.extBut _ _ c2 (hs₁.extBut _ _ c1 e)))
  · rw [← hsz]; exact Heap.get?_push_size _ rfl
  · rw [Heap.size_push, hsz]
theorem zl_end_out {z TI TO i1 i2 l1 l2 a : Addr} {k1 : Nat} {xs : Array Value} {f : Bool} {oa : Obj} {Q : Fin → Shared → Prop} (hh : A.handled = none) (D : ZipApart z TI TO i1 i2 l1 l2)
    (hz : s.heap.get? z = some (zipO TI TO (rawInt a) f)) (ha : s.heap.get? a = some oa) (hTI : IsPair s.heap TI (.ref i1) (.ref i2))
    (h1 : s.heap.IsTupleIter i1 l1 k1) (hl1 : s.heap.IsTuple l1 xs) (hx : xs[k1]? = none)
    (hE : ∀ h' e, (∀ c o, c ≠ z → c ≠ i1 → s.heap.get? c = some o → h'.get? c = some o) → (∃ o, h'.get? e = some o ∧ o.cls = .type "StopIteration") → E (.ref e) { s with heap := h' }) :
    wpAny (model prog w) A (Builtin.«zip.__next__» ⟨[.ref z], []⟩) Q E s := by
  show wpAny _ _ (field (.ref z) 2 >>= _) _ _ _
  refine wpAny_bind (wpAny_field hz rfl (x := .bool false) rfl ?_)
  show wpAny _ _ (field (.ref z) 3 >>= _) _ _ _
  refine wpAny_bind (wpAny_field hz rfl (x := .ref TI) rfl ?_)
  refine wpAny_bind (wpAny_seqItems hTI rfl ?_)
  show wpAny _ _ (Builtin.SmallTypes.ownedTupleIsFree (.ref z) >>= _) _ _ _
  refine wpAny_bind (zl_free hz ha fun h₁ hz₁ hs₁ => ?_)
  simp only [Bool.false_eq_true, if_false]
  refine wpAny_bind ?_
  simp only [← Array.forIn_toList, List.forIn_cons, List.forIn_nil]
  refine wpAny_bind (wpAny_bind (wpAny_holding ?_))
  show wpAny _ _ (Builtin.SmallTypes.nextOf (.ref i1) >>= _) _ _ _
  refine wpAny_bind (nextOf_tuple_end hh (h1.extBut hs₁.extBut D.i1z) (hl1.extBut hs₁.extBut D.l1z) hx fun h₂ e hs₂ he => ?_)
  exact hE h₂ e (fun c o c1 c3 x => hs₂ _ _ c3 (hs₁.extBut _ _ c1 x)) he
/-- the zip object at turn i; S: the list that is made -/
structure ZSt (h : Heap) (z TI TO i1 i2 l1 l2 S : Addr) (i : Nat) : Prop where
  hTI : IsPair h TI (.ref i1) (.ref i2)
  hTO : ∃ a b, IsPair h TO a b
  h1 : h.IsTupleIter i1 l1 i
  h2 : h.IsTupleIter i2 l2 i
  hz : IsZip h z TI TO .none ∨ ∃ a f oa, h.get? z = some (zipO TI TO (rawInt (a : Nat)) f) ∧ h.get? a = some oa ∧ S < a
theorem zl_item {z TI TO i1 i2 l1 l2 S : Addr} {i : Nat} {xs ys : Array Value} {x y : Value} {Q : Option Value → Shared → Prop} (D : ZipApart z TI TO i1 i2 l1 l2) (lo : z < S ∧ TO < S ∧ i1 < S ∧ i2 < S) (hS : S < s.heap.objs.size)
    (st : ZSt s.heap z TI TO i1 i2 l1 l2 S i) (hl1 : s.heap.IsTuple l1 xs) (hl2 : s.heap.IsTuple l2 ys) (hx : xs[i]? = some x) (hy : ys[i]? = some y)
    (hQ : ∀ h', ZSt h' z TI TO i1 i2 l1 l2 S (i + 1) → IsPair h' s.heap.objs.size x y → h'.objs.size = s.heap.objs.size + 1 →
      (∀ c o, c ≠ z → c ≠ TO → c ≠ i1 → c ≠ i2 → s.heap.get? c = some o → h'.get? c = some o) → Q (some (.ref s.heap.objs.size)) { s with heap := h' }) :
    wpAny (model prog w) A (pyNext (.ref z)) Q E s := by
  obtain ⟨hTI, ⟨a0, b0, hTO⟩, h1, h2, hz⟩ := st
  rcases hz with hz | ⟨a, f, oa, hz, ha, hSa⟩
  · refine pyNext_zipT_item D hz hTI hTO h1 h2 hl1 hl2 hx hy fun h' z' TO' h1' h2' hT hsz hk => ?_
    exact hQ h' ⟨hk _ _ D.TIz D.TITO D.TIi1 D.TIi2 hTI, ⟨_, _, TO'⟩, h1', h2', .inr ⟨_, false, _, z', hT, hS⟩⟩ hT hsz hk
  · have hT : s.TypeIs (.ref z) "zip" := ⟨_, hz, rfl⟩
    unfold pyNext
    refine wpAny_bind (wpAny_attempt (wpAny_callSpecial?_slot (name := Str.ofString "__next__") hT F.slot_zip_next
      (wpAny_call_entry F.slot_zip_next hT F.entry_zip_next (zl_item_out D hz ha hTI h1 h2 hl1 hl2 hx hy fun h' a1 a3 a4 a5 a6 a7 => wpAny_pure ?_) (F.args_zip_next_1 _))))
    refine hQ h' ⟨a7 _ _ D.TIz D.TIi1 D.TIi2 hTI, ⟨_, _, a7 _ _ D.TOz D.TOi1 D.TOi2 hTO⟩, a3, a4, .inr ⟨a, true, oa, a1, a7 _ _ ?_ ?_ ?_ ha, hSa⟩⟩ a5 a6 fun c o c1 _ c3 c4 e => a7 c o c1 c3 c4 e
    · exact Nat.ne_of_gt (Nat.lt_trans lo.1 hSa)
    · exact Nat.ne_of_gt (Nat.lt_trans lo.2.2.1 hSa)
    · exact Nat.ne_of_gt (Nat.lt_trans lo.2.2.2 hSa)
theorem zl_done {z TI TO i1 i2 l1 l2 S : Addr} {i : Nat} {xs ys : Array Value} {Q : Option Value → Shared → Prop} (hh : A.handled = none) (D : ZipApart z TI TO i1 i2 l1 l2)
    (st : ZSt s.heap z TI TO i1 i2 l1 l2 S i) (hl1 : s.heap.IsTuple l1 xs) (hl2 : s.heap.IsTuple l2 ys) (hx : xs[i]? = none)
    (hQ : ∀ h', (∀ c o, c ≠ z → c ≠ TO → c ≠ i1 → c ≠ i2 → s.heap.get? c = some o → h'.get? c = some o) → Q none { s with heap := h' }) :
    wpAny (model prog w) A (pyNext (.ref z)) Q E s := by
  obtain ⟨hTI, ⟨a0, b0, hTO⟩, h1, h2, hz⟩ := st
  rcases hz with hz | ⟨a, f, oa, hz, ha, hSa⟩
  · exact pyNext_zipT_end hh D hz hTI hTO h1 h2 hl1 hl2 (.inl hx) hQ
  · have hT : s.TypeIs (.ref z) "zip" := ⟨_, hz, rfl⟩
    unfold pyNext
    refine wpAny_bind (wpAny_attempt (wpAny_callSpecial?_slot (name := Str.ofString "__next__") hT F.slot_zip_next
      (wpAny_call_entry F.slot_zip_next hT F.entry_zip_next (zl_end_out (A := A.in1) hh D hz ha hTI h1 hl1 hx fun h' e hk he => ?_) (F.args_zip_next_1 _))))
    obtain ⟨o, ho, hc⟩ := he
    refine wpAny_bind (wpAny_isInstance (T := "StopIteration") (b := true) ⟨o, ho, hc⟩ isSubtype_stop ?_)
    exact wpAny_pure (hQ _ fun c o c1 _ c3 _ e => hk c o c1 c3 e)
/-- the pairs that have been made -/
structure ZlG (xs ys : Array Value) (lo : Addr) (h : Heap) (as : List Addr) : Prop where
  rise : as.Pairwise (· < ·)
  above : ∀ a ∈ as, lo < a
  pairs : ∀ (j : Nat) (a : Addr), as[j]? = some a → ∃ x y, xs[j]? = some x ∧ ys[j]? = some y ∧ IsPair h a x y
theorem ZlG.there {xs ys : Array Value} {lo : Addr} {h : Heap} {as : List Addr} (g : ZlG xs ys lo h as) {a : Addr} (ha : a ∈ as) : a < h.objs.size := by
  obtain ⟨j, hj⟩ := List.mem_iff_getElem?.mp ha
  obtain ⟨_, _, _, _, e⟩ := g.pairs j a hj
  exact Heap.lt_size e
theorem zl_loop {R : Result → Shared → Prop} {z TI TO i1 i2 l1 l2 S : Addr} {xs ys : Array Value} (hh : A.handled = none) (D : ZipApart z TI TO i1 i2 l1 l2) (lo : z < S ∧ TO < S ∧ i1 < S ∧ i2 < S) (hTIS : TI < S) (hl : l1 < S ∧ l2 < S) (hxy : xs.size = ys.size) (hn : xs.size ≤ sizeLine) (res : Value) {h₁ : Heap}
    (hR : ∀ h' tk acc c as, (∀ b o, b ≠ S → b ≠ z → b ≠ TO → b ≠ i1 → b ≠ i2 → h₁.get? b = some o → h'.get? b = some o) → h'.get? S = some { cls := .type "list", dict := none, data := .seq acc c, slots := #[] } → as.length = xs.size → ZlG xs ys S h' as →
      acc.toList = as.map Value.ref → R (.ok (.ret res)) { s with heap := h', toks := tk }) :
    ∀ (k i : Nat) (h : Heap) (tk c : Nat) (acc : Array Value) (as : List Addr), xs.size - i = k → i ≤ xs.size → ZSt h z TI TO i1 i2 l1 l2 S i → h.IsTuple l1 xs → h.IsTuple l2 ys → (∀ b o, b ≠ S → b ≠ z → b ≠ TO → b ≠ i1 → b ≠ i2 → h₁.get? b = some o → h.get? b = some o) →
      h.get? S = some { cls := .type "list", dict := none, data := .seq acc c, slots := #[] } → acc.toList = as.map Value.ref → as.length = i → ZlG xs ys S h as →
      codeAny (model prog w) A (.builtin "list.extend.loop" ⟨[.ref S, .ref z, res], []⟩) R { s with heap := h, toks := tk } := by
  intro k
  induction k with
  | zero =>
    intro i h tk c acc as hk hi hst h1 h2 hkeep hS hacc hal hG
    have hin : i = xs.size := by omega
    refine codeAny_builtin PySem.F.entry_extend_loop ?_
    rw [Around.under_plainId PySem.F.plain_extend_loop _]
    show wpAny _ A.in1 (pyNext (.ref z) >>= _) _ _ _
    refine wpAny_bind (zl_done (s := { s with heap := h, toks := tk }) (A := A.in1) hh D hst h1 h2 (Array.getElem?_eq_none (by omega)) fun h' he => ?_)
    have gt : ∀ {b c : Addr}, c < S → S ≤ b → b ≠ c := fun h1 h2 => Nat.ne_of_gt (Nat.lt_of_lt_of_le h1 h2)
    refine wpAny_pure (hR h' tk acc c as (fun b o q q1 q2 q3 q4 e => he b o q1 q2 q3 q4 (hkeep b o q q1 q2 q3 q4 e)) (he S _ (gt lo.1 (Nat.le_refl _)) (gt lo.2.1 (Nat.le_refl _)) (gt lo.2.2.1 (Nat.le_refl _)) (gt lo.2.2.2 (Nat.le_refl _)) hS) (by omega) ⟨hG.rise, hG.above, fun j a hj => ?_⟩ hacc)
    obtain ⟨x, y, e1, e2, e3⟩ := hG.pairs j a hj
    have hb := Nat.le_of_lt (hG.above a (List.mem_of_getElem? hj))
    exact ⟨x, y, e1, e2, he a _ (gt lo.1 hb) (gt lo.2.1 hb) (gt lo.2.2.1 hb) (gt lo.2.2.2 hb) e3⟩
  | succ k ih =>
    intro i h tk c acc as hk hi hst h1 h2 hkeep hS hacc hal hG
    have hlt : i < xs.size := by omega
    have gt : ∀ {b c : Addr}, c < S → S ≤ b → b ≠ c := fun h1 h2 => Nat.ne_of_gt (Nat.lt_of_lt_of_le h1 h2)
    have hsz : acc.size = i := by rw [← Array.length_toList, hacc, List.length_map, hal]
    refine codeAny_builtin PySem.F.entry_extend_loop ?_
    rw [Around.under_plainId PySem.F.plain_extend_loop _]
    show wpAny _ A.in1 (pyNext (.ref z) >>= _) _ _ _
    refine wpAny_bind (zl_item (s := { s with heap := h, toks := tk }) D lo (Heap.lt_size hS) hst h1 h2 (x := xs[i]) (y := ys[i]'(by omega)) (Array.getElem?_eq_getElem hlt) (Array.getElem?_eq_getElem (by omega)) fun h' hst' ht hz hkp => ?_)
    dsimp only at ht hz hkp ⊢
    have hS' := hkp S _ (gt lo.1 (Nat.le_refl _)) (gt lo.2.1 (Nat.le_refl _)) (gt lo.2.2.1 (Nat.le_refl _)) (gt lo.2.2.2 (Nat.le_refl _)) hS
    have up : ∀ b o, b ≠ S → h'.get? b = some o → (h'.update S (Obj.mapSeq (·.push (Value.ref h.objs.size)))).get? b = some o := fun b o hb e => (Heap.get?_update_other _ _ (Ne.symm hb)).trans e
    have hSl : S < h.objs.size := Heap.lt_size hS
    have kp2 : ∀ b o, b ≠ S → b ≠ z → b ≠ TO → b ≠ i1 → b ≠ i2 → h.get? b = some o → (h'.update S (Obj.mapSeq (·.push (Value.ref h.objs.size)))).get? b = some o := fun b o q q1 q2 q3 q4 e => up b o q (hkp b o q1 q2 q3 q4 e)
    have hst2 : ZSt (h'.update S (Obj.mapSeq (·.push (Value.ref h.objs.size)))) z TI TO i1 i2 l1 l2 S (i + 1) := by
      obtain ⟨q1, ⟨a, b, q2⟩, q3, q4, q5⟩ := hst'
      refine ⟨up _ _ (Nat.ne_of_lt hTIS) q1, ⟨a, b, up _ _ (Nat.ne_of_lt lo.2.1) q2⟩, q3.at fun o e => up _ o (Nat.ne_of_lt lo.2.2.1) e, q4.at fun o e => up _ o (Nat.ne_of_lt lo.2.2.2) e, ?_⟩
      rcases q5 with q5 | ⟨a, f, oa, q5, q6, q7⟩
      · exact .inl (up _ _ (Nat.ne_of_lt lo.1) q5)
      · exact .inr ⟨a, f, oa, up _ _ (Nat.ne_of_lt lo.1) q5, up _ _ (Nat.ne_of_gt q7) q6, q7⟩
    show wpAny _ A.in1 (updateSeq S (·.push (Value.ref h.objs.size)) >>= _) _ _ _
    refine wpAny_bind ?_
    refine wpAny_updateSeq hS' rfl (wpAny_pure ⟨plainId_quiet PySem.F.plain_extend_loop _, ih (i + 1) _ tk _ (acc.push (Value.ref h.objs.size)) (as ++ [h.objs.size]) (by omega) hlt hst2
      (h1.at fun o e => kp2 l1 o (Nat.ne_of_lt hl.1) D.l1z D.l1TO D.l1i1 D.l1i2 e) (h2.at fun o e => kp2 l2 o (Nat.ne_of_lt hl.2) D.l2z D.l2TO D.l2i1 D.l2i2 e)
      (fun b o q q1 q2 q3 q4 e => kp2 b o q q1 q2 q3 q4 (hkeep b o q q1 q2 q3 q4 e)) (Heap.get?_update_self _ hS' rfl) (by rw [Array.toList_push, hacc, List.map_append]; rfl) (by rw [List.length_append, hal]; rfl) ⟨?_, ?_, ?_⟩⟩) (by rw [hsz]; omega) (by show (acc.push (Value.ref h.objs.size)).size ≤ sizeLine + 1; rw [Array.size_push, hsz]; omega)
    · refine List.pairwise_append.mpr ⟨hG.rise, List.pairwise_singleton _ _, fun a ha b hb => ?_⟩
      rw [List.mem_singleton.mp hb]
      exact hG.there ha
    · intro a ha
      rcases List.mem_append.mp ha with ha | ha
      · exact hG.above a ha
      · rw [List.mem_singleton.mp ha]; exact hSl
    · intro j b hj
      rcases Nat.lt_trichotomy j as.length with q | q | q
      · rw [List.getElem?_append_left q] at hj
        obtain ⟨x, y, e1, e2, e3⟩ := hG.pairs j b hj
        have hb := hG.above b (List.mem_of_getElem? hj)
        have hb2 := Nat.le_of_lt hb
        exact ⟨x, y, e1, e2, kp2 b _ (Nat.ne_of_gt hb) (gt lo.1 hb2) (gt lo.2.1 hb2) (gt lo.2.2.1 hb2) (gt lo.2.2.2 hb2) e3⟩
      · subst q
        have hb : h.objs.size = b := by simpa using hj
        subst hb
        subst hal
        exact ⟨_, _, Array.getElem?_eq_getElem hlt, Array.getElem?_eq_getElem (by omega), up _ _ (Nat.ne_of_gt hSl) ht⟩
      · have hnone : (as ++ [h.objs.size])[j]? = none := List.getElem?_eq_none (by rw [List.length_append, List.length_singleton]; omega)
        rw [hnone] at hj; cases hj
theorem zip_no_len : typeLookup (.type "zip") "__len__" = pure none := by rw [typeLookup_type, builtinLookup_eq_fast]; kernel_rfl
theorem zip_no_hint : typeLookup (.type "zip") "__length_hint__" = pure none := by rw [typeLookup_type, builtinLookup_eq_fast]; kernel_rfl
theorem zl_call {Q : Value → Shared → Prop} {z TI TO i1 i2 l1 l2 : Addr} {xs ys : Array Value} (hh : A.handled = none) (D : ZipApart z TI TO i1 i2 l1 l2) (hz : IsZip s.heap z TI TO .none) (hTI : IsPair s.heap TI (.ref i1) (.ref i2)) (hTO : ∃ a b, IsPair s.heap TO a b)
    (h1 : s.heap.IsTupleIter i1 l1 0) (h2 : s.heap.IsTupleIter i2 l2 0) (hl1 : s.heap.IsTuple l1 xs) (hl2 : s.heap.IsTuple l2 ys) (hxy : xs.size = ys.size) (hn : xs.size ≤ sizeLine)
    (hQ : ∀ h' tk acc c as, (∀ b o, b ≠ z → b ≠ TO → b ≠ i1 → b ≠ i2 → s.heap.get? b = some o → h'.get? b = some o) → h'.get? s.heap.objs.size = some { cls := .type "list", dict := none, data := .seq acc c, slots := #[] } → as.length = xs.size → ZlG xs ys s.heap.objs.size h' as →
      acc.toList = as.map Value.ref → Q (.ref s.heap.objs.size) { s with heap := h', toks := tk }) :
    wpAny (model prog w) A (call (.type "list") [.ref z]) Q E s := by
  refine callType_codes (Q₁ := fun obj s₁ => obj = .ref s.heap.objs.size ∧ s₁ = { s with heap := s.heap.push { cls := .type "list", data := .seq #[] } }) F.called_list (F.typeCall_list_1 _) F.entry_list_init
    (code_list_new _ ⟨rfl, rfl⟩) fun obj s₁ h₁ => ?_
  obtain ⟨rfl, rfl⟩ := h₁
  have hzl : z < s.heap.objs.size := Heap.lt_size hz
  have hS : (s.heap.push { cls := .type "list", data := .seq #[] }).get? s.heap.objs.size = some { cls := .type "list", data := .seq #[] } := Heap.get?_push_size _ rfl
  refine ⟨⟨_, hS, rfl⟩, F.args_list_init_2 _ _, ?_⟩
  show wpAny _ A.in1.in1 (do let old ← Builtin.List.listItems (.ref s.heap.objs.size); Builtin.List.listUpdate (.ref s.heap.objs.size) (fun _ => #[]); letGo old.toList.reverse; Builtin.List.listExtendWith (.ref s.heap.objs.size) (.ref z) .none) _ _ _
  refine wpAny_bind ?_
  unfold Builtin.List.listItems
  refine wpAny_bind (wpAny_seqItems hS rfl (wpAny_pure ?_))
  show wpAny _ A.in1.in1 (updateSeq s.heap.objs.size (fun _ => #[]) >>= fun _ => letGo (#[] : Array Value).toList.reverse >>= fun _ => Builtin.List.listExtendWith (.ref s.heap.objs.size) (.ref z) .none) _ _ _
  refine wpAny_bind (wpAny_updateSeq hS rfl ?_)
  have hS2 := Heap.get?_update_self (Obj.mapSeq (fun _ => (#[] : Array Value))) hS rfl
  refine wpAny_bind (wpAny_letGo ?_)
  unfold Builtin.List.listExtendWith
  have up : ∀ (h : Heap) (f : Obj → Obj), (∀ b o, s.heap.get? b = some o → h.get? b = some o) → ∀ b o, s.heap.get? b = some o → (h.update s.heap.objs.size f).get? b = some o := fun h f q b o e =>
    (Heap.get?_update_other _ _ (Ne.symm (Nat.ne_of_lt (Heap.lt_size e)))).trans (q b o e)
  have k1 : ∀ b o, s.heap.get? b = some o → (s.heap.push { cls := .type "list", data := .seq #[] }).get? b = some o := fun b o e => Heap.get?_push_of_some _ e
  have k2 := up _ (Obj.mapSeq (fun _ => (#[] : Array Value))) k1
  have zty : ∀ {h : Heap}, (∀ b o, s.heap.get? b = some o → h.get? b = some o) → Shared.TypeIs { s with heap := h } (.ref z) "zip" := fun {h} q => ⟨_, q _ _ hz, rfl⟩
  refine wpAny_bind (wpAny_typeOf (zty k2) ?_)
  have h3 : Builtin.List.listSameRef (.ref s.heap.objs.size) (.ref z) = false := by simp [Builtin.List.listSameRef, Nat.ne_of_gt hzl]
  have h4 : (Value.type "zip" == Value.type "list") = false := by decide
  have h5 : (Value.type "zip" == Value.type "tuple") = false := by decide
  simp only [h3, h4, h5, Bool.or_false, Bool.false_eq_true, if_false]
  refine wpAny_bind (wpAny_pyIter_zip (s := { s with heap := _ }) (k2 _ _ hz) ?_)
  refine wpAny_bind (wpAny_holding ?_)
  unfold Builtin.List.listLengthHint
  refine wpAny_bind (wpAny_specialOf (zty k2) zip_no_len ?_)
  show wpAny _ A.in1.in1 (specialOf (Value.ref z) (Str.ofString "__length_hint__") >>= _) _ _ _
  refine wpAny_bind (wpAny_specialOf (zty k2) zip_no_hint ?_)
  refine wpAny_pure ?_
  show wpAny _ A.in1.in1 (rule "list.extend.makes-room" >>= fun _ => Builtin.List.listTouch (.ref s.heap.objs.size) >>= fun _ =>
    again (.builtin "list.extend.loop" ⟨[.ref s.heap.objs.size, .ref z, .none], []⟩)) _ _ _
  refine wpAny_bind (wpAny_rule ?_)
  refine wpAny_bind ?_
  show wpAny _ A.in1.in1 (updateSeq s.heap.objs.size (·.push .none) >>= fun _ => updateSeq s.heap.objs.size (·.pop)) _ _ _
  refine wpAny_bind (wpAny_updateSeq hS2 rfl ?_)
  have hS3 := Heap.get?_update_self (Obj.mapSeq (·.push Value.none)) hS2 rfl
  refine wpAny_updateSeq (hz := by seq_fits) hS3 rfl ?_
  have hS4 := Heap.get?_update_self (Obj.mapSeq (·.pop)) hS3 rfl
  have k4 := up _ (Obj.mapSeq (·.pop)) (up _ (Obj.mapSeq (·.push Value.none)) k2)
  have lt1 : i1 < s.heap.objs.size := let ⟨_, e, _⟩ := h1; Heap.lt_size e
  have lt2 : i2 < s.heap.objs.size := let ⟨_, e, _⟩ := h2; Heap.lt_size e
  have lt3 : TO < s.heap.objs.size := let ⟨_, _, e⟩ := hTO; Heap.lt_size e
  have lt4 : l1 < s.heap.objs.size := let ⟨_, e, _⟩ := hl1; Heap.lt_size e
  have lt5 : l2 < s.heap.objs.size := let ⟨_, e, _⟩ := hl2; Heap.lt_size e
  refine wpAny_pure ⟨plainId_quiet F.plain_extend_loop _, ?_⟩
  refine zl_loop (A := A.in1) (xs := xs) (ys := ys) hh D ⟨hzl, lt3, lt1, lt2⟩ (Heap.lt_size hTI) ⟨lt4, lt5⟩ hxy hn .none (h₁ := s.heap) (fun h' tk acc c as hk hS' hl hG hacc => ⟨rfl, ?_⟩)
    xs.size 0 _ _ _ #[] [] (Nat.sub_zero _) (Nat.zero_le _) ⟨k4 _ _ hTI, let ⟨a, b, e⟩ := hTO; ⟨a, b, k4 _ _ e⟩, h1.at fun o e => k4 _ o e, h2.at fun o e => k4 _ o e, .inl (k4 _ _ hz)⟩ (hl1.at fun o e => k4 _ o e) (hl2.at fun o e => k4 _ o e) (fun b o hb _ _ _ _ e => k4 b o e) hS4 rfl rfl
    ⟨List.Pairwise.nil, (fun _ ha => nomatch ha), (fun j a hj => by simp at hj)⟩
  exact hQ h' tk acc c as (fun b o q1 q2 q3 q4 e => hk b o (Nat.ne_of_lt (Heap.lt_size e)) q1 q2 q3 q4 e) hS' hl hG hacc
end
/-! ### as a rule -/
inductive LaidP : Hp → List Addr → List V → List V → Hp → Prop
  | nil (H : Hp) : LaidP H [] [] [] H
  | cons {H H2 : Hp} {a : Addr} {as : List Addr} {x y : V} {xs ys : List V} (ha : H a = none) (r : LaidP (upd H a (.tup [x, y])) as xs ys H2) : LaidP H (a :: as) (x :: xs) (y :: ys) H2
def rZipL (K : PySem.W.Frag) : List V → Hp → VK → Prop := fun vs H Q => ∃ a b xs ys, vs = [.ref a, .ref b] ∧ SqT K H a xs ∧ SqT K H b ys ∧ xs.length = ys.length ∧ xs.length ≤ sizeLine ∧
  ∀ as H2 S, LaidP H as xs ys H2 → H2 S = none → Q (.ref S) (upd H2 S (.lst (as.map V.ref)))
theorem _root_.L2.Un.more {fs ex : List Addr} {H H1 : Hp} {h h' : Heap} {a : Addr} {o : HO} (u : Un fs ex H H1 h h') (hp : h.objs.size ≤ a) (hn : H1 a = none) : Un fs ex H (upd H1 a o) h h' where
  keep := u.keep
  slot := u.slot
  free := fun b ob q n hx => by rw [upd_ne (Nat.ne_of_lt (Nat.lt_of_lt_of_le (Heap.lt_size q) hp))]; exact u.free b ob q n hx
  there := u.there
  tups := fun b xs q => by rw [upd_ne (ne_of_none (u.tups b xs q) hn)]; exact u.tups b xs q
  frzs := fun b u' xs q => by rw [upd_ne (ne_of_none (u.frzs b u' xs q) hn)]; exact u.frzs b u' xs q
  tbls := fun b ps q => by
    obtain ⟨m, e⟩ := u.tbls b ps q
    exact ⟨m, by rw [upd_ne (ne_of_none e hn)]; exact e⟩
/-- pairs that stand in the heap are laid -/
theorem lay_pairs {P : Program} {w : World} {fs ex : List Addr} {h h' : Heap} {lo : Addr} (hlo : h.objs.size ≤ lo) : ∀ (as : List Addr) (H0 H : Hp) (xs ys : List V) (us vs : List Value), as.Pairwise (· < ·) → (∀ a ∈ as, lo < a ∧ H a = none) →
    Un fs ex H0 H h h' → HOk P w H h' → as.length = xs.length → as.length = ys.length → Vals xs us → Vals ys vs → (∀ (j : Nat) (a : Addr), as[j]? = some a → ∃ x y, us[j]? = some x ∧ vs[j]? = some y ∧ IsPair h' a x y) →
    ∃ H2, LaidP H as xs ys H2 ∧ Un fs ex H0 H2 h h' ∧ HOk P w H2 h' ∧ ∀ b, b ∉ as → H2 b = H b
  | [], H0, H, [], [], us, vs, _, _, un, hk, _, _, _, _, _ => ⟨H, .nil H, un, hk, fun _ _ => rfl⟩
  | a :: as, H0, H, x :: xs, y :: ys, us, vs, hp, ha, un, hk, hl1, hl2, r1, r2, hj => by
    cases r1 with
    | cons ru ru' =>
    cases r2 with
    | cons rv rv' =>
    obtain ⟨u, v, e1, e2, e3⟩ := hj 0 a rfl
    cases e1
    cases e2
    obtain ⟨hlt, hn⟩ := ha a List.mem_cons_self
    have new : ObjOk P w (upd H a (.tup [x, y])) h' a (.tup [x, y]) := ⟨by show 2 ≤ sizeLine; decide, _, .cons ru (.cons rv .nil), ⟨_, e3, rfl, _, rfl⟩⟩
    have hk' : HOk P w (upd H a (.tup [x, y])) h' := hk.laidN (fun _ _ e => e) hn new
    obtain ⟨H2, q1, q2, q3, q4⟩ := lay_pairs hlo as H0 (upd H a (.tup [x, y])) xs ys _ _ (List.pairwise_cons.mp hp).2 (fun b hb => ⟨(ha b (List.mem_cons_of_mem _ hb)).1, by
        rw [upd_ne (Nat.ne_of_gt ((List.pairwise_cons.mp hp).1 b hb))]
        exact (ha b (List.mem_cons_of_mem _ hb)).2⟩) (un.more (Nat.le_trans hlo (Nat.le_of_lt hlt)) hn) hk' (by simpa using hl1) (by simpa using hl2) ru' rv' (fun j b hb => hj (j + 1) b hb)
    exact ⟨H2, .cons hn q1, q2, q3, fun b hb => by
      rw [q4 b (fun z => hb (List.mem_cons_of_mem _ z)), upd_ne (fun z => hb (by rw [z]; exact List.mem_cons_self))]⟩
  | [], _, _, _ :: _, _, _, _, _, _, _, _, h, _, _, _, _ => by simp at h
  | [], _, _, [], _ :: _, _, _, _, _, _, _, _, h, _, _, _ => by simp at h
  | _ :: _, _, _, [], _, _, _, _, _, _, _, h, _, _, _, _ => by simp at h
  | _ :: _, _, _, _ :: _, [], _, _, _, _, _, _, _, h, _, _, _ => by simp at h
theorem pe_zipL {X : Cx} {e e2 : Expr} {ta : TA} {p p2 pos pos2 : Pos} (hc : X.calm = true) (hgl : Gl X "list") (hml : X.mg "list" = none) (hg : Gl X "zip") (hm : X.mg "zip" = none) (ha : PA X [e, e2] ta)
    (hs : starEach [e, e2] X.env = (false, eval e X.env) :: starEach [e2] X.env := by rfl) (hpl : (backTo pos2 (starEach [e2] X.env)).any (·.1) = false := by rfl)
    (na : starEach [.Call (.Name "zip" p2) [e, e2] [] pos2] X.env = (false, eval (.Call (.Name "zip" p2) [e, e2] [] pos2) X.env) :: starEach [] X.env := by rfl) :
    PE X (.Call (.Name "list" p) [.Call (.Name "zip" p2) [e, e2] [] pos2] [] pos) (tCB (rZipL X.K) ta) := by
  refine ⟨fun pins s σ H Q I h => ?_⟩
  refine Call_ (ld_blt I hgl hml boot_list (PyProof.Rows.callWith_type1 (args_cons ?_ na) na))
  refine Call_ (ld_blt I hg hm PyProof.Rows.boot_zip (PyProof.Rows.callWith_type1 (thn (ha.run pos2 pins s σ H _ I h) fun us s1 ⟨vs, H1, I1, r1, q1⟩ => ?_) hs hpl))
  obtain ⟨a, b, xs, ys, ex, hqx, hqy, hxy, hn, q1⟩ := q1
  subst ex
  cases r1 with
  | cons r rr =>
    cases rr with
    | cons r' rr =>
      cases rr
      cases r
      cases r'
      obtain ⟨its, rv, p1, _⟩ := I1.tuple hqx
      obtain ⟨its2, rv2, p2, _⟩ := I1.tuple hqy
      obtain ⟨o1, ho1, _⟩ := id p1
      obtain ⟨o2, ho2, _⟩ := id p2
      have l1 := rv.length
      have l2 := rv2.length
      refine call_zipT (show s1.heap.IsTuple a its.toArray from p1) (show s1.heap.IsTuple b its2.toArray from p2) fun h' hz hTI hTO h1 h2 hsz hk => ?_
      refine args_nil ?_
      have hT1 : h'.IsTuple a its.toArray := (show s1.heap.IsTuple a its.toArray from p1).at fun o e => hk a o e
      have hT2 : h'.IsTuple b its2.toArray := (show s1.heap.IsTuple b its2.toArray from p2).at fun o e => hk b o e
      refine zl_call (s := { s1 with heap := h' }) (I1.ok.hd hc) (PySem.W.ktu_apart s1.heap.objs.size a b (Heap.lt_size ho1) (Heap.lt_size ho2)) hz hTI ⟨_, _, hTO⟩ h1 h2 hT1 hT2 (by rw [List.size_toArray, List.size_toArray]; omega) (by rw [List.size_toArray]; omega) fun h2 tk acc c as hk2 hS hl hG hacc => ?_
      dsimp only at hk2 hS hG ⊢
      have hle : s1.heap.objs.size ≤ h'.objs.size := by omega
      have kp : ∀ b o, s1.heap.get? b = some o → h2.get? b = some o := fun b o e => by
        have := Heap.lt_size e
        exact hk2 b o (Nat.ne_of_lt (Nat.lt_of_lt_of_le this (Nat.le_add_right _ _))) (Nat.ne_of_lt (Nat.lt_of_lt_of_le this (Nat.le_add_right _ _))) (Nat.ne_of_lt this) (Nat.ne_of_lt (Nat.lt_of_lt_of_le this (Nat.le_add_right _ _))) (hk b o e)
      have un0 : Un X.fs [] H1 H1 s1.heap h2 := Un.kept kp
      have hok0 : HOk X.prog X.w H1 h2 := I1.hok.kept kp
      obtain ⟨H2, g1, g2, g3, g4⟩ := lay_pairs (lo := h'.objs.size) hle as H1 H1 xs ys its its2 hG.rise (fun x hx => ⟨hG.above x hx, I1.hok.fresh (Nat.le_trans hle (Nat.le_of_lt (hG.above x hx)))⟩) un0 hok0 (by rw [hl, List.size_toArray]; omega) (by rw [hl, List.size_toArray]; omega) rv rv2 (fun j x hx => by
        obtain ⟨u, v, w1, w2, w3⟩ := hG.pairs j x hx
        exact ⟨u, v, by simpa using w1, by simpa using w2, w3⟩)
      have hSn : H2 h'.objs.size = none := by
        rw [g4 _ (fun z => Nat.lt_irrefl _ (hG.above _ z))]
        exact I1.hok.fresh hle
      refine ⟨.ref h'.objs.size, _, I1.un (g2.more (o := .lst (as.map V.ref)) hle hSn) (g3.laidN (fun _ _ e => e) hSn (show ObjOk X.prog X.w _ _ _ (.lst (as.map V.ref)) from ⟨by rw [List.length_map, hl, List.size_toArray]; omega, acc.toList, c, by rw [hacc]; exact vals_refs as, by rw [Array.toArray_toList]; exact hS⟩)), rfl, q1 as H2 _ g1 hSn⟩
/-! ### its mirror -/
def pairD (p : D × D) : D := .tuple [p.1, p.2]
def bZipL : List D → Option W
  | [.tuple ds, .tuple es] => if ds.length = es.length ∧ ds.length ≤ 16777216 then some (.l ((ds.zip es).map pairD)) else none
  | _ => none
theorem laid_rels {K : KK} : ∀ {as : List Addr} {H H2 : Hp} {xs ys : List V} {L : List (V × W)} {ds es : List D}, LaidP H as xs ys H2 → Good K H2 → Rels K H L → Dats K H (owned H L) ds xs → Dats K H (owned H L) es ys →
    (∀ a o, H a = some o → H2 a = some o) ∧ Dats K H2 (owned H2 L) ((ds.zip es).map pairD) (as.map V.ref)
  | _, _, _, _, _, L, ds, es, .nil H, _, r, h1, h2 => by
    cases ds with
    | nil => exact ⟨fun _ _ e => e, by simp [Dats]⟩
    | cons d ds => obtain ⟨_, _, e, _⟩ := h1; cases e
  | a :: as, H, H2, x :: xs, y :: ys, L, ds, es, .cons ha l, g, r, h1, h2 => by
    cases ds with
    | nil => simp [Dats] at h1
    | cons d ds =>
    cases es with
    | nil => simp [Dats] at h2
    | cons e es =>
    obtain ⟨x', r1, q1, d1, d2⟩ := h1
    obtain ⟨y', r2, q2, e1, e2⟩ := h2
    cases q1
    cases q2
    have ext : ∀ b o, H b = some o → upd H a (.tup [x, y]) b = some o := fun b o z => by rw [upd_ne (ne_of_none z ha)]; exact z
    have r1 : Rels K (upd H a (.tup [x, y])) L := r.laid ha
    have oe := r.laid_owned (u := .tup [x, y]) ha
    have lift : ∀ {ds : List D} {vs : List V}, Dats K H (owned H L) ds vs → Dats K (upd H a (.tup [x, y])) (owned (upd H a (.tup [x, y])) L) ds vs := fun {ds vs} q => by
      rw [oe]
      exact Dats.to (fun b o _ z => ext b o z) (fun _ z => z) ds vs q
    obtain ⟨k1, k2⟩ := laid_rels l g r1 (lift d2) (lift e2)
    refine ⟨fun b o z => k1 b o (ext b o z), ?_⟩
    have hk : K.lookup a = none := by
      cases q : K.lookup a with
      | none => rfl
      | some o =>
        have z1 := g a o q
        have z2 := k1 a _ upd_same
        rw [z1] at z2; cases z2
    have nt := (r.newTup ha hk (ds := [d, e]) (vs := [x, y]) ⟨_, _, rfl, d1, ⟨_, _, rfl, e1, rfl⟩⟩).dat
    have oe2 := r1.ext_owned k1
    simp only [List.zip_cons_cons, List.map_cons]
    refine ⟨_, _, rfl, ?_, k2⟩
    rw [oe2]
    exact Dat.to (fun b o _ z => k1 b o z) (fun _ z => z) _ _ nt
theorem oc_zipL {K : KK} : OpC K (rZipL K) bZipL := fun H L vs ds w Q gd rl hv hf hQ => by
  unfold bZipL at hf
  split at hf
  · rename_i ds es
    split at hf
    · rename_i hl
      cases hf
      obtain ⟨v, v2, rfl, h1, h2⟩ := hv.two
      obtain ⟨a, xs, rfl, s1, _, d1⟩ := h1.tuple rl
      obtain ⟨b, ys, rfl, s2, _, d2⟩ := h2.tuple rl
      have e1 := d1.length
      have e2 := d2.length
      refine ⟨a, b, xs, ys, rfl, s1, s2, by omega, by rw [← e1, sizeLine_eq]; exact hl.2, fun as H2 S lp hS => hQ _ _ fun g2 => ?_⟩
      have g3 : Good K H2 := fun c o z => by
        have q := g2 c o z
        by_cases hc : c = S
        · subst hc; exact hS
        · rw [upd_ne hc] at q; exact q
      have hk : K.lookup S = none := by
        cases q : K.lookup S with
        | none => rfl
        | some o => have := g2 S o q; rw [upd_same] at this; cases this
      obtain ⟨k1, k2⟩ := laid_rels lp g3 rl d1 d2
      exact (rl.ext k1).newOwn hS hk k2
    · cases hf
  · cases hf
theorem bZipL_t {ds es : List D} (h : ds.length = es.length ∧ ds.length ≤ 16777216) : bZipL [.tuple ds, .tuple es] = some (.l ((ds.zip es).map pairD)) := if_pos h
theorem zip_maps {α β : Type} (f : α → D) (g : β → D) (xs : List α) (ys : List β) : ((xs.map f).zip (ys.map g)).map pairD = (xs.zip ys).map fun p => PyData.tuple [f p.1, g p.2] := by
  rw [List.zip_map, List.map_map]; rfl
end Mi
set_option Elab.async false
set_option linter.all false
set_option maxRecDepth 100000
set_option maxHeartbeats 4000000
/-! Mi20: x in a list or tuple of flat data -/
namespace Mi
open PySem PySem.Spec PyProof.Rows L2
def flatD : D → Bool
  | .none => true
  | .bool _ => true
  | .int _ => true
  | .str _ => true
  | _ => false
def fv : D → V
  | .bool b => .bl b
  | .int i => .int i
  | .str x => .str x
  | _ => .non
def eqF (a b : D) : Bool := eqV (fv a) (fv b)
theorem eqF_int (a b : Int) : eqF (.int a) (.int b) = (a == b) := rfl
theorem eqF_str (a b : Str) : eqF (.str a) (.str b) = (a == b) := rfl
def cInT (x y : D) : Option Bool := match y with
  | .list ds => if flatD x = true ∧ ds.all flatD = true then some (ds.any fun z => eqF z x) else none
  | .tuple ds => if flatD x = true ∧ ds.all flatD = true then some (ds.any fun z => eqF z x) else none
  | _ => none
def cNotInT (x y : D) : Option Bool := match y with
  | .list ds => if flatD x = true ∧ ds.all flatD = true then some (!ds.any fun z => eqF z x) else none
  | .tuple ds => if flatD x = true ∧ ds.all flatD = true then some (!ds.any fun z => eqF z x) else none
  | _ => none
section
variable {K : KK} {H : Hp} {O : List Addr}
theorem flat_v : ∀ {d : D} {v : V}, Dat K H O d v → flatD d = true → v = fv d
  | .none, _, h, _ => by simp only [Dat] at h; exact h
  | .bool _, _, h, _ => by simp only [Dat] at h; exact h
  | .int _, _, h, _ => by simp only [Dat] at h; exact h
  | .str _, _, h, _ => by simp only [Dat] at h; exact h
  | .list _, _, _, f => by cases f
  | .tuple _, _, _, f => by cases f
  | .dict _, _, _, f => by cases f
theorem flat_fv : ∀ {d : D}, flatD d = true → flatV (fv d) = true
  | .none, _ => rfl
  | .bool _, _ => rfl
  | .int _, _ => rfl
  | .str _, _ => rfl
theorem flats_v : ∀ {ds : List D} {vs : List V}, Dats K H O ds vs → ds.all flatD = true → vs = ds.map fv
  | [], _, h, _ => by simp only [Dats] at h; exact h
  | d :: ds, _, h, f => by
    obtain ⟨v, r, rfl, h1, h2⟩ := h
    rw [List.all_cons, Bool.and_eq_true] at f
    rw [flat_v h1 f.1, flats_v h2 f.2]; rfl
theorem flats_fv {ds : List D} (f : ds.all flatD = true) : (ds.map fv).all flatV = true := by
  rw [List.all_map, List.all_eq_true]
  rw [List.all_eq_true] at f
  exact fun d hd => flat_fv (f d hd)
theorem inV_fv (x : D) (ds : List D) : inV (fv x) (ds.map fv) = ds.any fun z => eqF z x := by
  unfold inV
  rw [List.any_map]; rfl
theorem vw_flat {L : List (V × W)} {x : V} {d : D} (rl : Rels K H L) (hx : Vw L x d) (f : flatD d = true) : x = fv d := by
  cases d with
  | none => exact hx.none rl
  | bool b => exact hx.bool rl
  | int i => exact hx.int rl
  | str z => exact hx.str rl
  | list _ => cases f
  | tuple _ => cases f
  | dict _ => cases f
theorem op_inTM : Op2B K (rIn K false) cInT := fun H L x y dx dy w Q gd rl hx hy hf hQ => by
  unfold cInT at hf
  split at hf
  · rename_i ds
    split at hf
    · rename_i hc
      cases hf
      obtain ⟨a, vs, rfl, hs, hd⟩ := hy.list rl
      have e := flats_v hd hc.2
      subst e
      have ex := vw_flat rl hx hc.1
      subst ex
      refine ⟨a, _, rfl, .inl hs, flat_fv hc.1, flats_fv hc.2, ?_⟩
      rw [if_neg (by decide), inV_fv]
      exact hQ
    · cases hf
  · rename_i ds
    split at hf
    · rename_i hc
      cases hf
      obtain ⟨a, vs, rfl, hs, _, hd⟩ := hy.tuple rl
      have e := flats_v hd hc.2
      subst e
      have ex := vw_flat rl hx hc.1
      subst ex
      refine ⟨a, _, rfl, .inr hs, flat_fv hc.1, flats_fv hc.2, ?_⟩
      rw [if_neg (by decide), inV_fv]
      exact hQ
    · cases hf
  · cases hf
theorem op_notInTM : Op2B K (rIn K true) cNotInT := fun H L x y dx dy w Q gd rl hx hy hf hQ => by
  unfold cNotInT at hf
  split at hf
  · rename_i ds
    split at hf
    · rename_i hc
      cases hf
      obtain ⟨a, vs, rfl, hs, hd⟩ := hy.list rl
      have e := flats_v hd hc.2
      subst e
      have ex := vw_flat rl hx hc.1
      subst ex
      refine ⟨a, _, rfl, .inl hs, flat_fv hc.1, flats_fv hc.2, ?_⟩
      rw [if_pos rfl, inV_fv]
      exact hQ
    · cases hf
  · rename_i ds
    split at hf
    · rename_i hc
      cases hf
      obtain ⟨a, vs, rfl, hs, _, hd⟩ := hy.tuple rl
      have e := flats_v hd hc.2
      subst e
      have ex := vw_flat rl hx hc.1
      subst ex
      refine ⟨a, _, rfl, .inr hs, flat_fv hc.1, flats_fv hc.2, ?_⟩
      rw [if_pos rfl, inV_fv]
      exact hQ
    · cases hf
  · cases hf
end
theorem cInT_t {x : D} {ds : List D} (h1 : flatD x = true) (h2 : ds.all flatD = true) : cInT x (.tuple ds) = some (ds.any fun z => eqF z x) := if_pos ⟨h1, h2⟩
theorem cInT_l {x : D} {ds : List D} (h1 : flatD x = true) (h2 : ds.all flatD = true) : cInT x (.list ds) = some (ds.any fun z => eqF z x) := if_pos ⟨h1, h2⟩
theorem flat_ints (ns : List Int) : (ns.map PyData.int).all flatD = true := by
  rw [List.all_map, List.all_eq_true]; exact fun _ _ => rfl
theorem cInT_ti (i : Int) (ns : List Int) : cInT (.int i) (.tuple (ns.map PyData.int)) = some (ns.any fun z => z == i) := by
  rw [cInT_t rfl (flat_ints ns), List.any_map]; rfl
theorem cInT_li (i : Int) (ns : List Int) : cInT (.int i) (.list (ns.map PyData.int)) = some (ns.any fun z => z == i) := by
  rw [cInT_l rfl (flat_ints ns), List.any_map]; rfl
end Mi
set_option Elab.async false
set_option linter.all false
set_option maxRecDepth 100000
set_option maxHeartbeats 4000000
/-! Ev: mirrors run from the left; what is not yet run stays a term -/
namespace Mi
open PySem L2
section
variable {α β : Type}
/-! ### contexts -/
def kS (b : MS) : Res Out → Res Out
  | .ok .nx e => b e
  | .ok .bk e => .ok .bk e
  | .ok .ct e => .ok .ct e
  | .ok (.rt w) e => .ok (.rt w) e
  | .ex x e => .ex x e
  | .no => .no
def kIf {α : Type} (a b : Env → Res α) : Res Bool → Res α
  | .ok true e => a e
  | .ok false e => b e
  | .ex x e => .ex x e
  | .no => .no
def kM {α β : Type} (f : α → β) : Res α → Res β
  | .ok a e => .ok (f a) e
  | .ex x e => .ex x e
  | .no => .no
def kSet (i : Nat) : Res W → Res Out
  | .ok w e => .ok .nx (e.set i (some w))
  | .ex x e => .ex x e
  | .no => .no
def kTg (t : Tg) : Res W → Res Out
  | .ok w e => (match t (vw w) e with
    | some e2 => .ok .nx e2
    | none => .no)
  | .ex x e => .ex x e
  | .no => .no
def kAnd (b : MT) : Res Bool → Res Bool
  | .ok true e => b e
  | .ok false e => .ok false e
  | .ex x e => .ex x e
  | .no => .no
def kOr (b : MT) : Res Bool → Res Bool
  | .ok false e => b e
  | .ok true e => .ok true e
  | .ex x e => .ex x e
  | .no => .no
def kAndE (b : ME) : Res W → Res W
  | .ok w e => (match vw w with
    | .bool true => b e
    | .bool false => .ok (.d (.bool false)) e
    | _ => .no)
  | .ex x e => .ex x e
  | .no => .no
def kOrE (b : ME) : Res W → Res W
  | .ok w e => (match vw w with
    | .bool true => .ok (.d (.bool true)) e
    | .bool false => b e
    | _ => .no)
  | .ex x e => .ex x e
  | .no => .no
def kNotE : Res W → Res W
  | .ok w e => (match vw w with
    | .bool c => .ok (.d (.bool (!c))) e
    | _ => .no)
  | .ex x e => .ex x e
  | .no => .no
def oVr (i : Nat) (e : Env) : Option W → Res (Nat ⊕ W)
  | some _ => .ok (.inl i) e
  | none => .no
def g1 {α : Type} (f : D → Option α) (e : Env) : Option D → Res α
  | some d => ofO (f d) e
  | none => .no
def kO1 (f : D → Option W) : Res (Nat ⊕ W) → Res W
  | .ok r e => g1 f e (gv e r)
  | .ex x e => .ex x e
  | .no => .no
def g2 {α : Type} (f : D → D → Option α) (e : Env) : Option D → Option D → Res α
  | some x, some y => ofO (f x y) e
  | _, _ => .no
def kO2' {α : Type} (f : D → D → Option α) (r : Nat ⊕ W) : Res (Nat ⊕ W) → Res α
  | .ok r2 e => g2 f e (gv e r) (gv e r2)
  | .ex x e => .ex x e
  | .no => .no
def kO2 {α : Type} (f : D → D → Option α) (b : Opd) : Res (Nat ⊕ W) → Res α
  | .ok r e => kO2' f r (b.run e)
  | .ex x e => .ex x e
  | .no => .no
def kL' (r : Nat ⊕ W) : Res (List (Nat ⊕ W)) → Res (List (Nat ⊕ W))
  | .ok rs e => .ok (r :: rs) e
  | .ex x e => .ex x e
  | .no => .no
def kL (os : List Opd) : Res (Nat ⊕ W) → Res (List (Nat ⊕ W))
  | .ok r e => kL' r (evL os e)
  | .ex x e => .ex x e
  | .no => .no
def gB (f : List D → Option W) (e : Env) : Option (List D) → Res W
  | some ds => ofO (f ds) e
  | none => .no
def kB (f : List D → Option W) : Res (List (Nat ⊕ W)) → Res W
  | .ok rs e => gB f e (gvL e rs)
  | .ex x e => .ex x e
  | .no => .no
def kT' (d : D) : Res (List D) → Res (List D)
  | .ok ds e => .ok (d :: ds) e
  | .ex x e => .ex x e
  | .no => .no
def kT (ms : List ME) : Res W → Res (List D)
  | .ok w e => kT' (vw w) (evT ms e)
  | .ex x e => .ex x e
  | .no => .no
def kG' (d : Nat ⊕ D) : Res (List (Nat ⊕ D)) → Res (List (Nat ⊕ D))
  | .ok ds e => .ok (d :: ds) e
  | .ex x e => .ex x e
  | .no => .no
def kG (ms : List Arg) : Res W → Res (List (Nat ⊕ D))
  | .ok w e => kG' (.inr (vw w)) (evG ms e)
  | .ex x e => .ex x e
  | .no => .no
def gG (i : Nat) (as : List Arg) (e : Env) : Option W → Res (List (Nat ⊕ D))
  | some (.d x) => kG' (.inr x) (evG as e)
  | some _ => kG' (.inl i) (evG as e)
  | none => .no
def kP (w : W) : Option Env → Res W
  | some e => .ok w e
  | none => .no
def kPx (x : Exn) : Option Env → Res W
  | some e => .ex x e
  | none => .no
def kC2 (rs : List (Nat ⊕ D)) (e : Env) : CRes → Res W
  | .ok w outs => kP w (putO rs outs e)
  | .ex x outs => kPx x (putO rs outs e)
  | .no => .no
def kC1 (C : Orc) (k : Nat) (rs : List (Nat ⊕ D)) : Option (List W × Env) → Res W
  | some p => kC2 rs p.2 (C k p.1)
  | none => .no
def kC (C : Orc) (k : Nat) : Res (List (Nat ⊕ D)) → Res W
  | .ok rs e => kC1 C k rs (takeA rs e)
  | .ex x e => .ex x e
  | .no => .no
def gPut (i : Nat) (w wi : W) (e : Env) : Option W → Res Out
  | some (.l xs) => (match vw wi with
    | .int k => (match ixN xs.length k with
      | some j => .ok .nx (e.set i (some (.l (xs.set j (vw w)))))
      | none => .no)
    | _ => .no)
  | _ => .no
def kPut2 (i : Nat) (w : W) : Res W → Res Out
  | .ok wi e => gPut i w wi e (e.getD i none)
  | .ex x e => .ex x e
  | .no => .no
def kPut1 (i : Nat) (mi : ME) : Res W → Res Out
  | .ok w e => if isL (e.getD i none) = true then kPut2 i w (mi e) else .no
  | .ex x e => .ex x e
  | .no => .no
def gMu (f : List D → List D → Option (W × List D)) (i : Nat) (ds : List D) (e : Env) : Option W → Res W
  | some (.l xs) => (match f xs ds with
    | some p => .ok p.1 (e.set i (some (.l p.2)))
    | none => .no)
  | _ => .no
def kMu (f : List D → List D → Option (W × List D)) (i : Nat) : Res (List D) → Res W
  | .ok ds e => gMu f i ds e (e.getD i none)
  | .ex x e => .ex x e
  | .no => .no
def kFor (tg : Tg) (b : MS) : Res (List D) → Res Out
  | .ok xs e => forL tg b xs e
  | .ex x e => .ex x e
  | .no => .no
def kFor1 (tg : Tg) (b : MS) (xs : List D) : Res Out → Res Out
  | .ok .nx e => forL tg b xs e
  | .ok .ct e => forL tg b xs e
  | .ok .bk e => .ok .nx e
  | .ok (.rt w) e => .ok (.rt w) e
  | .ex x e => .ex x e
  | .no => .no
def kFor0 (tg : Tg) (b : MS) (xs : List D) : Option Env → Res Out
  | some e => kFor1 tg b xs (b e)
  | none => .no
def kLc (tg : Tg) (tt : MT) (te : ME) (vs : List Nat) : Res (List D) → Res W
  | .ok xs e => if xs.length < 16777216 then kM W.l (cmpL tg tt te vs xs (wipeE e vs)) else .no
  | .ex x e => .ex x e
  | .no => .no
def kSeqI : Res W → Res (List D)
  | .ok w e => (match vw w with
    | .list xs => .ok xs e
    | .tuple xs => .ok xs e
    | _ => .no)
  | .ex x e => .ex x e
  | .no => .no
def kR1 : Res W → Res (List D)
  | .ok w e => (match vw w with
    | .int j => if -4611686018427387904 ≤ j ∧ j < 4611686018427387904 then .ok (rng 0 j.toNat) e else .no
    | _ => .no)
  | .ex x e => .ex x e
  | .no => .no
def kR2' (w : W) : Res W → Res (List D)
  | .ok w2 e2 => (match vw w with
    | .int i => (match vw w2 with
      | .int j => if -4611686018427387904 ≤ i ∧ i < 4611686018427387904 ∧ -4611686018427387904 ≤ j ∧ j < 4611686018427387904 then .ok (rng i (j - i).toNat) e2 else .no
      | _ => .no)
    | _ => .no)
  | .ex x e => .ex x e
  | .no => .no
def kR2 (b : ME) : Res W → Res (List D)
  | .ok w e => kR2' w (b e)
  | .ex x e => .ex x e
  | .no => .no
def kTru : Res (Nat ⊕ W) → Res Bool
  | .ok r e => g1 truD e (gv e r)
  | .ex x e => .ex x e
  | .no => .no
def kRep2 (w : W) : Res W → Res W
  | .ok w2 e2 => (match w with
    | .l xs => (match vw w2 with
      | .int k => if -9223372036854775808 ≤ k ∧ k < 9223372036854775808 ∧ xs.length * k.toNat ≤ 16777216 then .ok (.l (List.replicate k.toNat xs).flatten) e2 else .no
      | _ => .no)
    | _ => .no)
  | .ex x e => .ex x e
  | .no => .no
def kRep (b : ME) : Res W → Res W
  | .ok w e => kRep2 w (b e)
  | .ex x e => .ex x e
  | .no => .no
def rV (i : Nat) (e : Env) : Option W → Res W
  | some (.d d) => .ok (.d d) e
  | some (.l xs) => .ok (.d (.list xs)) (e.set i (some (.d (.list xs))))
  | some (.t g ws) => .ok (.d (vw (.t g ws))) (e.set i (some (.d (vw (.t g ws)))))
  | none => .no

/-! ### runs -/
variable {e : Env}
theorem ev_seq {a b : MS} : sSeq a b e = kS b (a e) := by
  unfold sSeq
  cases a e with
  | ok o e1 => cases o <;> rfl
  | ex x e1 => rfl
  | no => rfl
theorem ev_if {t : MT} {a b : MS} : sIf t a b e = kIf a b (t e) := by
  unfold sIf
  cases t e with
  | ok o e1 => cases o <;> rfl
  | ex x e1 => rfl
  | no => rfl
theorem ev_ifE {t : MT} {a b : ME} : eIf t a b e = kIf a b (t e) := by
  unfold eIf
  cases t e with
  | ok o e1 => cases o <;> rfl
  | ex x e1 => rfl
  | no => rfl
theorem ev_nx : sNx e = .ok .nx e := rfl
theorem ev_bk : sBk e = .ok .bk e := rfl
theorem ev_ct : sCt e = .ok .ct e := rfl
theorem ev_E {m : ME} : sE m e = kM (fun _ => Out.nx) (m e) := by unfold sE; cases m e <;> rfl
theorem ev_set {i : Nat} {m : ME} : sSet i m e = kSet i (m e) := by unfold sSet; cases m e <;> rfl
theorem ev_tg {t : Tg} {m : ME} : sTg t m e = kTg t (m e) := by unfold sTg; cases m e <;> rfl
theorem ev_ret {m : ME} : sRet m e = kM (fun w => Out.rt (.d (vw w))) (m e) := by unfold sRet; cases m e <;> rfl
theorem ev_retO {m : ME} : sRetO m e = kM Out.rt (m e) := by unfold sRetO; cases m e <;> rfl
theorem ev_retN : sRetN e = .ok (.rt (.d .none)) e := rfl
theorem ev_put {i : Nat} {mi mv : ME} : sPut i mi mv e = kPut1 i mi (mv e) := by
  unfold sPut
  cases mv e with
  | ok w e1 =>
    show (if isL (e1.getD i none) = true then _ else Res.no) = (if isL (e1.getD i none) = true then kPut2 i w (mi e1) else Res.no)
    split
    · cases mi e1 with
      | ok wi e2 =>
        show (match vw wi with | .int k => _ | _ => Res.no) = gPut i w wi e2 (e2.getD i none)
        unfold gPut
        cases e2.getD i none with
        | none => cases vw wi <;> rfl
        | some x => cases x with
          | d y => cases vw wi <;> rfl
          | l ys => cases vw wi <;> rfl
          | t g ws => cases vw wi <;> rfl
      | ex x e2 => rfl
      | no => rfl
    · rfl
  | ex x e1 => rfl
  | no => rfl
theorem ev_for {src : MI} {tg : Tg} {b : MS} : sFor src tg b e = kFor tg b (src e) := by unfold sFor; cases src e <;> rfl
theorem ev_forN {tg : Tg} {b : MS} : forL tg b [] e = .ok .nx e := rfl
theorem ev_forC {tg : Tg} {b : MS} {x : D} {xs : List D} : forL tg b (x :: xs) e = kFor0 tg b xs (tg x e) := by
  show (match tg x e with | none => Res.no | some e0 => bnd (b e0) fun o e1 => match o with | .nx => forL tg b xs e1 | .ct => forL tg b xs e1 | .bk => .ok .nx e1 | .rt w => .ok (.rt w) e1) = _
  cases tg x e with
  | none => rfl
  | some e0 =>
    show bnd (b e0) _ = kFor1 tg b xs (b e0)
    cases b e0 with
    | ok o e1 => cases o <;> rfl
    | ex x e1 => rfl
    | no => rfl
theorem ev_C {d : D} : eC d e = .ok (.d d) e := rfl
theorem ev_V {i : Nat} : eV i e = rV i e (e.getD i none) := by
  unfold eV
  cases e.getD i none with
  | none => rfl
  | some w => cases w <;> rfl
theorem ev_vr {i : Nat} : (Opd.vr i).run e = oVr i e (e.getD i none) := by
  show (match e.getD i none with | some _ => Res.ok (Sum.inl i) e | none => Res.no) = _
  cases e.getD i none <;> rfl
theorem ev_ex {m : ME} : (Opd.ex m).run e = kM Sum.inr (m e) := by
  show bnd (m e) _ = _
  cases m e <;> rfl
theorem ev_o1 {f : D → Option W} {a : Opd} : eO1 f a e = kO1 f (a.run e) := by
  unfold eO1
  cases a.run e with
  | ok r e1 => show (match gv e1 r with | some d => _ | none => _) = g1 f e1 (gv e1 r); cases gv e1 r <;> rfl
  | ex x e1 => rfl
  | no => rfl
theorem ev_o2 {f : D → D → Option W} {a b : Opd} : eO2 f a b e = kO2 f b (a.run e) := by
  unfold eO2
  cases a.run e with
  | ok r e1 =>
    show bnd (b.run e1) _ = kO2' f r (b.run e1)
    cases b.run e1 with
    | ok r2 e2 =>
      show (match gv e2 r with | some x => _ | none => _) = g2 f e2 (gv e2 r) (gv e2 r2)
      cases gv e2 r with
      | none => rfl
      | some x => cases gv e2 r2 <;> rfl
    | ex x e2 => rfl
    | no => rfl
  | ex x e1 => rfl
  | no => rfl
theorem ev_t2 {f : D → D → Option Bool} {a b : Opd} : tO2 f a b e = kO2 f b (a.run e) := by
  unfold tO2
  cases a.run e with
  | ok r e1 =>
    show bnd (b.run e1) _ = kO2' f r (b.run e1)
    cases b.run e1 with
    | ok r2 e2 =>
      show (match gv e2 r with | some x => _ | none => _) = g2 f e2 (gv e2 r) (gv e2 r2)
      cases gv e2 r with
      | none => rfl
      | some x => cases gv e2 r2 <;> rfl
    | ex x e2 => rfl
    | no => rfl
  | ex x e1 => rfl
  | no => rfl
theorem ev_tru {a : Opd} : tTru a e = kTru (a.run e) := by
  unfold tTru
  cases a.run e with
  | ok r e1 => show (match gv e1 r with | some d => _ | none => _) = g1 truD e1 (gv e1 r); cases gv e1 r <;> rfl
  | ex x e1 => rfl
  | no => rfl
theorem ev_and {a b : MT} : tAnd' a b e = kAnd b (a e) := by
  unfold tAnd'
  cases a e with
  | ok o e1 => cases o <;> rfl
  | ex x e1 => rfl
  | no => rfl
theorem ev_or {a b : MT} : tOr' a b e = kOr b (a e) := by
  unfold tOr'
  cases a e with
  | ok o e1 => cases o <;> rfl
  | ex x e1 => rfl
  | no => rfl
theorem ev_not {a : MT} : tNot' a e = kM Bool.not (a e) := by unfold tNot'; cases a e <;> rfl
theorem ev_yes : mYes e = .ok true e := rfl
theorem ev_andE {a b : ME} : eAnd a b e = kAndE b (a e) := by unfold eAnd; cases a e <;> rfl
theorem ev_orE {a b : ME} : eOr a b e = kOrE b (a e) := by unfold eOr; cases a e <;> rfl
theorem ev_notE {a : ME} : eNot a e = kNotE (a e) := by unfold eNot; cases a e <;> rfl
theorem ev_LN : evL [] e = .ok [] e := rfl
theorem ev_LC {o : Opd} {os : List Opd} : evL (o :: os) e = kL os (o.run e) := by
  show bnd (o.run e) _ = _
  cases o.run e with
  | ok r e1 =>
    show bnd (evL os e1) _ = kL' r (evL os e1)
    cases evL os e1 <;> rfl
  | ex x e1 => rfl
  | no => rfl
theorem ev_B {f : List D → Option W} {os : List Opd} : eB f os e = kB f (evL os e) := by
  unfold eB
  cases evL os e with
  | ok rs e1 =>
    show (match gvL e1 rs with | some ds => _ | none => _) = gB f e1 (gvL e1 rs)
    cases gvL e1 rs <;> rfl
  | ex x e1 => rfl
  | no => rfl
theorem ev_TN : evT [] e = .ok [] e := rfl
theorem ev_TC {m : ME} {ms : List ME} : evT (m :: ms) e = kT ms (m e) := by
  show bnd (m e) _ = _
  cases m e with
  | ok r e1 =>
    show bnd (evT ms e1) _ = kT' (vw r) (evT ms e1)
    cases evT ms e1 <;> rfl
  | ex x e1 => rfl
  | no => rfl
theorem ev_tup {ms : List ME} : eTup ms e = kM (fun ds => W.d (.tuple ds)) (evT ms e) := by unfold eTup; cases evT ms e <;> rfl
theorem ev_lst {ms : List ME} : eLst ms e = kM W.l (evT ms e) := by unfold eLst; cases evT ms e <;> rfl
theorem ev_GN : evG [] e = .ok [] e := rfl
theorem ev_GV {m : ME} {ms : List Arg} : evG (.vl m :: ms) e = kG ms (m e) := by
  show bnd (m e) _ = _
  cases m e with
  | ok r e1 =>
    show bnd (evG ms e1) _ = kG' (.inr (vw r)) (evG ms e1)
    cases evG ms e1 <;> rfl
  | ex x e1 => rfl
  | no => rfl
theorem ev_GR {i : Nat} {ms : List Arg} : evG (.rf i :: ms) e = gG i ms e (e.getD i none) := by
  show (match e.getD i none with | some (.d x) => bnd (evG ms e) (fun rs e2 => Res.ok (Sum.inr x :: rs) e2) | some _ => bnd (evG ms e) (fun rs e2 => Res.ok (Sum.inl i :: rs) e2) | none => Res.no) = _
  cases e.getD i none with
  | none => rfl
  | some w =>
    cases w with
    | d x => show bnd (evG ms e) _ = kG' (.inr x) (evG ms e); cases evG ms e <;> rfl
    | l xs => show bnd (evG ms e) _ = kG' (.inl i) (evG ms e); cases evG ms e <;> rfl
    | t g ws => show bnd (evG ms e) _ = kG' (.inl i) (evG ms e); cases evG ms e <;> rfl
theorem ev_call {C : Orc} {k : Nat} {as : List Arg} : eCall C k as e = kC C k (evG as e) := by
  unfold eCall
  cases evG as e with
  | ok rs e1 =>
    show (match takeA rs e1 with | some p => _ | none => Res.no) = kC1 C k rs (takeA rs e1)
    cases takeA rs e1 with
    | none => rfl
    | some p =>
      show (match C k p.1 with | .ok w outs => _ | .ex x outs => _ | .no => Res.no) = kC2 rs p.2 (C k p.1)
      cases C k p.1 with
      | ok w outs => show (match putO rs outs p.2 with | some e2 => _ | none => _) = kP w (putO rs outs p.2); cases putO rs outs p.2 <;> rfl
      | ex w outs => show (match putO rs outs p.2 with | some e2 => _ | none => _) = kPx w (putO rs outs p.2); cases putO rs outs p.2 <;> rfl
      | no => rfl
  | ex x e1 => rfl
  | no => rfl
theorem ev_mu {f : List D → List D → Option (W × List D)} {i : Nat} {ms : List ME} : eMu f i ms e = if isL (e.getD i none) = true then kMu f i (evT ms e) else .no := by
  unfold eMu
  split
  · cases evT ms e with
    | ok ds e1 =>
      show (match e1.getD i none with | some (.l xs) => _ | _ => _) = gMu f i ds e1 (e1.getD i none)
      cases e1.getD i none with
      | none => rfl
      | some w => cases w with
        | d x => rfl
        | t g ws => rfl
        | l xs =>
          show (match f xs ds with | some (w, ys) => _ | none => _) = (match f xs ds with | some p => Res.ok p.1 (e1.set i (some (.l p.2))) | none => Res.no)
          cases f xs ds <;> rfl
    | ex x e1 => rfl
    | no => rfl
  · rfl
theorem ev_lc {src : MI} {tg : Tg} {tt : MT} {te : ME} {vs : List Nat} : eLc src tg tt te vs e = kLc tg tt te vs (src e) := by
  unfold eLc
  cases src e with
  | ok xs e1 =>
    show (if xs.length < 16777216 then bnd (cmpL tg tt te vs xs (wipeE e1 vs)) (fun ds e2 => Res.ok (.l ds) e2) else Res.no) = (if xs.length < 16777216 then kM W.l (cmpL tg tt te vs xs (wipeE e1 vs)) else .no)
    split
    · cases cmpL tg tt te vs xs (wipeE e1 vs) <;> rfl
    · rfl
  | ex x e1 => rfl
  | no => rfl
theorem ev_any {m : ME} : iAny m e = kSeqI (m e) := by unfold iAny; cases m e <;> rfl
theorem ev_r1 {m : ME} : iR1 m e = kR1 (m e) := by unfold iR1; cases m e <;> rfl
theorem ev_r2 {a b : ME} : iR2 a b e = kR2 b (a e) := by
  unfold iR2
  cases a e with
  | ok w e1 => show bnd (b e1) _ = kR2' w (b e1); cases b e1 <;> rfl
  | ex x e1 => rfl
  | no => rfl
theorem ev_rep {a b : ME} : eRep a b e = kRep b (a e) := by
  unfold eRep
  cases a e with
  | ok w e1 => show bnd (b e1) _ = kRep2 w (b e1); cases b e1 <;> rfl
  | ex x e1 => rfl
  | no => rfl

/-! ### steps of the contexts -/
theorem kS_nx {b : MS} : kS b (.ok .nx e) = b e := rfl
theorem kS_bk {b : MS} : kS b (.ok .bk e) = .ok .bk e := rfl
theorem kS_ct {b : MS} : kS b (.ok .ct e) = .ok .ct e := rfl
theorem kS_rt {b : MS} {w : W} : kS b (.ok (.rt w) e) = .ok (.rt w) e := rfl
theorem kIf_t {a b : Env → Res α} : kIf a b (.ok true e) = a e := rfl
theorem kIf_f {a b : Env → Res α} : kIf a b (.ok false e) = b e := rfl
theorem kM_ok {f : α → β} {a : α} : kM f (.ok a e) = .ok (f a) e := rfl
theorem kSet_ok {i : Nat} {w : W} : kSet i (.ok w e) = .ok .nx (e.set i (some w)) := rfl
theorem kAnd_t {b : MT} : kAnd b (.ok true e) = b e := rfl
theorem kAnd_f {b : MT} : kAnd b (.ok false e) = .ok false e := rfl
theorem kOr_t {b : MT} : kOr b (.ok true e) = .ok true e := rfl
theorem kOr_f {b : MT} : kOr b (.ok false e) = b e := rfl
theorem kAndE_t {b : ME} : kAndE b (.ok (.d (.bool true)) e) = b e := rfl
theorem kAndE_f {b : ME} : kAndE b (.ok (.d (.bool false)) e) = .ok (.d (.bool false)) e := rfl
theorem kOrE_t {b : ME} : kOrE b (.ok (.d (.bool true)) e) = .ok (.d (.bool true)) e := rfl
theorem kOrE_f {b : ME} : kOrE b (.ok (.d (.bool false)) e) = b e := rfl
theorem kNotE_b {c : Bool} : kNotE (.ok (.d (.bool c)) e) = .ok (.d (.bool (!c))) e := rfl
theorem oVr_s {i : Nat} {w : W} : oVr i e (some w) = .ok (.inl i) e := rfl
theorem kO1_ok {f : D → Option W} {r : Nat ⊕ W} : kO1 f (.ok r e) = g1 f e (gv e r) := rfl
theorem g1_s {f : D → Option α} {d : D} : g1 f e (some d) = ofO (f d) e := rfl
theorem kO2_ok {f : D → D → Option α} {b : Opd} {r : Nat ⊕ W} : kO2 f b (.ok r e) = kO2' f r (b.run e) := rfl
theorem kO2'_ok {f : D → D → Option α} {r r2 : Nat ⊕ W} : kO2' f r (.ok r2 e) = g2 f e (gv e r) (gv e r2) := rfl
theorem g2_ss {f : D → D → Option α} {x y : D} : g2 f e (some x) (some y) = ofO (f x y) e := rfl
theorem gv_l {i : Nat} : gv e (.inl i) = (e.getD i none).bind vf := rfl
theorem gv_r {w : W} : gv e (.inr w) = vf w := rfl
theorem kL_ok {os : List Opd} {r : Nat ⊕ W} : kL os (.ok r e) = kL' r (evL os e) := rfl
theorem kL'_ok {r : Nat ⊕ W} {rs : List (Nat ⊕ W)} : kL' r (.ok rs e) = .ok (r :: rs) e := rfl
theorem kB_ok {f : List D → Option W} {rs : List (Nat ⊕ W)} : kB f (.ok rs e) = gB f e (gvL e rs) := rfl
theorem gB_s {f : List D → Option W} {ds : List D} : gB f e (some ds) = ofO (f ds) e := rfl
theorem gvL_n : gvL e [] = some [] := rfl
def kV (d : Option D) (r : Option (List D)) : Option (List D) := match d with
  | some x => (match r with
    | some xs => some (x :: xs)
    | none => none)
  | none => none
theorem gvL_c {r : Nat ⊕ W} {rs : List (Nat ⊕ W)} : gvL e (r :: rs) = kV (gv e r) (gvL e rs) := rfl
theorem kV_ss {x : D} {xs : List D} : kV (some x) (some xs) = some (x :: xs) := rfl
theorem kT_ok {ms : List ME} {w : W} : kT ms (.ok w e) = kT' (vw w) (evT ms e) := rfl
theorem kT'_ok {d : D} {ds : List D} : kT' d (.ok ds e) = .ok (d :: ds) e := rfl
theorem kG_ok {ms : List Arg} {w : W} : kG ms (.ok w e) = kG' (.inr (vw w)) (evG ms e) := rfl
theorem kG'_ok {d : Nat ⊕ D} {ds : List (Nat ⊕ D)} : kG' d (.ok ds e) = .ok (d :: ds) e := rfl
theorem gG_l {i : Nat} {as : List Arg} {xs : List D} : gG i as e (some (.l xs)) = kG' (.inl i) (evG as e) := rfl
theorem gG_t {i : Nat} {as : List Arg} {g : Tag} {ws : List W} : gG i as e (some (.t g ws)) = kG' (.inl i) (evG as e) := rfl
theorem gG_d {i : Nat} {as : List Arg} {x : D} : gG i as e (some (.d x)) = kG' (.inr x) (evG as e) := rfl
theorem kC_ok {C : Orc} {k : Nat} {rs : List (Nat ⊕ D)} : kC C k (.ok rs e) = kC1 C k rs (takeA rs e) := rfl
theorem kC1_s {C : Orc} {k : Nat} {rs : List (Nat ⊕ D)} {p : List W × Env} : kC1 C k rs (some p) = kC2 rs p.2 (C k p.1) := rfl
theorem kC2_ok {rs : List (Nat ⊕ D)} {w : W} {outs : List W} : kC2 rs e (.ok w outs) = kP w (putO rs outs e) := rfl
theorem kP_s {w : W} : kP w (some e) = .ok w e := rfl
def tkW (w : W) : Option (List W × Env) → Option (List W × Env)
  | some p => some (w :: p.1, p.2)
  | none => none
def tk1 (i : Nat) (rs : List (Nat ⊕ D)) (e : Env) : Option W → Option (List W × Env)
  | some w => if isO w = true then tkW w (takeA rs (e.set i none)) else none
  | none => none
theorem take_n : takeA [] e = some ([], e) := rfl
theorem take_l {i : Nat} {rs : List (Nat ⊕ D)} : takeA (.inl i :: rs) e = tk1 i rs e (e.getD i none) := by
  show (match e.getD i none with | some w => if isO w = true then (match takeA rs (e.set i none) with | some p => some (w :: p.1, p.2) | none => none) else none | none => none) = _
  cases e.getD i none with
  | none => rfl
  | some w =>
    show (if isO w = true then (match takeA rs (e.set i none) with | some p => some (w :: p.1, p.2) | none => none) else none) = if isO w = true then tkW w (takeA rs (e.set i none)) else none
    cases takeA rs (e.set i none) <;> rfl
theorem tk1_s {i : Nat} {rs : List (Nat ⊕ D)} {w : W} : tk1 i rs e (some w) = if isO w = true then tkW w (takeA rs (e.set i none)) else none := rfl
theorem take_r {d : D} {rs : List (Nat ⊕ D)} : takeA (.inr d :: rs) e = tkW (.d d) (takeA rs e) := by
  show (match takeA rs e with | some p => some (W.d d :: p.1, p.2) | none => none) = _
  cases takeA rs e <;> rfl
theorem tkW_s {w : W} {p : List W × Env} : tkW w (some p) = some (w :: p.1, p.2) := rfl
theorem isO_l {xs : List D} : isO (.l xs) = true := rfl
theorem isO_t {g : Tag} {ws : List W} : isO (.t g ws) = true := rfl
theorem isO_d {x : D} : isO (.d x) = false := rfl
def pt1 (i : Nat) (w : W) : Option Env → Option Env
  | some e => some (e.set i (some w))
  | none => none
theorem put_n : putO [] [] e = some e := rfl
theorem put_l {i : Nat} {rs : List (Nat ⊕ D)} {w : W} {os : List W} : putO (.inl i :: rs) (w :: os) e = if isO w = true then pt1 i w (putO rs os e) else none := by
  show (if isO w = true then (match putO rs os e with | some e2 => some (e2.set i (some w)) | none => none) else none) = _
  cases putO rs os e <;> rfl
theorem put_r {d : D} {rs : List (Nat ⊕ D)} {os : List W} : putO (.inr d :: rs) os e = putO rs os e := by cases os <;> rfl
theorem pt1_s {i : Nat} {w : W} : pt1 i w (some e) = some (e.set i (some w)) := rfl
theorem kPut1_ok {i : Nat} {mi : ME} {w : W} : kPut1 i mi (.ok w e) = if isL (e.getD i none) = true then kPut2 i w (mi e) else .no := rfl
theorem kPut2_ok {i : Nat} {w wi : W} : kPut2 i w (.ok wi e) = gPut i w wi e (e.getD i none) := rfl
theorem gPut_l {i : Nat} {w : W} {k : Int} {xs : List D} : gPut i w (.d (.int k)) e (some (.l xs)) = (match ixN xs.length k with | some j => .ok .nx (e.set i (some (.l (xs.set j (vw w))))) | none => .no) := rfl
theorem isL_l {xs : List D} : isL (some (.l xs)) = true := rfl
theorem kMu_ok {f : List D → List D → Option (W × List D)} {i : Nat} {ds : List D} : kMu f i (.ok ds e) = gMu f i ds e (e.getD i none) := rfl
theorem gMu_l {f : List D → List D → Option (W × List D)} {i : Nat} {ds xs : List D} : gMu f i ds e (some (.l xs)) = (match f xs ds with | some p => .ok p.1 (e.set i (some (.l p.2))) | none => .no) := rfl
theorem kFor_ok {tg : Tg} {b : MS} {xs : List D} : kFor tg b (.ok xs e) = forL tg b xs e := rfl
theorem kFor0_s {tg : Tg} {b : MS} {xs : List D} : kFor0 tg b xs (some e) = kFor1 tg b xs (b e) := rfl
theorem kFor1_nx {tg : Tg} {b : MS} {xs : List D} : kFor1 tg b xs (.ok .nx e) = forL tg b xs e := rfl
theorem kFor1_ct {tg : Tg} {b : MS} {xs : List D} : kFor1 tg b xs (.ok .ct e) = forL tg b xs e := rfl
theorem kFor1_bk {tg : Tg} {b : MS} {xs : List D} : kFor1 tg b xs (.ok .bk e) = .ok .nx e := rfl
theorem kFor1_rt {tg : Tg} {b : MS} {xs : List D} {w : W} : kFor1 tg b xs (.ok (.rt w) e) = .ok (.rt w) e := rfl
theorem kLc_ok {tg : Tg} {tt : MT} {te : ME} {vs : List Nat} {xs : List D} : kLc tg tt te vs (.ok xs e) = if xs.length < 16777216 then kM W.l (cmpL tg tt te vs xs (wipeE e vs)) else .no := rfl
theorem kSeqI_l {xs : List D} : kSeqI (.ok (.d (.list xs)) e) = .ok xs e := rfl
theorem kSeqI_l' {xs : List D} : kSeqI (.ok (.l xs) e) = .ok xs e := rfl
theorem kSeqI_t {xs : List D} : kSeqI (.ok (.d (.tuple xs)) e) = .ok xs e := rfl
theorem kR1_i {j : Int} : kR1 (.ok (.d (.int j)) e) = if -4611686018427387904 ≤ j ∧ j < 4611686018427387904 then .ok (rng 0 j.toNat) e else .no := rfl
theorem kR2_ok {b : ME} {w : W} : kR2 b (.ok w e) = kR2' w (b e) := rfl
theorem kR2'_i {i j : Int} : kR2' (.d (.int i)) (.ok (.d (.int j)) e) = if -4611686018427387904 ≤ i ∧ i < 4611686018427387904 ∧ -4611686018427387904 ≤ j ∧ j < 4611686018427387904 then .ok (rng i (j - i).toNat) e else .no := rfl
theorem kTru_ok {r : Nat ⊕ W} : kTru (.ok r e) = g1 truD e (gv e r) := rfl
theorem kRep_ok {b : ME} {w : W} : kRep b (.ok w e) = kRep2 w (b e) := rfl
theorem kRep2_i {xs : List D} {k : Int} : kRep2 (.l xs) (.ok (.d (.int k)) e) = if -9223372036854775808 ≤ k ∧ k < 9223372036854775808 ∧ xs.length * k.toNat ≤ 16777216 then .ok (.l (List.replicate k.toNat xs).flatten) e else .no := rfl
theorem rV_d {i : Nat} {d : D} : rV i e (some (.d d)) = .ok (.d d) e := rfl
theorem rV_l {i : Nat} {xs : List D} : rV i e (some (.l xs)) = .ok (.d (.list xs)) (e.set i (some (.d (.list xs)))) := rfl
theorem rV_t {i : Nat} {g : Tag} {ws : List W} : rV i e (some (.t g ws)) = .ok (.d (vw (.t g ws))) (e.set i (some (.d (vw (.t g ws))))) := rfl
/-- a def from its body -/
def kF (P : List Nat) : Res Out → CRes
  | .ok o e => endF (contO e P) o
  | .ex x e => endX (contO e P) x
  | .no => .no
theorem run_kF {np n : Nat} {Ps : List (List Nat)} {P : List Nat} {m : MS} {ws : List W} (h1 : ws.length = np) (h2 : lpos ws 0 = P) (h3 : Ps.contains P = true) : runF np n Ps m ws = kF P (m (ws.map some ++ List.replicate (n - np) none)) := by
  subst h2
  unfold runF
  rw [if_pos ⟨h1, h3⟩]
  cases m (ws.map some ++ List.replicate (n - np) none) <;> rfl
theorem lpos_n {i : Nat} : lpos [] i = [] := rfl
theorem lpos_l {xs : List D} {ws : List W} {i : Nat} : lpos (.l xs :: ws) i = i :: lpos ws (i + 1) := rfl
theorem lpos_t {g : Tag} {us : List W} {ws : List W} {i : Nat} : lpos (.t g us :: ws) i = i :: lpos ws (i + 1) := rfl
theorem lpos_d {x : D} {ws : List W} {i : Nat} : lpos (.d x :: ws) i = lpos ws (i + 1) := rfl
theorem kF_ok {P : List Nat} {o : Out} : kF P (.ok o e) = endF (contO e P) o := rfl
theorem endF_r {outs : List W} {w : W} : endF (some outs) (.rt w) = .ok w outs := rfl
theorem endF_n {outs : List W} : endF (some outs) .nx = .ok (.d .none) outs := rfl
theorem kF_ex {P : List Nat} {x : Exn} : kF P (.ex x e) = endX (contO e P) x := rfl
theorem endX_s {outs : List W} {x : Exn} : endX (some outs) x = .ex x outs := rfl
theorem atI_0 {a : D} {l : List D} : atI (a :: l) 0 = some a := by simp [atI, ixN]
theorem atI_1 {a b : D} {l : List D} : atI (a :: b :: l) 1 = some b := by
  have : atI (a :: b :: l) ((1 : Nat) : Int) = some b := atI_nat rfl
  exact this
theorem atI_2 {a b c : D} {l : List D} : atI (a :: b :: c :: l) 2 = some c := by
  have : atI (a :: b :: c :: l) ((2 : Nat) : Int) = some c := atI_nat rfl
  exact this
theorem atI_3 {a b c d : D} {l : List D} : atI (a :: b :: c :: d :: l) 3 = some d := by
  have : atI (a :: b :: c :: d :: l) ((3 : Nat) : Int) = some d := atI_nat rfl
  exact this
theorem fIx_l {ds : List D} {i : Int} : fIx (.list ds) (.int i) = (atI ds i).map W.d := rfl
theorem fIx_t {ds : List D} {i : Int} : fIx (.tuple ds) (.int i) = (atI ds i).map W.d := rfl
theorem cmpL_n {tg : Tg} {tt : MT} {te : ME} {vs : List Nat} : cmpL tg tt te vs [] e = .ok [] e := rfl
def kc3 (d : D) : Res (List D) → Res (List D)
  | .ok ds e => .ok (d :: ds) e
  | .ex x e => .ex x e
  | .no => .no
def kc2 (tg : Tg) (tt : MT) (te : ME) (vs : List Nat) (xs : List D) : Res W → Res (List D)
  | .ok w e => kc3 (vw w) (cmpL tg tt te vs xs (wipeE e vs))
  | .ex x e => .ex x e
  | .no => .no
def kc1 (tg : Tg) (tt : MT) (te : ME) (vs : List Nat) (xs : List D) : Res Bool → Res (List D)
  | .ok true e => kc2 tg tt te vs xs (te e)
  | .ok false e => cmpL tg tt te vs xs (wipeE e vs)
  | .ex x e => .ex x e
  | .no => .no
def kc0 (tg : Tg) (tt : MT) (te : ME) (vs : List Nat) (xs : List D) : Option Env → Res (List D)
  | some e => kc1 tg tt te vs xs (tt e)
  | none => .no
theorem cmpL_c {tg : Tg} {tt : MT} {te : ME} {vs : List Nat} {x : D} {xs : List D} : cmpL tg tt te vs (x :: xs) e = kc0 tg tt te vs xs (tg x e) := by
  show (match tg x e with | none => Res.no | some e0 => bnd (tt e0) fun b e1 => if b = true then bnd (te e1) fun w e2 => bnd (cmpL tg tt te vs xs (wipeE e2 vs)) fun ds e3 => .ok (vw w :: ds) e3 else cmpL tg tt te vs xs (wipeE e1 vs)) = _
  cases tg x e with
  | none => rfl
  | some e0 =>
    show bnd (tt e0) _ = kc1 tg tt te vs xs (tt e0)
    cases tt e0 with
    | ok b e1 =>
      cases b with
      | true =>
        show bnd (te e1) _ = kc2 tg tt te vs xs (te e1)
        cases te e1 with
        | ok w e2 => show bnd (cmpL tg tt te vs xs (wipeE e2 vs)) _ = kc3 (vw w) (cmpL tg tt te vs xs (wipeE e2 vs)); cases cmpL tg tt te vs xs (wipeE e2 vs) <;> rfl
        | ex x e2 => rfl
        | no => rfl
      | false => rfl
    | ex x e1 => rfl
    | no => rfl
theorem kc0_s {tg : Tg} {tt : MT} {te : ME} {vs : List Nat} {xs : List D} : kc0 tg tt te vs xs (some e) = kc1 tg tt te vs xs (tt e) := rfl
theorem kc1_t {tg : Tg} {tt : MT} {te : ME} {vs : List Nat} {xs : List D} : kc1 tg tt te vs xs (.ok true e) = kc2 tg tt te vs xs (te e) := rfl
theorem kc1_f {tg : Tg} {tt : MT} {te : ME} {vs : List Nat} {xs : List D} : kc1 tg tt te vs xs (.ok false e) = cmpL tg tt te vs xs (wipeE e vs) := rfl
theorem kc2_ok {tg : Tg} {tt : MT} {te : ME} {vs : List Nat} {xs : List D} {w : W} : kc2 tg tt te vs xs (.ok w e) = kc3 (vw w) (cmpL tg tt te vs xs (wipeE e vs)) := rfl
theorem kc3_ok {d : D} {ds : List D} : kc3 d (.ok ds e) = .ok (d :: ds) e := rfl
theorem wipe_n : wipeE e [] = e := rfl
theorem wipe_c {v : Nat} {vs : List Nat} : wipeE e (v :: vs) = (wipeE e vs).set v none := rfl
theorem tgN_r {j : Nat} {x : D} : tgN j x e = some (e.set j (some (.d x))) := rfl
theorem tgT_r {ts : List Tg} {xs : List D} : tgT ts (.tuple xs) e = tgL ts xs e := rfl
theorem tgL_n : tgL [] [] e = some e := rfl
theorem tgL_c {t : Tg} {ts : List Tg} {x : D} {xs : List D} : tgL (t :: ts) (x :: xs) e = (t x e).bind (tgL ts xs) := rfl
end
end Mi
namespace Mi
open PySem L2
theorem fMul_r {i j : Int} (h : j.natAbs < 18446744073709551616) : fMul (.int i) (.int j) = some (.d (.int (i * j))) := if_pos (.inr (.inl h))
theorem fMul_l {i j : Int} (h : i.natAbs < 18446744073709551616) : fMul (.int i) (.int j) = some (.d (.int (i * j))) := if_pos (.inl h)
theorem fMod_p {i j : Int} (h : 0 < j) : fMod (.int i) (.int j) = some (.d (.int (i % j))) := if_pos h
theorem fDiv_p {i j : Int} (h : 0 < j) (h2 : j.natAbs.log2 < 9000) : fDiv (.int i) (.int j) = some (.d (.int (i / j))) := if_pos ⟨h, h2⟩
theorem fPow_p {i j : Int} (h : 0 ≤ j ∧ j ≤ 1000000 ∧ i.natAbs < 18446744073709551616) : fPow (.int i) (.int j) = some (.d (.int (i ^ j.toNat))) := if_pos h
theorem fPow18 : fPow (.int 10) (.int 18) = some (.d (.int 1000000000000000000)) := by
  rw [fPow_p (by decide)]; rfl
theorem fPow9 : fPow (.int 10) (.int 9) = some (.d (.int 1000000000)) := by
  rw [fPow_p (by decide)]; rfl
theorem ixN_lit {n : Nat} {i : Int} (h0 : 0 ≤ i) (h1 : i < n) : ixN n i = some i.toNat := by
  unfold ixN
  rw [if_pos h0, if_pos h1]
theorem atI_int {ns : List Int} {p : Int} (h0 : 0 ≤ p) (h1 : p < ns.length) : ∃ k, atI (ns.map PyData.int) p = some (.int k) := by
  have h2 : p.toNat < ns.length := by omega
  refine ⟨ns[p.toNat], ?_⟩
  have : atI (ns.map PyData.int) ((p.toNat : Nat) : Int) = some (.int ns[p.toNat]) := atI_nat (by simp [h2])
  rwa [Int.toNat_of_nonneg h0] at this
end Mi
namespace Mi
open PySem L2
/-! ### what is wanted of a run -/
def Wp {α : Type} (r : Res α) (Q : α → Env → Prop) : Prop := ∃ a e, r = .ok a e ∧ Q a e
def WpC (r : CRes) (Q : W → List W → Prop) : Prop := ∃ w outs, r = .ok w outs ∧ Q w outs
theorem wp_ok {α : Type} {a : α} {e : Env} {Q : α → Env → Prop} : Wp (.ok a e) Q ↔ Q a e :=
  ⟨fun ⟨b, f, h, q⟩ => by cases h; exact q, fun q => ⟨a, e, rfl, q⟩⟩
theorem wpC_ok {w : W} {o : List W} {Q : W → List W → Prop} : WpC (.ok w o) Q ↔ Q w o :=
  ⟨fun ⟨b, f, h, q⟩ => by cases h; exact q, fun q => ⟨w, o, rfl, q⟩⟩
theorem wpC_run {np n : Nat} {Ps : List (List Nat)} {P : List Nat} {m : MS} {ws : List W} {Q : W → List W → Prop} (h1 : ws.length = np) (h2 : lpos ws 0 = P) (h3 : Ps.contains P = true) (h : WpC (kF P (m (ws.map some ++ List.replicate (n - np) none))) Q) : WpC (runF np n Ps m ws) Q := by
  rw [run_kF h1 h2 h3]; exact h
theorem WpC.mono {r : CRes} {Q Q' : W → List W → Prop} (h : WpC r Q) (k : ∀ w o, Q w o → Q' w o) : WpC r Q' := let ⟨w, o, e, q⟩ := h; ⟨w, o, e, k w o q⟩
theorem Wp.mono {α : Type} {r : Res α} {Q Q' : α → Env → Prop} (h : Wp r Q) (k : ∀ w o, Q w o → Q' w o) : Wp r Q' := let ⟨w, o, e, q⟩ := h; ⟨w, o, e, k w o q⟩
def ct1 : Option W → Option (List W) → Option (List W)
  | some w, some r => if isO w = true then some (w :: r) else none
  | _, _ => none
theorem cont_n {e : Env} : contO e [] = some [] := rfl
theorem cont_c {e : Env} {i : Nat} {is : List Nat} : contO e (i :: is) = ct1 (e.getD i none) (contO e is) := by
  show (match e.getD i none with | some w => if isO w = true then (match contO e is with | some r => some (w :: r) | none => none) else none | none => none) = _
  cases e.getD i none with
  | none => rfl
  | some w =>
    cases hc : contO e is with
    | none => cases w <;> rfl
    | some r => rfl
theorem ct1_s {w : W} {r : List W} : ct1 (some w) (some r) = if isO w = true then some (w :: r) else none := rfl
/-- a loop by what holds between its turns (no break, no return) -/
theorem forL_inv {tg : Tg} {b : MS} (Inv : List D → Env → Prop) {xs : List D} {e : Env} (h0 : Inv [] e)
    (step : ∀ pre x post e, xs = pre ++ x :: post → Inv pre e → ∃ e0, tg x e = some e0 ∧ Wp (b e0) fun o e1 => (o = .nx ∨ o = .ct) ∧ Inv (pre ++ [x]) e1) : ∃ e', forL tg b xs e = .ok .nx e' ∧ Inv xs e' := by
  have main : ∀ (post pre : List D) (e : Env), xs = pre ++ post → Inv pre e → ∃ e', forL tg b post e = .ok .nx e' ∧ Inv xs e' := by
    intro post
    induction post with
    | nil => intro pre e h i; rw [List.append_nil] at h; subst h; exact ⟨e, rfl, i⟩
    | cons x post ih =>
      intro pre e h i
      obtain ⟨e0, h1, o, e1, h2, ho, i1⟩ := step pre x post e h i
      obtain ⟨e', h3, i'⟩ := ih (pre ++ [x]) e1 (by rw [h]; simp) i1
      refine ⟨e', ?_, i'⟩
      rw [ev_forC, h1]
      show kFor1 tg b post (b e0) = _
      rw [h2]
      rcases ho with rfl | rfl
      · exact h3
      · exact h3
  exact main xs [] e rfl h0
/-- a comprehension by what holds between its turns: Inv of the items so far, of what is made so far -/
theorem cmpL_inv {tg : Tg} {tt : MT} {te : ME} {vs : List Nat} (Inv : List D → List D → Env → Prop) {xs : List D} {e : Env} (h0 : Inv [] [] e)
    (step : ∀ pre x post acc e, xs = pre ++ x :: post → Inv pre acc e → ∃ e0, tg x e = some e0 ∧ Wp (tt e0) fun c e1 => (c = false ∧ Inv (pre ++ [x]) acc (wipeE e1 vs)) ∨ (c = true ∧ Wp (te e1) fun w e2 => Inv (pre ++ [x]) (acc ++ [vw w]) (wipeE e2 vs))) :
    ∃ ds e', cmpL tg tt te vs xs e = .ok ds e' ∧ Inv xs ds e' := by
  have main : ∀ (post pre acc : List D) (e : Env), xs = pre ++ post → Inv pre acc e → ∃ ds e', cmpL tg tt te vs post e = .ok ds e' ∧ Inv xs (acc ++ ds) e' := by
    intro post
    induction post with
    | nil => intro pre acc e h i; rw [List.append_nil] at h; subst h; exact ⟨[], e, rfl, by rw [List.append_nil]; exact i⟩
    | cons x post ih =>
      intro pre acc e h i
      obtain ⟨e0, h1, c, e1, h2, hc⟩ := step pre x post acc e h i
      rw [cmpL_c, h1, kc0_s, h2]
      rcases hc with ⟨rfl, i1⟩ | ⟨rfl, w, e2, h3, i1⟩
      · exact ih (pre ++ [x]) acc _ (by rw [h]; simp) i1
      · obtain ⟨ds, e', h4, i'⟩ := ih (pre ++ [x]) (acc ++ [vw w]) _ (by rw [h]; simp) i1
        refine ⟨vw w :: ds, e', ?_, by simpa using i'⟩
        rw [kc1_t, h3, kc2_ok, h4]; rfl
  obtain ⟨ds, e', h, i⟩ := main xs [] [] e rfl h0
  exact ⟨ds, e', h, by simpa using i⟩
end Mi
namespace Mi
open PySem L2
theorem ixN_4_0 : ixN 4 0 = some 0 := rfl
theorem ixN_4_1 : ixN 4 1 = some 1 := rfl
theorem ixN_4_2 : ixN 4 2 = some 2 := rfl
theorem ixN_4_3 : ixN 4 3 = some 3 := rfl
end Mi
namespace Mi
open PySem L2
theorem fMul_31 {i : Int} : fMul (.int i) (.int 31) = some (.d (.int (i * 31))) := fMul_r (by decide)
theorem fMul_48271 {i : Int} : fMul (.int i) (.int 48271) = some (.d (.int (i * 48271))) := fMul_r (by decide)
theorem fMul_69621 {i : Int} : fMul (.int i) (.int 69621) = some (.d (.int (i * 69621))) := fMul_r (by decide)
end Mi
namespace Mi
open PySem L2
theorem rng_get {lo : Int} {n i : Nat} (h : i < n) : (rng lo n)[i]? = some (.int (lo + (i : Int))) := by
  simp only [rng, List.getElem?_map, List.getElem?_range h, Option.map_some]
theorem rng_len {lo : Int} {n : Nat} : (rng lo n).length = n := by simp [rng]
/-- a loop over a range -/
theorem forR_inv {tg : Tg} {b : MS} {lo : Int} {n : Nat} (Inv : Nat → Env → Prop) {e : Env} (h0 : Inv 0 e)
    (step : ∀ i e, i < n → Inv i e → ∃ e0, tg (.int (lo + (i : Int))) e = some e0 ∧ Wp (b e0) fun o e1 => (o = .nx ∨ o = .ct) ∧ Inv (i + 1) e1) : ∃ e', forL tg b (rng lo n) e = .ok .nx e' ∧ Inv n e' := by
  obtain ⟨e', h, i⟩ := forL_inv (tg := tg) (b := b) (xs := rng lo n) (fun pre e => Inv pre.length e) h0 fun pre x post e he hi => by
    have hl : pre.length < n := by
      have := congrArg List.length he
      rw [rng_len, List.length_append, List.length_cons] at this
      omega
    have hx : x = .int (lo + (pre.length : Int)) := by
      have h1 := rng_get (lo := lo) hl
      rw [he, List.getElem?_append_right (Nat.le_refl _)] at h1
      simpa using h1
    subst hx
    obtain ⟨e0, h1, h2⟩ := step pre.length e hl hi
    refine ⟨e0, h1, h2.mono fun o e1 q => ⟨q.1, ?_⟩⟩
    rw [List.length_append]
    exact q.2
  rw [rng_len] at i
  exact ⟨e', h, i⟩
/-- a comprehension over a range -/
theorem cmpR_inv {tg : Tg} {tt : MT} {te : ME} {vs : List Nat} {lo : Int} {n : Nat} (Inv : Nat → List D → Env → Prop) {e : Env} (h0 : Inv 0 [] e)
    (step : ∀ i acc e, i < n → Inv i acc e → ∃ e0, tg (.int (lo + (i : Int))) e = some e0 ∧ Wp (tt e0) fun c e1 => (c = false ∧ Inv (i + 1) acc (wipeE e1 vs)) ∨ (c = true ∧ Wp (te e1) fun w e2 => Inv (i + 1) (acc ++ [vw w]) (wipeE e2 vs))) :
    ∃ ds e', cmpL tg tt te vs (rng lo n) e = .ok ds e' ∧ Inv n ds e' := by
  obtain ⟨ds, e', h, i⟩ := cmpL_inv (tg := tg) (tt := tt) (te := te) (vs := vs) (xs := rng lo n) (fun pre acc e => Inv pre.length acc e) h0 fun pre x post acc e he hi => by
    have hl : pre.length < n := by
      have := congrArg List.length he
      rw [rng_len, List.length_append, List.length_cons] at this
      omega
    have hx : x = .int (lo + (pre.length : Int)) := by
      have h1 := rng_get (lo := lo) hl
      rw [he, List.getElem?_append_right (Nat.le_refl _)] at h1
      simpa using h1
    subst hx
    obtain ⟨e0, h1, h2⟩ := step pre.length acc e hl hi
    have e2 : (pre ++ [PyData.int (lo + (pre.length : Int))]).length = pre.length + 1 := by simp
    refine ⟨e0, h1, h2.mono fun c e1 q => ?_⟩
    rw [e2]
    exact q
  rw [rng_len] at i
  exact ⟨ds, e', h, i⟩
theorem wp_bool {c : Bool} {e : Env} {Q : Bool → Env → Prop} (h1 : c = true → Q true e) (h2 : c = false → Q false e) : Wp (.ok c e) Q := by
  cases c with
  | true => exact wp_ok.mpr (h1 rfl)
  | false => exact wp_ok.mpr (h2 rfl)
theorem atI_get {ds : List D} {d : D} {j : Nat} (h : ds[j]? = some d) : atI ds (j : Int) = some d := atI_nat h
end Mi
namespace Mi
open PySem L2
theorem mApp_s {xs : List D} {d : D} (h : xs.length < 16777216) : mApp xs [d] = some (.d .none, xs ++ [d]) := if_pos h
theorem mIns_s {xs : List D} {i : Int} {d : D} (h : xs.length < 16777216) (h0 : 0 ≤ i) (h1 : i < 9223372036854775808) : mIns xs [.int i, d] = some (.d .none, xs.take i.toNat ++ d :: xs.drop i.toNat) := if_pos ⟨h, h0, h1⟩
end Mi
namespace Mi
open PySem L2
theorem truD_l {xs : List D} : truD (.list xs) = some (!xs.isEmpty) := rfl
theorem truD_t {xs : List D} : truD (.tuple xs) = some (!xs.isEmpty) := rfl
theorem truD_b {b : Bool} : truD (.bool b) = some b := rfl
theorem truD_n : truD .none = some false := rfl
theorem atI_map {α : Type} (f : α → D) (l : List α) {k : Int} (h0 : 0 ≤ k) (h1 : k < l.length) : ∃ x ∈ l, atI (l.map f) k = some (f x) := by
  have h2 : k.toNat < l.length := by omega
  refine ⟨l[k.toNat], List.getElem_mem h2, ?_⟩
  have : atI (l.map f) ((k.toNat : Nat) : Int) = some (f l[k.toNat]) := atI_nat (by simp [h2])
  rwa [Int.toNat_of_nonneg h0] at this
end Mi
namespace Mi
open PySem L2
/-- a comprehension that maps -/
theorem cmpL_map {tg : Tg} {tt : MT} {te : ME} {vs : List Nat} {f : D → D} {e : Env} : ∀ {xs : List D}, (∀ x ∈ xs, ∃ e0, tg x e = some e0 ∧ Wp (tt e0) fun c e1 => c = true ∧ Wp (te e1) fun w e2 => vw w = f x ∧ wipeE e2 vs = e) → cmpL tg tt te vs xs e = .ok (xs.map f) e
  | [], _ => rfl
  | x :: xs, h => by
    obtain ⟨e0, h1, c, e1, h2, rfl, w, e2, h3, h4, h5⟩ := h x List.mem_cons_self
    rw [cmpL_c, h1, kc0_s, h2, kc1_t, h3, kc2_ok, h5, cmpL_map fun y hy => h y (List.mem_cons_of_mem _ hy), h4]
    rfl
/-- a loop that folds a state of one's own -/
theorem forL_fold {α β : Type} {tg : Tg} {b : MS} {dat : α → D} {step : β → α → β} {env : β → Env → Prop} {P : β → Prop} : ∀ {xs : List α} {s : β} {e : Env}, env s e → P s → (∀ (x : α) (s : β) (e : Env), x ∈ xs → P s → env s e → P (step s x) ∧ ∃ e0, tg (dat x) e = some e0 ∧ Wp (b e0) fun o e1 => (o = .nx ∨ o = .ct) ∧ env (step s x) e1) →
    ∃ e', forL tg b (xs.map dat) e = .ok .nx e' ∧ env (xs.foldl step s) e' ∧ P (xs.foldl step s)
  | [], s, e, he, hp, _ => ⟨e, rfl, he, hp⟩
  | x :: xs, s, e, he, hp, h => by
    obtain ⟨hp1, e0, h1, o, e1, h2, ho, h3⟩ := h x s e List.mem_cons_self hp he
    obtain ⟨e', h4, h5, h6⟩ := forL_fold (xs := xs) h3 hp1 fun y s e hy => h y s e (List.mem_cons_of_mem _ hy)
    refine ⟨e', ?_, h5, h6⟩
    rw [List.map_cons, ev_forC, h1]
    show kFor1 tg b (xs.map dat) (b e0) = _
    rw [h2]
    rcases ho with rfl | rfl <;> exact h4
theorem ev_aug {i : Nat} {g : Int → Int → Int} {m : ME} {e : Env} : sAug i g m e = kAug i g (e.getD i none) (m e) := rfl
theorem kAug_ok {i : Nat} {g : Int → Int → Int} {x y : Int} {e : Env} : kAug i g (some (.d (.int x))) (.ok (.d (.int y)) e) = .ok .nx (e.set i (some (.d (.int (g x y))))) := rfl
def kEn : Res W → Res (List D)
  | .ok w e => (match vw w with
    | .tuple xs => .ok (enumD 0 xs) e
    | _ => .no)
  | .ex x e => .ex x e
  | .no => .no
theorem ev_en {m : ME} {e : Env} : iEnT m e = kEn (m e) := by unfold iEnT; cases m e <;> rfl
theorem kEn_t {xs : List D} {e : Env} : kEn (.ok (.d (.tuple xs)) e) = .ok (enumD 0 xs) e := rfl
theorem fIs_int {n : String} {i : Int} : fIs n (.int i) = some (.d (.bool (isTy (.int i) n))) := rfl
theorem fIs_bool {n : String} {i : Bool} : fIs n (.bool i) = some (.d (.bool (isTy (.bool i) n))) := rfl
theorem fIs_none {n : String} : fIs n .none = some (.d (.bool (isTy .none n))) := rfl
theorem fIs_str {n : String} {i : Str} : fIs n (.str i) = some (.d (.bool (isTy (.str i) n))) := rfl
theorem fIs_list {n : String} {i : List D} : fIs n (.list i) = some (.d (.bool (isTy (.list i) n))) := rfl
theorem fIs_tuple {n : String} {i : List D} : fIs n (.tuple i) = some (.d (.bool (isTy (.tuple i) n))) := rfl
theorem isTy_int_int {i : Int} : isTy (.int i) "int" = true := rfl
theorem isTy_int_bool {i : Int} : isTy (.int i) "bool" = false := rfl
theorem isTy_tuple_tuple {i : List D} : isTy (.tuple i) "tuple" = true := rfl
end Mi

namespace Mi
open PySem L2
/-! ### slices, pop, extend -/
def kP1 : Res W → Res (Option Int)
  | .ok w e => (match vw w with
    | .int i => .ok (some i) e
    | _ => .no)
  | .ex x e => .ex x e
  | .no => .no
def kSl3 (r : Nat ⊕ W) (l : Option Int) : Res (Option Int) → Res W
  | .ok u e => g1 (fSl l u) e (gv e r)
  | .ex x e => .ex x e
  | .no => .no
def kSl2 (r : Nat ⊕ W) (hi : Option ME) : Res (Option Int) → Res W
  | .ok l e => kSl3 r l (evP hi e)
  | .ex x e => .ex x e
  | .no => .no
def kSl (lo hi : Option ME) : Res (Nat ⊕ W) → Res W
  | .ok r e => kSl2 r hi (evP lo e)
  | .ex x e => .ex x e
  | .no => .no
section
variable {e : Env}
theorem ev_pN : evP none e = .ok none e := rfl
theorem ev_pS {m : ME} : evP (some m) e = kP1 (m e) := by
  show bnd (m e) _ = _
  cases m e <;> rfl
theorem kP1_i {i : Int} : kP1 (.ok (.d (.int i)) e) = .ok (some i) e := rfl
theorem ev_sl {o : Opd} {lo hi : Option ME} : eSl o lo hi e = kSl lo hi (o.run e) := by
  unfold eSl
  cases o.run e with
  | ok r e1 =>
    show bnd (evP lo e1) _ = kSl2 r hi (evP lo e1)
    cases evP lo e1 with
    | ok l e2 =>
      show bnd (evP hi e2) _ = kSl3 r l (evP hi e2)
      cases evP hi e2 with
      | ok u e3 =>
        show (match gv e3 r with | some d => ofO (fSl l u d) e3 | none => .no) = g1 (fSl l u) e3 (gv e3 r)
        cases gv e3 r <;> rfl
      | ex x e3 => rfl
      | no => rfl
    | ex x e2 => rfl
    | no => rfl
  | ex x e1 => rfl
  | no => rfl
theorem kSl_ok {lo hi : Option ME} {r : Nat ⊕ W} : kSl lo hi (.ok r e) = kSl2 r hi (evP lo e) := rfl
theorem kSl2_ok {hi : Option ME} {r : Nat ⊕ W} {l : Option Int} : kSl2 r hi (.ok l e) = kSl3 r l (evP hi e) := rfl
theorem kSl3_ok {r : Nat ⊕ W} {l u : Option Int} : kSl3 r l (.ok u e) = g1 (fSl l u) e (gv e r) := rfl
theorem fSl_l {xs : List D} {l u : Option Int} : fSl l u (.list xs) = some (.l (cutD xs l u)) := rfl
theorem fSl_t {xs : List D} {l u : Option Int} : fSl l u (.tuple xs) = some (.d (.tuple (cutD xs l u))) := rfl
theorem fRev_l {xs : List D} : fRev (.list xs) = some (.l xs.reverse) := rfl
theorem fRev_t {xs : List D} : fRev (.tuple xs) = some (.d (.tuple xs.reverse)) := rfl
theorem fAdd_t {xs ys : List D} (h : xs.length + ys.length ≤ 16777216) : fAdd (.tuple xs) (.tuple ys) = some (.d (.tuple (xs ++ ys))) := if_pos h
theorem fAdd_l {xs ys : List D} (h : xs.length + ys.length ≤ 16777216) : fAdd (.list xs) (.list ys) = some (.l (xs ++ ys)) := if_pos h
theorem mExt_l {xs ys : List D} (h : xs.length + ys.length ≤ 16777216) : mExt xs [.list ys] = some (.d .none, xs ++ ys) := if_pos h
theorem mExt_t {xs ys : List D} (h : xs.length + ys.length ≤ 16777216) : mExt xs [.tuple ys] = some (.d .none, xs ++ ys) := if_pos h
theorem mPop_s {xs : List D} {x : D} : mPop (xs ++ [x]) [] = some (.d x, xs) := by simp [mPop]
theorem cutD_to {xs : List D} {k : Nat} : cutD xs none (some (k : Int)) = xs.take k := by
  unfold cutD
  rw [HT.sIx_nat]
  show (xs.drop 0).take (min k xs.length - 0) = _
  rw [List.drop_zero, Nat.sub_zero]
  by_cases h : k ≤ xs.length
  · rw [Nat.min_eq_left h]
  · rw [Nat.min_eq_right (by omega), List.take_of_length_le (by omega), List.take_of_length_le (by omega)]
theorem cutD_from {xs : List D} {k : Nat} : cutD xs (some (k : Int)) none = xs.drop k := by
  unfold cutD
  rw [HT.sIx_nat]
  show (xs.drop (min k xs.length)).take (xs.length - min k xs.length) = _
  by_cases h : k ≤ xs.length
  · rw [Nat.min_eq_left h, List.take_of_length_le (by simp)]
  · rw [Nat.min_eq_right (by omega), List.drop_eq_nil_of_le (by omega), List.drop_eq_nil_of_le (by omega)]
    simp
theorem cutD_mid {xs : List D} {j k : Nat} : cutD xs (some (j : Int)) (some (k : Int)) = (xs.take k).drop j := by
  unfold cutD
  rw [HT.sIx_nat, HT.sIx_nat]
  apply List.ext_getElem?
  intro i
  simp only [List.getElem?_take, List.getElem?_drop]
  by_cases h : j + i < k
  · rw [if_pos h]
    by_cases h2 : j + i < xs.length
    · rw [if_pos (by omega), show min j xs.length + i = j + i by omega]
    · rw [List.getElem?_eq_none (l := xs) (i := j + i) (by omega)]
      split
      · rw [List.getElem?_eq_none (by omega)]
      · rfl
  · rw [if_neg h]
    split
    · rw [List.getElem?_eq_none (by omega)]
    · rfl
end
end Mi
namespace Mi
open PySem L2
/-- a loop over typed items, by what holds between its turns -/
theorem forT_inv {α : Type} {dat : α → D} {tg : Tg} {b : MS} {xs : List α} (Inv : List α → Env → Prop) {e : Env} (h0 : Inv [] e)
    (step : ∀ pre x post e, xs = pre ++ x :: post → Inv pre e → ∃ e0, tg (dat x) e = some e0 ∧ Wp (b e0) fun o e1 => (o = .nx ∨ o = .ct) ∧ Inv (pre ++ [x]) e1) : ∃ e', forL tg b (xs.map dat) e = .ok .nx e' ∧ Inv xs e' := by
  have main : ∀ (post pre : List α) (e : Env), xs = pre ++ post → Inv pre e → ∃ e', forL tg b (post.map dat) e = .ok .nx e' ∧ Inv xs e' := by
    intro post
    induction post with
    | nil => intro pre e h i; rw [List.append_nil] at h; subst h; exact ⟨e, rfl, i⟩
    | cons x post ih =>
      intro pre e h i
      obtain ⟨e0, h1, o, e1, h2, ho, i1⟩ := step pre x post e h i
      obtain ⟨e', h3, i'⟩ := ih (pre ++ [x]) e1 (by rw [h]; simp) i1
      refine ⟨e', ?_, i'⟩
      rw [List.map_cons, ev_forC, h1]
      show kFor1 tg b _ (b e0) = _
      rw [h2]
      rcases ho with rfl | rfl
      · exact h3
      · exact h3
  exact main xs [] e rfl h0
/-- .. where a turn may return -/
theorem forT_rt {α : Type} {dat : α → D} {tg : Tg} {b : MS} {xs : List α} (Inv : List α → Env → Prop) (R : W → Env → Prop) {e : Env} (h0 : Inv [] e)
    (step : ∀ pre x post e, xs = pre ++ x :: post → Inv pre e → ∃ e0, tg (dat x) e = some e0 ∧ Wp (b e0) fun o e1 => ((o = .nx ∨ o = .ct) ∧ Inv (pre ++ [x]) e1) ∨ ∃ w, o = .rt w ∧ R w e1) :
    (∃ e', forL tg b (xs.map dat) e = .ok .nx e' ∧ Inv xs e') ∨ ∃ w e', forL tg b (xs.map dat) e = .ok (.rt w) e' ∧ R w e' := by
  have main : ∀ (post pre : List α) (e : Env), xs = pre ++ post → Inv pre e → (∃ e', forL tg b (post.map dat) e = .ok .nx e' ∧ Inv xs e') ∨ ∃ w e', forL tg b (post.map dat) e = .ok (.rt w) e' ∧ R w e' := by
    intro post
    induction post with
    | nil => intro pre e h i; rw [List.append_nil] at h; subst h; exact .inl ⟨e, rfl, i⟩
    | cons x post ih =>
      intro pre e h i
      obtain ⟨e0, h1, o, e1, h2, ho⟩ := step pre x post e h i
      rw [List.map_cons, ev_forC, h1]
      show (∃ e', kFor1 tg b (post.map dat) (b e0) = _ ∧ _) ∨ ∃ w e', kFor1 tg b (post.map dat) (b e0) = _ ∧ _
      rw [h2]
      rcases ho with ⟨ho, i1⟩ | ⟨w, rfl, r⟩
      · have := ih (pre ++ [x]) e1 (by rw [h]; simp) i1
        rcases ho with rfl | rfl
        · exact this
        · exact this
      · exact .inr ⟨w, e1, rfl, r⟩
  exact main xs [] e rfl h0
/-- .. by a step of one's own that may return -/
inductive Stp (β γ : Type) where
  | go (s : β)
  | done (r : γ)
def runS {α β γ : Type} (step : β → α → Stp β γ) : List α → β → Stp β γ
  | [], s => .go s
  | x :: xs, s => match step s x with
    | .go s' => runS step xs s'
    | .done r => .done r
theorem forT_step {α β γ : Type} {dat : α → D} {tg : Tg} {b : MS} {step : β → α → Stp β γ} {env : β → Env → Prop} {out : γ → W} {P : β → Prop} : ∀ {xs : List α} {s : β} {e : Env}, env s e → P s →
    (∀ (x : α) (s : β) (e : Env), x ∈ xs → P s → env s e → ∃ e0, tg (dat x) e = some e0 ∧ Wp (b e0) fun o e1 => match step s x with
      | .go s' => (o = .nx ∨ o = .ct) ∧ env s' e1 ∧ P s'
      | .done r => o = .rt (out r)) →
    Wp (forL tg b (xs.map dat) e) fun o e' => match runS step xs s with
      | .go s' => o = .nx ∧ env s' e' ∧ P s'
      | .done r => o = .rt (out r)
  | [], s, e, he, hp, _ => ⟨.nx, e, rfl, rfl, he, hp⟩
  | x :: xs, s, e, he, hp, h => by
    obtain ⟨e0, h1, o, e1, h2, ho⟩ := h x s e List.mem_cons_self hp he
    rw [List.map_cons, ev_forC, h1]
    show Wp (kFor1 tg b (xs.map dat) (b e0)) _
    rw [h2]
    unfold runS
    cases hs : step s x with
    | go s' =>
      rw [hs] at ho
      obtain ⟨ho, h3, h4⟩ := ho
      have ih := forT_step (xs := xs) h3 h4 fun y s e hy => h y s e (List.mem_cons_of_mem _ hy)
      rcases ho with rfl | rfl
      · exact ih
      · exact ih
    | done r =>
      rw [hs] at ho
      subst ho
      exact ⟨_, _, rfl, rfl⟩
end Mi
namespace Mi
open PySem L2
/-! ### steps under a condition -/
section
variable {e : Env}
theorem kR1_c {j : Int} (h : 0 ≤ j ∧ j < 4611686018427387904) : kR1 (.ok (.d (.int j)) e) = .ok (rng 0 j.toNat) e := by
  rw [kR1_i, if_pos ⟨by omega, h.2⟩]
theorem kR1_n {n : Nat} (h : n < 4611686018427387904) : kR1 (.ok (.d (.int (n : Int))) e) = .ok (rng 0 n) e := by
  rw [kR1_c ⟨by omega, by omega⟩, Int.toNat_natCast]
theorem kR2_c {i j : Int} (h : -4611686018427387904 ≤ i ∧ i < 4611686018427387904 ∧ -4611686018427387904 ≤ j ∧ j < 4611686018427387904) : kR2' (.d (.int i)) (.ok (.d (.int j)) e) = .ok (rng i (j - i).toNat) e := by
  rw [kR2'_i, if_pos h]
theorem kLc_c {tg : Tg} {tt : MT} {te : ME} {vs : List Nat} {xs : List D} (h : xs.length < 16777216) : kLc tg tt te vs (.ok xs e) = kM W.l (cmpL tg tt te vs xs (wipeE e vs)) := by
  rw [kLc_ok, if_pos h]
theorem kRep2_c {xs : List D} {k : Int} (h : -9223372036854775808 ≤ k ∧ k < 9223372036854775808 ∧ xs.length * k.toNat ≤ 16777216) : kRep2 (.l xs) (.ok (.d (.int k)) e) = .ok (.l (List.replicate k.toNat xs).flatten) e := by
  rw [kRep2_i, if_pos h]
theorem kRep2_n {x : D} {n : Nat} (h : n ≤ 16777216) : kRep2 (.l [x]) (.ok (.d (.int (n : Int))) e) = .ok (.l (List.replicate n x)) e := by
  rw [kRep2_c ⟨by omega, by omega, by simp; omega⟩, Int.toNat_natCast]
  simp
theorem ixN_n {n i : Nat} (h : i < n) : ixN n (i : Int) = some i := by
  unfold ixN
  rw [if_pos (by omega), if_pos (by omega)]
  simp
theorem ixN_c {n : Nat} {i : Int} (h : 0 ≤ i ∧ i < n) : ixN n i = some i.toNat := by
  unfold ixN
  rw [if_pos h.1, if_pos h.2]
theorem gPut_s {i : Nat} {w : W} {k : Int} {xs : List D} {j : Nat} (h : ixN xs.length k = some j) : gPut i w (.d (.int k)) e (some (.l xs)) = .ok .nx (e.set i (some (.l (xs.set j (vw w))))) := by
  rw [gPut_l, h]
theorem gPut_n {i : Nat} {w : W} {k : Nat} {xs : List D} (h : k < xs.length) : gPut i w (.d (.int (k : Int))) e (some (.l xs)) = .ok .nx (e.set i (some (.l (xs.set k (vw w))))) := gPut_s (ixN_n h)
theorem gPut_c {i : Nat} {w : W} {k : Int} {xs : List D} (h : 0 ≤ k ∧ k < xs.length) : gPut i w (.d (.int k)) e (some (.l xs)) = .ok .nx (e.set i (some (.l (xs.set k.toNat (vw w))))) := gPut_s (ixN_c h)
theorem gMu_s {f : List D → List D → Option (W × List D)} {i : Nat} {ds xs : List D} {p : W × List D} (h : f xs ds = some p) : gMu f i ds e (some (.l xs)) = .ok p.1 (e.set i (some (.l p.2))) := by
  rw [gMu_l, h]
theorem gMu_app {i : Nat} {d : D} {xs : List D} (h : xs.length < 16777216) : gMu mApp i [d] e (some (.l xs)) = .ok (.d .none) (e.set i (some (.l (xs ++ [d])))) := gMu_s (mApp_s h)
theorem atI_mn {α : Type} (f : α → D) (l : List α) (k : Nat) : atI (l.map f) (k : Int) = (l[k]?).map f := by
  unfold atI
  by_cases h : k < l.length
  · rw [ixN_n (by simpa using h)]
    simp
  · unfold ixN
    rw [if_pos (by omega), if_neg (by simp; omega)]
    rw [List.getElem?_eq_none (by omega)]
    rfl
theorem rep_1 {x : D} : fRepT (.tuple [x]) (.int 1) = some (.d (.tuple [x])) := rfl
theorem rep_n {x : D} {n : Nat} (h0 : 0 < n ∧ n ≤ 1000) : fRepT (.tuple [x]) (.int (n : Int)) = some (.d (.tuple (List.replicate n x))) := by
  show (if (n : Int) = 1 then some (W.d (PyData.tuple [x])) else if 2 ≤ (n : Int) ∧ (n : Int) ≤ 1000 ∧ [x].length ≤ 1000 ∧ [x].isEmpty = false then some (.d (.tuple (List.replicate (n : Int).toNat [x]).flatten)) else none) = _
  by_cases h : n = 1
  · subst h; rfl
  · rw [if_neg (by omega), if_pos ⟨by omega, by omega, by simp, by simp⟩, Int.toNat_natCast]
    simp
/-- a range, as a loop over numbers -/
theorem rng_map {lo : Int} {n : Nat} : rng lo n = (List.range n).map fun (i : Nat) => PyData.int (lo + (i : Int)) := rfl
theorem rng_nat {n : Nat} : rng 0 n = (List.range n).map fun (i : Nat) => PyData.int (i : Int) := by
  unfold rng
  congr 1
  funext i
  rw [Int.zero_add]
end
end Mi
namespace Mi
open PySem L2
/-! ### loops and comprehensions over 0, 1, .. -/
theorem forN_rt {tg : Tg} {b : MS} {n : Nat} (Inv : Nat → Env → Prop) (R : W → Env → Prop) {e : Env} (h0 : Inv 0 e)
    (step : ∀ i e, i < n → Inv i e → ∃ e0, tg (.int (i : Int)) e = some e0 ∧ Wp (b e0) fun o e1 => ((o = .nx ∨ o = .ct) ∧ Inv (i + 1) e1) ∨ ∃ w, o = .rt w ∧ R w e1) :
    (∃ e', forL tg b (rng 0 n) e = .ok .nx e' ∧ Inv n e') ∨ ∃ w e', forL tg b (rng 0 n) e = .ok (.rt w) e' ∧ R w e' := by
  have := forT_rt (dat := fun i : Nat => PyData.int (i : Int)) (tg := tg) (b := b) (xs := List.range n) (fun pre e => Inv pre.length e) R (e := e) h0 fun pre x post e he hi => by
    have hl : pre.length < n := by
      have := congrArg List.length he
      rw [List.length_range, List.length_append, List.length_cons] at this
      omega
    have hx : x = pre.length := by
      have h1 : (List.range n)[pre.length]? = some pre.length := List.getElem?_range hl
      rw [he, List.getElem?_append_right (Nat.le_refl _)] at h1
      simpa using h1
    subst hx
    obtain ⟨e0, h1, h2⟩ := step pre.length e hl hi
    refine ⟨e0, h1, h2.mono fun o e1 q => ?_⟩
    rw [List.length_append]
    exact q
  rw [rng_nat]
  rw [List.length_range] at this
  exact this
theorem forN_inv {tg : Tg} {b : MS} {n : Nat} (Inv : Nat → Env → Prop) {e : Env} (h0 : Inv 0 e)
    (step : ∀ i e, i < n → Inv i e → ∃ e0, tg (.int (i : Int)) e = some e0 ∧ Wp (b e0) fun o e1 => (o = .nx ∨ o = .ct) ∧ Inv (i + 1) e1) :
    ∃ e', forL tg b (rng 0 n) e = .ok .nx e' ∧ Inv n e' := by
  rcases forN_rt (tg := tg) (b := b) (n := n) Inv (fun _ _ => False) h0 fun i e hi h => by
    obtain ⟨e0, h1, h2⟩ := step i e hi h
    exact ⟨e0, h1, h2.mono fun o e1 q => .inl q⟩ with h | ⟨w, e', _, h⟩
  · exact h
  · exact h.elim
/-- a comprehension without a test over typed items, in an environment that stays -/
theorem cmpT_map {α : Type} {dat : α → D} {tg : Tg} {te : ME} {vs : List Nat} {f : α → D} {e : Env} : ∀ {xs : List α}, (∀ x ∈ xs, ∃ e0, tg (dat x) e = some e0 ∧ Wp (te e0) fun w e2 => vw w = f x ∧ wipeE e2 vs = e) → cmpL tg mYes te vs (xs.map dat) e = .ok (xs.map f) e
  | [], _ => rfl
  | x :: xs, h => by
    obtain ⟨e0, h1, w, e2, h3, h4, h5⟩ := h x List.mem_cons_self
    rw [List.map_cons, cmpL_c, h1, kc0_s, ev_yes, kc1_t, h3, kc2_ok, h5, cmpT_map fun y hy => h y (List.mem_cons_of_mem _ hy), h4]
    rfl
/-- .. with a test -/
theorem cmpT_filter {α : Type} {dat : α → D} {tg : Tg} {tt : MT} {te : ME} {vs : List Nat} {p : α → Bool} {f : α → D} {e : Env} : ∀ {xs : List α}, (∀ x ∈ xs, ∃ e0, tg (dat x) e = some e0 ∧ Wp (tt e0) fun c e1 => c = p x ∧ (p x = false → wipeE e1 vs = e) ∧ (p x = true → Wp (te e1) fun w e2 => vw w = f x ∧ wipeE e2 vs = e)) → cmpL tg tt te vs (xs.map dat) e = .ok ((xs.filter p).map f) e
  | [], _ => rfl
  | x :: xs, h => by
    obtain ⟨e0, h1, c, e1, h2, rfl, h3, h4⟩ := h x List.mem_cons_self
    have ih := cmpT_filter fun y hy => h y (List.mem_cons_of_mem _ hy)
    rw [List.map_cons, cmpL_c, h1, kc0_s, h2]
    cases hp : p x with
    | true =>
      obtain ⟨w, e2, h5, h6, h7⟩ := h4 hp
      rw [kc1_t, h5, kc2_ok, h7, ih, h6, List.filter_cons_of_pos hp]
      rfl
    | false =>
      rw [kc1_f, h3 hp, ih, List.filter_cons_of_neg (by rw [hp]; decide)]
theorem cmpN_map {n : Nat} {tg : Tg} {te : ME} {vs : List Nat} {f : Nat → D} {e : Env} (h : ∀ i, i < n → ∃ e0, tg (.int (i : Int)) e = some e0 ∧ Wp (te e0) fun w e2 => vw w = f i ∧ wipeE e2 vs = e) : cmpL tg mYes te vs (rng 0 n) e = .ok ((List.range n).map f) e := by
  rw [rng_nat]
  exact cmpT_map fun i hi => h i (List.mem_range.mp hi)
theorem cmpN_filter {n : Nat} {tg : Tg} {tt : MT} {te : ME} {vs : List Nat} {p : Nat → Bool} {f : Nat → D} {e : Env} (h : ∀ i, i < n → ∃ e0, tg (.int (i : Int)) e = some e0 ∧ Wp (tt e0) fun c e1 => c = p i ∧ (p i = false → wipeE e1 vs = e) ∧ (p i = true → Wp (te e1) fun w e2 => vw w = f i ∧ wipeE e2 vs = e)) : cmpL tg tt te vs (rng 0 n) e = .ok (((List.range n).filter p).map f) e := by
  rw [rng_nat]
  exact cmpT_filter fun i hi => h i (List.mem_range.mp hi)
theorem sSeq_step {a b : MS} {e e' : Env} (h : a e = .ok .nx e') : sSeq a b e = b e' := by unfold sSeq; rw [h]; rfl
theorem mem_P2 {P Q Pl : List Nat} (h : [P, Q].contains Pl = true) : Pl = P ∨ Pl = Q := by simpa using h
theorem mem_P4 {P Q R S Pl : List Nat} (h : [P, Q, R, S].contains Pl = true) : Pl = P ∨ Pl = Q ∨ Pl = R ∨ Pl = S := by simpa using h
theorem kTg_2 {i j : Nat} {a b : D} {e : Env} : kTg (tgT [tgN i, tgN j]) (.ok (.d (.tuple [a, b])) e) = .ok .nx ((e.set i (some (.d a))).set j (some (.d b))) := Eq.trans rfl rfl
theorem kTg_3 {i j k : Nat} {a b c : D} {e : Env} : kTg (tgT [tgN i, tgN j, tgN k]) (.ok (.d (.tuple [a, b, c])) e) = .ok .nx (((e.set i (some (.d a))).set j (some (.d b))).set k (some (.d c))) := Eq.trans rfl rfl
def gMv (i : Nat) (e : Env) : Option W → Res W
  | some w => .ok w (e.set i none)
  | none => .no
theorem ev_mv {i : Nat} {e : Env} : eMv i e = gMv i e (e.getD i none) := by unfold eMv gMv; cases e.getD i none <;> rfl
theorem gMv_s {i : Nat} {e : Env} {w : W} : gMv i e (some w) = .ok w (e.set i none) := rfl
/-! ### Mi17: reversed, ranges as values -/
def kRvA : Res W → Res (List D)
  | .ok w e => (match vw w with
    | .list xs => .ok xs.reverse e
    | .tuple xs => .ok xs.reverse e
    | _ => .no)
  | .ex x e => .ex x e
  | .no => .no
theorem ev_rvA {m : ME} {e : Env} : iRvA m e = kRvA (m e) := by unfold iRvA; cases m e <;> rfl
theorem kRvA_t {xs : List D} {e : Env} : kRvA (.ok (.d (.tuple xs)) e) = .ok xs.reverse e := Eq.trans rfl rfl
theorem kRvA_d {xs : List D} {e : Env} : kRvA (.ok (.d (.list xs)) e) = .ok xs.reverse e := Eq.trans rfl rfl
theorem kRvA_l {xs : List D} {e : Env} : kRvA (.ok (.l xs) e) = .ok xs.reverse e := Eq.trans rfl rfl
def kg1 : Res W → Res (Int × Int)
  | .ok w e => (match vw w with
    | .int j => .ok (0, j) e
    | _ => .no)
  | .ex x e => .ex x e
  | .no => .no
theorem ev_g1 {m : ME} {e : Env} : gR1 m e = kg1 (m e) := by unfold gR1; cases m e <;> rfl
theorem kg1_i {j : Int} {e : Env} : kg1 (.ok (.d (.int j)) e) = .ok (0, j) e := Eq.trans rfl rfl
def kg2 (w : W) : Res W → Res (Int × Int)
  | .ok w2 e => (match vw w with
    | .int i => (match vw w2 with
      | .int j => .ok (i, j) e
      | _ => .no)
    | _ => .no)
  | .ex x e => .ex x e
  | .no => .no
def kg2a (b : ME) : Res W → Res (Int × Int)
  | .ok w e => kg2 w (b e)
  | .ex x e => .ex x e
  | .no => .no
theorem ev_g2 {a b : ME} {e : Env} : gR2 a b e = kg2a b (a e) := by
  unfold gR2
  cases a e with
  | ok w e1 =>
    show bnd (b e1) _ = kg2 w (b e1)
    cases b e1 <;> rfl
  | ex x e1 => rfl
  | no => rfl
theorem kg2a_i {b : ME} {w : W} {e : Env} : kg2a b (.ok w e) = kg2 w (b e) := rfl
theorem kg2_i {i j : Int} {e : Env} : kg2 (.d (.int i)) (.ok (.d (.int j)) e) = .ok (i, j) e := Eq.trans rfl rfl
def kTupR : Res (Int × Int) → Res W
  | .ok p e => if rgOk p.1 p.2 = true then .ok (.d (.tuple (rng p.1 (p.2 - p.1).toNat))) e else .no
  | .ex x e => .ex x e
  | .no => .no
def kLstR : Res (Int × Int) → Res W
  | .ok p e => if rgOk p.1 p.2 = true then .ok (.l (rng p.1 (p.2 - p.1).toNat)) e else .no
  | .ex x e => .ex x e
  | .no => .no
theorem ev_tupR {m : MR} {e : Env} : eTupR m e = kTupR (m e) := by unfold eTupR; cases m e <;> rfl
theorem ev_lstR {m : MR} {e : Env} : eLstR m e = kLstR (m e) := by unfold eLstR; cases m e <;> rfl
theorem kTupR_s {i j : Int} {e : Env} (h : -4611686018427387904 ≤ i ∧ i < 4611686018427387904 ∧ -4611686018427387904 ≤ j ∧ j < 4611686018427387904 ∧ (j - i).toNat ≤ 16777216) : kTupR (.ok (i, j) e) = .ok (.d (.tuple (rng i (j - i).toNat))) e := if_pos (decide_eq_true h)
theorem kLstR_s {i j : Int} {e : Env} (h : -4611686018427387904 ≤ i ∧ i < 4611686018427387904 ∧ -4611686018427387904 ≤ j ∧ j < 4611686018427387904 ∧ (j - i).toNat ≤ 16777216) : kLstR (.ok (i, j) e) = .ok (.l (rng i (j - i).toNat)) e := if_pos (decide_eq_true h)
def kRvR : Res (Int × Int) → Res (List D)
  | .ok p e => if -4611686018427387904 ≤ p.1 ∧ p.1 < 4611686018427387904 ∧ -4611686018427387904 ≤ p.2 ∧ p.2 < 4611686018427387904 then .ok (rng p.1 (p.2 - p.1).toNat).reverse e else .no
  | .ex x e => .ex x e
  | .no => .no
theorem ev_rvR {m : MR} {e : Env} : iRvR m e = kRvR (m e) := by unfold iRvR; cases m e <;> rfl
theorem kRvR_s {i j : Int} {e : Env} (h : -4611686018427387904 ≤ i ∧ i < 4611686018427387904 ∧ -4611686018427387904 ≤ j ∧ j < 4611686018427387904) : kRvR (.ok (i, j) e) = .ok (rng i (j - i).toNat).reverse e := if_pos h
end Mi
set_option Elab.async false
set_option linter.all false
set_option maxRecDepth 100000
set_option maxHeartbeats 4000000
namespace Mi
open PySem L2
/-! ### data that can be compared and shown -/
mutual
def nice : D → Bool
  | .none | .bool _ => true
  | .int i => decide (i.natAbs.log2 < 1000)
  | .str x => (x.cps.toList.all fun c => decide (c < 0x110000)) && decide (x.length ≤ 100)
  | .list xs | .tuple xs => niceAll xs
  | .dict _ => false
def niceAll : List D → Bool
  | [] => true
  | x :: xs => nice x && niceAll xs
end
mutual
def nodes : D → Nat
  | .list xs | .tuple xs => nodesAll xs + 1
  | _ => 1
def nodesAll : List D → Nat
  | [] => 0
  | x :: xs => nodes x + nodesAll xs
end
theorem niceAll_iff : ∀ {xs : List D}, niceAll xs = true ↔ ∀ x ∈ xs, nice x = true
  | [] => by simp [niceAll]
  | x :: xs => by simp [niceAll, niceAll_iff (xs := xs)]
mutual
theorem nice_lay : ∀ d : D, nice d = true → d.canLay0 = true
  | .none, _ => rfl
  | .bool _, _ => rfl
  | .int _, _ => rfl
  | .str x, h => by
    simp only [nice, Bool.and_eq_true] at h
    simp only [PyData.canLay0, PyData.strOk]
    rw [← Array.all_toList]
    exact h.1
  | .list xs, h => by simp only [nice] at h; simp only [PyData.canLay0]; exact nice_layAll xs h
  | .tuple xs, h => by simp only [nice] at h; simp only [PyData.canLay0]; exact nice_layAll xs h
  | .dict _, h => by simp [nice] at h
theorem nice_layAll : ∀ xs : List D, niceAll xs = true → PyData.canLayAll0 xs = true
  | [], _ => rfl
  | x :: xs, h => by
    simp only [niceAll, Bool.and_eq_true] at h
    simp only [PyData.canLayAll0, Bool.and_eq_true]
    exact ⟨nice_lay x h.1, nice_layAll xs h.2⟩
end
mutual
theorem nice_show : ∀ d : D, nice d = true → d.showable = true
  | .none, _ => rfl
  | .bool _, _ => rfl
  | .int i, h => by
    simp only [nice, decide_eq_true_eq] at h
    simp only [PyData.showable, decide_eq_true_eq]
    omega
  | .str x, h => rfl
  | .list xs, h => by simp only [nice] at h; simp only [PyData.showable]; exact nice_showAll xs h
  | .tuple xs, h => by simp only [nice] at h; simp only [PyData.showable]; exact nice_showAll xs h
  | .dict _, h => by simp [nice] at h
theorem nice_showAll : ∀ xs : List D, niceAll xs = true → PyData.showableAll xs = true
  | [], _ => rfl
  | x :: xs, h => by
    simp only [niceAll, Bool.and_eq_true] at h
    simp only [PyData.showableAll, Bool.and_eq_true]
    exact ⟨nice_show x h.1, nice_showAll xs h.2⟩
end
theorem nodes_pos : ∀ d : D, 1 ≤ nodes d
  | .none => Nat.le_refl _
  | .bool _ => Nat.le_refl _
  | .int _ => Nat.le_refl _
  | .str _ => Nat.le_refl _
  | .list xs => by simp [nodes]
  | .tuple xs => by simp [nodes]
  | .dict _ => Nat.le_refl _
mutual
theorem nice_len : ∀ d : D, nice d = true → d.shown.length + 2 ≤ 1007 * nodes d
  | .none, _ => by decide
  | .bool b, _ => by cases b <;> decide
  | .int i, h => by
    simp only [nice, decide_eq_true_eq] at h
    have e := int_text_length_le (k := 1000) (by decide) h
    show (Str.ofString (toString i)).length + 2 ≤ _
    rw [ofString_length]
    simp only [nodes]
    omega
  | .str x, h => by
    simp only [nice, Bool.and_eq_true, decide_eq_true_eq] at h
    have e := StrLaws.reprText_len x fun c hc => by
      have := List.all_eq_true.mp h.1 c hc
      have := of_decide_eq_true this
      omega
    simp only [PyData.shown, nodes]
    omega
  | .list xs, h => by
    simp only [nice] at h
    have e := nice_lenAll xs h
    have e2 := listText_len_le (PyData.shownAll xs)
    have e3 : (PyData.shownAll xs).length = xs.length := shownAll_len xs
    simp only [PyData.shown, nodes]
    omega
  | .tuple xs, h => by
    simp only [nice] at h
    have e := nice_lenAll xs h
    have e2 := tupleText_len_le (PyData.shownAll xs)
    have e3 : (PyData.shownAll xs).length = xs.length := shownAll_len xs
    simp only [PyData.shown, nodes]
    omega
  | .dict _, h => by simp [nice] at h
theorem nice_lenAll : ∀ xs : List D, niceAll xs = true → ((PyData.shownAll xs).map (·.length)).sum + 2 * xs.length ≤ 1007 * nodesAll xs
  | [], _ => by simp [PyData.shownAll, nodesAll]
  | x :: xs, h => by
    simp only [niceAll, Bool.and_eq_true] at h
    have e1 := nice_len x h.1
    have e2 := nice_lenAll xs h.2
    simp only [PyData.shownAll, List.map_cons, List.sum_cons, List.length_cons, nodesAll]
    omega
theorem shownAll_len : ∀ xs : List D, (PyData.shownAll xs).length = xs.length
  | [] => rfl
  | x :: xs => by simp only [PyData.shownAll, List.length_cons, shownAll_len xs]
end
mutual
theorem nice_noD : ∀ d : D, nice d = true → noD d = true
  | .none, _ => rfl
  | .bool _, _ => rfl
  | .int i, h => rfl
  | .str x, h => rfl
  | .list xs, h => by simp only [nice] at h; simp only [noD]; exact nice_noDs xs h
  | .tuple xs, h => by simp only [nice] at h; simp only [noD]; exact nice_noDs xs h
  | .dict _, h => by simp [nice] at h
theorem nice_noDs : ∀ xs : List D, niceAll xs = true → noDs xs = true
  | [], _ => rfl
  | x :: xs, h => by
    simp only [niceAll, Bool.and_eq_true] at h
    simp only [noDs, Bool.and_eq_true]
    exact ⟨nice_noD x h.1, nice_noDs xs h.2⟩
end
theorem nice_shaped {d : D} (h : nice d = true) (h2 : d.depth ≤ 64) : SeqAt.shaped d = true := by
  unfold SeqAt.shaped
  rw [nice_lay d h, decide_eq_true h2]; rfl
theorem eqv_self {d : D} (h : nice d = true) : PyData.eqv d d = true := SeqAt.eqv_refl d (nice_lay d h)
theorem bRepr_nice {d : D} (h : nice d = true) (hn : nodes d ≤ 16000) (h2 : d.depth ≤ 64) : bRepr [d] = some (.d (.str d.shown)) := by
  have := nice_len d h
  exact if_pos ⟨⟨nice_show d h, nice_noD d h⟩, by omega, h2⟩
theorem cEq_nice {x y : D} (hx : nice x = true) (hy : nice y = true) (h1 : x.depth ≤ 64) (h2 : y.depth ≤ 64) : cEq x y = some (PyData.eqv x y) := by
  unfold cEq
  split
  · rfl
  · rw [if_pos ⟨⟨nice_shaped hx h1, nice_noD x hx⟩, nice_shaped hy h2, nice_noD y hy⟩]
end Mi
namespace Mi
open PySem L2
/-- what == may be asked of -/
structure Sh (d : D) : Prop where
  sh : SeqAt.shaped d = true
  nd : noD d = true
theorem Sh.nice {d : D} (h : nice d = true) (h2 : d.depth ≤ 64) : Sh d := ⟨nice_shaped h h2, nice_noD d h⟩
theorem cIn_l {x : D} {ds : List D} (h1 : Sh x) (h2 : Sh (.list ds)) : cIn x (.list ds) = some (ds.any fun z => PyData.eqv z x) := if_pos ⟨⟨h1.sh, h1.nd⟩, h2.sh, h2.nd⟩
theorem cNotIn_l {x : D} {ds : List D} (h1 : Sh x) (h2 : Sh (.list ds)) : cNotIn x (.list ds) = some (!ds.any fun z => PyData.eqv z x) := if_pos ⟨⟨h1.sh, h1.nd⟩, h2.sh, h2.nd⟩
theorem cEq_sh {x y : D} (hx : Sh x) (hy : Sh y) : cEq x y = some (PyData.eqv x y) := by
  unfold cEq
  split
  · rfl
  · rw [if_pos ⟨⟨hx.sh, hx.nd⟩, hy.sh, hy.nd⟩]
theorem cNe_sh {x y : D} (hx : Sh x) (hy : Sh y) : cNe x y = some (!PyData.eqv x y) := by
  unfold cNe
  split
  · rfl
  · rw [if_pos ⟨⟨hx.sh, hx.nd⟩, hy.sh, hy.nd⟩]
end Mi
set_option Elab.async false
set_option linter.all false
set_option maxRecDepth 100000
set_option maxHeartbeats 4000000
namespace Mi
open PySem L2
/-! ### equality and order of data without truth values and dicts -/
mutual
def plain : D → Bool
  | .none | .int _ | .str _ => true
  | .bool _ | .dict _ => false
  | .list xs | .tuple xs => plains xs
def plains : List D → Bool
  | [] => true
  | x :: xs => plain x && plains xs
end
mutual
theorem eqv_plain : ∀ x y : D, plain x = true → plain y = true → PyData.eqv x y = true → x = y
  | .none, .none, _, _, _ => rfl
  | .int i, .int j, _, _, h => by simp only [PyData.eqv, beq_iff_eq] at h; rw [h]
  | .str i, .str j, _, _, h => by simp only [PyData.eqv, beq_iff_eq] at h; rw [h]
  | .list xs, .list ys, h1, h2, h => by
    simp only [PyData.eqv] at h
    rw [eqvAll_plain xs ys (by simpa only [plain] using h1) (by simpa only [plain] using h2) h]
  | .tuple xs, .tuple ys, h1, h2, h => by
    simp only [PyData.eqv] at h
    rw [eqvAll_plain xs ys (by simpa only [plain] using h1) (by simpa only [plain] using h2) h]
  | .none, .bool _, _, _, h | .none, .int _, _, _, h | .none, .str _, _, _, h | .none, .list _, _, _, h | .none, .tuple _, _, _, h | .none, .dict _, _, _, h => by simp [PyData.eqv] at h
  | .bool _, _, h, _, _ => by simp [plain] at h
  | .dict _, _, h, _, _ => by simp [plain] at h
  | .int _, .none, _, _, h | .int _, .str _, _, _, h | .int _, .list _, _, _, h | .int _, .tuple _, _, _, h | .int _, .dict _, _, _, h => by simp [PyData.eqv] at h
  | .int _, .bool _, _, h, _ => by simp [plain] at h
  | .str _, .none, _, _, h | .str _, .bool _, _, _, h | .str _, .int _, _, _, h | .str _, .list _, _, _, h | .str _, .tuple _, _, _, h | .str _, .dict _, _, _, h => by simp [PyData.eqv] at h
  | .list _, .none, _, _, h | .list _, .bool _, _, _, h | .list _, .int _, _, _, h | .list _, .str _, _, _, h | .list _, .tuple _, _, _, h | .list _, .dict _, _, _, h => by simp [PyData.eqv] at h
  | .tuple _, .none, _, _, h | .tuple _, .bool _, _, _, h | .tuple _, .int _, _, _, h | .tuple _, .str _, _, _, h | .tuple _, .list _, _, _, h | .tuple _, .dict _, _, _, h => by simp [PyData.eqv] at h
theorem eqvAll_plain : ∀ xs ys : List D, plains xs = true → plains ys = true → PyData.eqvAll xs ys = true → xs = ys
  | [], [], _, _, _ => rfl
  | x :: xs, y :: ys, h1, h2, h => by
    simp only [plains, Bool.and_eq_true] at h1 h2
    simp only [PyData.eqvAll, Bool.and_eq_true] at h
    rw [eqv_plain x y h1.1 h2.1 h.1, eqvAll_plain xs ys h1.2 h2.2 h.2]
  | [], _ :: _, _, _, h => by simp [PyData.eqvAll] at h
  | _ :: _, [], _, _, h => by simp [PyData.eqvAll] at h
end
mutual
theorem eqv_rfl : ∀ x : D, plain x = true → PyData.eqv x x = true
  | .none, _ => by simp [PyData.eqv]
  | .int i, _ => by simp [PyData.eqv]
  | .str i, _ => by simp [PyData.eqv]
  | .list xs, h => by simp only [plain] at h; simp only [PyData.eqv]; exact eqvAll_rfl xs h
  | .tuple xs, h => by simp only [plain] at h; simp only [PyData.eqv]; exact eqvAll_rfl xs h
  | .bool _, h => by simp [plain] at h
  | .dict _, h => by simp [plain] at h
theorem eqvAll_rfl : ∀ xs : List D, plains xs = true → PyData.eqvAll xs xs = true
  | [], _ => by simp [PyData.eqvAll]
  | x :: xs, h => by
    simp only [plains, Bool.and_eq_true] at h
    simp only [PyData.eqvAll, Bool.and_eq_true]
    exact ⟨eqv_rfl x h.1, eqvAll_rfl xs h.2⟩
end
theorem eqv_iff {x y : D} (hx : plain x = true) (hy : plain y = true) : PyData.eqv x y = true ↔ x = y :=
  ⟨eqv_plain x y hx hy, fun h => by subst h; exact eqv_rfl x hx⟩
theorem plains_iff : ∀ {xs : List D}, plains xs = true ↔ ∀ x ∈ xs, plain x = true
  | [] => by simp [plains]
  | x :: xs => by simp [plains, plains_iff (xs := xs)]
/-- the order of tuples, item by item -/
theorem dlt_nn : PySem.W.dataLt (.tuple []) (.tuple []) = false := by
  rw [PySem.W.dataLt_tuple]; rfl
theorem dlt_nc {y : D} {ys : List D} : PySem.W.dataLt (.tuple []) (.tuple (y :: ys)) = true := by
  rw [PySem.W.dataLt_tuple, PySem.W.keyToksAll, PySem.W.keyToksAll]; rfl
theorem dlt_cn {y : D} {ys : List D} : PySem.W.dataLt (.tuple (y :: ys)) (.tuple []) = false := by
  rw [PySem.W.dataLt_tuple, PySem.W.keyToksAll, PySem.W.keyToksAll]; rfl
theorem dlt_cc {x y : D} {xs ys : List D} (h : PySem.W.alike x y = true) : PySem.W.dataLt (.tuple (x :: xs)) (.tuple (y :: ys)) = if PyData.eqv x y = true then PySem.W.dataLt (.tuple xs) (.tuple ys) else PySem.W.dataLt x y := by
  rw [PySem.W.dataLt_tuple]
  cases he : PyData.eqv x y with
  | true => rw [if_pos rfl, PySem.W.dataLt_all_yes h he, PySem.W.dataLt_tuple]
  | false => rw [if_neg (by decide), PySem.W.dataLt_all_no h he]
theorem dlt_ii {a b : Int} : PySem.W.dataLt (.int a) (.int b) = decide (a < b) := PySem.W.dataLt_int a b
/-- tuples of ints -/
theorem dlt_ints {a b : Int} {xs ys : List D} : PySem.W.dataLt (.tuple (.int a :: xs)) (.tuple (.int b :: ys)) = if a = b then PySem.W.dataLt (.tuple xs) (.tuple ys) else decide (a < b) := by
  rw [dlt_cc (by rfl)]
  simp only [PyData.eqv, beq_iff_eq]
  split <;> simp_all [dlt_ii]
end Mi
set_option Elab.async false
set_option linter.all false
set_option maxRecDepth 100000
set_option maxHeartbeats 4000000
namespace Mi
open PySem L2
local macro_rules | `(tactic| push_cast [$hs,*]) => `(tactic| simp -implicitDefEqProofs (disch := first | omega | (simp only [rng_len, List.length_map, List.length_append, List.length_range, List.length_replicate, List.length_cons, List.length_nil, List.length_set, List.length_reverse, List.length_zipIdx]; omega)) only [ev_seq, ev_if, ev_ifE, ev_nx, ev_bk, ev_ct, ev_E, ev_set, ev_tg, ev_ret, ev_retO, ev_retN, ev_put, ev_for, ev_C, ev_V, ev_vr, ev_ex, ev_o1, ev_o2, ev_t2, ev_tru, ev_and, ev_or, ev_not, ev_yes, ev_andE, ev_orE, ev_notE, ev_LN, ev_LC, ev_B, ev_TN, ev_TC, ev_tup, ev_lst, ev_GN, ev_GV, ev_GR, ev_call, ev_mu, ev_lc, ev_any, ev_r1, ev_r2, ev_rep, kS_nx, kS_bk, kS_ct, kS_rt, kIf_t, kIf_f, kM_ok, kSet_ok, kAnd_t, kAnd_f, kOr_t, kOr_f, kAndE_t, kAndE_f, kOrE_t, kOrE_f, kNotE_b, oVr_s, kO2_ok, kO2'_ok, g2_ss, gv_l, gv_r, kL_ok, kL'_ok, kB_ok, gB_s, gvL_n, gvL_c, kV_ss, kT_ok, kT'_ok, kG_ok, kG'_ok, gG_l, gG_t, gG_d, kC_ok, kC1_s, kC2_ok, kP_s, take_n, take_l, take_r, put_n, put_l, put_r, pt1_s, kPut1_ok, kPut2_ok, isL_l, kMu_ok, kFor_ok, kSeqI_l, kSeqI_l', kSeqI_t, kR2_ok, kRep_ok, rV_d, rV_l, cont_n, cont_c, ct1_s, wp_ok, wpC_ok, atI_0, atI_1, atI_2, atI_3, fIx_l, fIx_t, List.length_cons, List.length_nil, Nat.zero_add, Nat.reduceAdd, Int.reduceLT, Int.reduceLE, Int.reduceAdd, Int.reduceMul, Int.reduceToNat, Int.reduceNeg, Int.reduceSub, Nat.reduceLT, Nat.reduceLeDiff, Nat.reduceMul, gt_iff_lt, ge_iff_le, ixN_4_0, ixN_4_1, ixN_4_2, ixN_4_3, wipe_n, wipe_c, tgN_r, tgT_r, tgL_n, tgL_c, ofO_some, vw_d, vw_l, fAddI_int, fSub_int, fNeg_int, fMod_p, fMul_31, fMul_48271, fMul_69621, fPow18, fPow9, cCmp_int, cEq_int, cNe_int, cEq_str, cNe_str, cOrd_int, ev_aug, kAug_ok, ev_en, kEn_t, fIs_int, fIs_bool, fIs_none, fIs_str, fIs_list, fIs_tuple, isTy_int_int, isTy_int_bool, isTy_tuple_tuple, cIs_none, cIsNot_none, isNone_none, isNone_int, isNone_str, isNone_tuple, isNone_list, isNone_bool, truD_l, truD_t, truD_b, truD_n, bLen_l, bLen_t, bAbs_int, bInt_int, bMax_int, bMin_int, bList_l, bList_t, bTuple_l, bTuple_t, Option.map_some, Option.bind_some, List.getD_cons_zero, List.getD_cons_succ, List.set_cons_zero, List.set_cons_succ, if_true, if_false, lB, ↓reduceIte, Bool.not_true, Bool.not_false, kO1_ok, g1_s, kTru_ok, vf_d, vf_l, tk1_s, tkW_s, isO_l, isO_t, kF_ok, endF_r, endF_n, kF_ex, endX_s, rV_t, lpos_n, lpos_l, lpos_t, lpos_d, fAdd_int, ev_pN, ev_pS, kP1_i, ev_sl, kSl_ok, kSl2_ok, kSl3_ok, fSl_l, fSl_t, fRev_l, fRev_t, kR1_c, kR1_n, kR2_c, kLc_c, kRep2_n, gPut_n, gPut_c, gMu_app, rep_n, vw_d, List.length_map, List.length_range, rng_len, Int.toNat_natCast, beq_self_eq_true, Bool.not_true, Bool.not_false, Option.isNone_none, Option.isNone_some, decide_true, decide_false, ev_forN, List.isEmpty_nil, List.isEmpty_cons, kTg_2, kTg_3, ev_mv, gMv_s, ev_rvA, kRvA_t, kRvA_d, kRvA_l, ev_g1, kg1_i, ev_g2, kg2a_i, kg2_i, fNotT_l, fNotT_b, ev_tupR, ev_lstR, kTupR_s, kLstR_s, ev_rvR, kRvR_s, $hs,*])
local macro_rules | `(tactic| walk_at "ev") => `(tactic| simp only [ev_seq, ev_if, ev_ifE, ev_nx, ev_bk, ev_ct, ev_E, ev_set, ev_tg, ev_ret, ev_retO, ev_retN, ev_put, ev_for, ev_C, ev_V, ev_vr, ev_ex, ev_o1, ev_o2, ev_t2, ev_tru, ev_and, ev_or, ev_not, ev_yes, ev_andE, ev_orE, ev_notE, ev_LN, ev_LC, ev_B, ev_TN, ev_TC, ev_tup, ev_lst, ev_GN, ev_GV, ev_GR, ev_call, ev_mu, ev_lc, ev_any, ev_r1, ev_r2, ev_rep, kS_nx, kS_bk, kS_ct, kS_rt, kIf_t, kIf_f, kM_ok, kSet_ok, kAnd_t, kAnd_f, kOr_t, kOr_f, kAndE_t, kAndE_f, kOrE_t, kOrE_f, kNotE_b, oVr_s, kO2_ok, kO2'_ok, g2_ss, gv_l, gv_r, kL_ok, kL'_ok, kB_ok, gB_s, gvL_n, gvL_c, kV_ss, kT_ok, kT'_ok, kG_ok, kG'_ok, gG_l, gG_t, gG_d, kC_ok, kC1_s, kC2_ok, kP_s, take_n, take_l, take_r, put_n, put_l, put_r, pt1_s, kPut1_ok, kPut2_ok, gPut_l, isL_l, kMu_ok, gMu_l, kFor_ok, kLc_ok, kSeqI_l, kSeqI_l', kSeqI_t, kR1_i, kR2_ok, kR2'_i, kRep_ok, kRep2_i, rV_d, rV_l, cont_n, cont_c, ct1_s, wp_ok, wpC_ok, atI_0, atI_1, atI_2, atI_3, fIx_l, fIx_t, List.length_cons, List.length_nil, Nat.zero_add, Nat.reduceAdd, Int.reduceLT, Int.reduceLE, Int.reduceAdd, Int.reduceMul, Int.reduceToNat, Int.reduceNeg, Int.reduceSub, Nat.reduceLT, Nat.reduceLeDiff, Nat.reduceMul, gt_iff_lt, ge_iff_le, ixN_4_0, ixN_4_1, ixN_4_2, ixN_4_3, wipe_n, wipe_c, tgN_r, tgT_r, tgL_n, tgL_c, ofO_some, vw_d, vw_l, fAddI_int, fSub_int, fNeg_int, fMod_p, fMul_31, fMul_48271, fMul_69621, fPow18, fPow9, cCmp_int, cEq_int, cNe_int, cEq_str, cNe_str, cOrd_int, ev_aug, kAug_ok, ev_en, kEn_t, fIs_int, fIs_bool, fIs_none, fIs_str, fIs_list, fIs_tuple, isTy_int_int, isTy_int_bool, isTy_tuple_tuple, cIs_none, cIsNot_none, isNone_none, isNone_int, isNone_str, isNone_tuple, isNone_list, isNone_bool, truD_l, truD_t, truD_b, truD_n, bLen_l, bLen_t, bAbs_int, bInt_int, bMax_int, bMin_int, bList_l, bList_t, bTuple_l, bTuple_t, Option.map_some, Option.bind_some, List.getD_cons_zero, List.getD_cons_succ, List.set_cons_zero, List.set_cons_succ, if_true, if_false, lB, ↓reduceIte, Bool.not_true, Bool.not_false, kO1_ok, g1_s, kTru_ok, vf_d, vf_l, tk1_s, tkW_s, isO_l, isO_t, kF_ok, endF_r, endF_n, kF_ex, endX_s, rV_t, lpos_n, lpos_l, lpos_t, lpos_d, fAdd_int, ev_pN, ev_pS, kP1_i, ev_sl, kSl_ok, kSl2_ok, kSl3_ok, fSl_l, fSl_t, fRev_l, fRev_t])
def M4b0 (C : Orc) : MS :=
 (sSet 1 (eO2 fMod (.ex (eB bInt [(.ex (eO2 fAddI (.ex (eO2 fMul (.vr 1) (.ex (eC (.int 31))))) (.ex (eB bAbs [(.ex (eB bInt [(.vr 2)]))]))))])) (.ex (eC (.int 2147483647)))))
/-- _law_tape -/
def M4 (C : Orc) : MS :=
 (sSeq (sSet 1 (eC (.int 7)))
 (sSeq (sFor (iAny (eV 0)) (tgN 2)
 (M4b0 C))
 (sRetO (eLst [(eB bList [(.vr 0)]), (eC (.int 0)), (eC (.int 0)), (eV 1)]))))
def F4 (C : Orc) : List W → CRes := runF 1 3 [[]] (M4 C)
/-- _law_draw -/
def M5 (C : Orc) : MS :=
 (sSeq (sIf (tO2 cEq (.ex (eO2 fIx (.vr 0) (.ex (eC (.int 2))))) (.ex (eC (.int 0))))
 (sSeq (sSet 2 (eO2 fIx (.vr 0) (.ex (eC (.int 1)))))
 (sSeq (sSet 3 (eC (.int 0)))
 (sSeq (sIf (tO2 cLt (.vr 2) (.ex (eB bLen [(.ex (eO2 fIx (.vr 0) (.ex (eC (.int 0)))))])))
 (sSet 3 (eB bAbs [(.ex (eB bInt [(.ex (eO2 fIx (.ex (eO2 fIx (.vr 0) (.ex (eC (.int 0))))) (.vr 2)))]))]))
 (sSeq (sPut 0 (eC (.int 3)) (eO2 fMod (.ex (eB bInt [(.ex (eO2 fAddI (.ex (eO2 fAddI (.ex (eO2 fMul (.ex (eO2 fIx (.vr 0) (.ex (eC (.int 3))))) (.ex (eC (.int 48271))))) (.vr 2))) (.ex (eC (.int 1)))))])) (.ex (eC (.int 2147483647)))))
 (sSet 3 (eO2 fIx (.vr 0) (.ex (eC (.int 3)))))))
 (sSeq (sPut 0 (eC (.int 1)) (eO2 fAddI (.vr 2) (.ex (eC (.int 1)))))
 (sSeq (sIf (tO2 cLt (.vr 3) (.ex (eO2 fPow (.ex (eC (.int 10))) (.ex (eC (.int 18))))))
 (sSeq (sSet 3 (eO2 fMod (.ex (eB bInt [(.ex (eO2 fAddI (.ex (eO2 fAddI (.ex (eO2 fMul (.vr 3) (.ex (eC (.int 48271))))) (.ex (eO2 fMul (.vr 2) (.ex (eC (.int 69621))))))) (.ex (eC (.int 5)))))])) (.ex (eC (.int 2147483647)))))
 (sSeq (sSet 3 (eO2 fMod (.ex (eB bInt [(.ex (eO2 fMul (.vr 3) (.ex (eC (.int 69621)))))])) (.ex (eC (.int 2147483629)))))
 (sRet (eO2 fMod (.ex (eB bInt [(.vr 3)])) (.ex (eB bMax [(.vr 1), (.ex (eC (.int 1)))]))))))
 sNx)
 (sPut 0 (eC (.int 2)) (eV 3)))))))
 sNx)
 (sSeq (sSet 3 (eO2 fIx (.vr 0) (.ex (eC (.int 2)))))
 (sSeq (sPut 0 (eC (.int 2)) (eO2 fDiv (.vr 3) (.ex (eB bMax [(.vr 1), (.ex (eC (.int 2)))]))))
 (sRet (eO2 fMod (.ex (eB bInt [(.vr 3)])) (.ex (eB bMax [(.vr 1), (.ex (eC (.int 1)))])))))))
def F5 (C : Orc) : List W → CRes := runF 2 4 [[0]] (M5 C)
/-- _law_price -/
def M6 (C : Orc) : MS :=
 (sSeq (sIf (tO2 cEq (.ex (eCall C 5 [.rf 0, .vl (eC (.int 8))])) (.ex (eC (.int 0))))
 (sRet (eC .none))
 sNx)
 (sSeq (sSet 3 (eCall C 5 [.rf 0, .vl (eO2 fIx (.ex (eLst [(eC (.int 1)), (eC (.int 2)), (eC (.int 10)), (eO2 fAddI (.ex (eO2 fPow (.ex (eC (.int 10))) (.ex (eC (.int 9))))) (.ex (eC (.int 1))))])) (.vr 1))]))
 (sSeq (sIf (tAnd' (tO2 cEq (.vr 2) (.ex (eC (.int 1)))) (tO2 cEq (.ex (eCall C 5 [.rf 0, .vl (eC (.int 3))])) (.ex (eC (.int 0)))))
 (sSet 3 (eO1 fNeg (.vr 3)))
 sNx)
 (sRet (eV 3)))))
def F6 (C : Orc) : List W → CRes := runF 3 4 [[0]] (M6 C)
def M7b0 (C : Orc) : MS :=
 (sSeq (sSet 12 (eCall C 5 [.rf 0, .vl (eV 4)]))
 (sSeq (sIf (tO2 cEq (.vr 5) (.ex (eC (.int 0))))
 (sSet 12 (eO2 fAddI (.ex (eO2 fAddI (.vr 9) (.ex (eC (.int 1))))) (.vr 12)))
 sNx)
 (sSeq (sIf (tO2 cEq (.vr 5) (.ex (eC (.int 1))))
 (sSet 12 (eO2 fSub (.ex (eO2 fSub (.vr 9) (.ex (eC (.int 1))))) (.vr 12)))
 sNx)
 (sIf (tAnd' (tO2 cLe (.ex (eC (.int 0))) (.vr 12)) (tO2 cLt (.vr 12) (.vr 4)))
 (sE (eMu mApp 10 [(eV 12)]))
 sNx))))
def M7b1 (C : Orc) : MS :=
 (sSeq (sSet 9 (eCall C 5 [.rf 0, .vl (eV 4)]))
 (sSeq (sSet 10 (eLst []))
 (sSeq (sFor (iR1 (eO2 fIx (.ex (eLst [(eC (.int 0)), (eC (.int 1)), (eC (.int 1)), (eC (.int 2)), (eC (.int 2)), (eC (.int 3))])) (.ex (eCall C 5 [.rf 0, .vl (eC (.int 6))])))) (tgN 11)
 (M7b0 C))
 (sSeq (sSet 13 (eTup [(eV 9), (eB bTuple [(.vr 10)]), (eCall C 6 [.rf 0, .vl (eV 6), .vl (eV 3)])]))
 (sSeq (sIf (tAnd' (tTru (.vr 7)) (tO2 cEq (.ex (eCall C 5 [.rf 0, .vl (eC (.int 8))])) (.ex (eC (.int 0)))))
 (sSet 13 (eO2 fIx (.vr 7) (.ex (eCall C 5 [.rf 0, .vl (eB bLen [(.vr 7)])]))))
 sNx)
 (sE (eMu mApp 7 [(eV 13)])))))))
def M7b2 (C : Orc) : MS :=
 (sE (eMu mIns 7 [(eCall C 5 [.rf 0, .vl (eO2 fAddI (.ex (eB bLen [(.vr 7)])) (.ex (eC (.int 1))))]), (eTup [(eV 14), (eTup []), (eCall C 6 [.rf 0, .vl (eV 6), .vl (eV 3)])])]))
/-- _law_family -/
def M7 (C : Orc) : MS :=
 (sSeq (sSet 4 (eO2 fAddI (.ex (eC (.int 1))) (.ex (eCall C 5 [.rf 0, .vl (eV 1)]))))
 (sSeq (sSet 5 (eCall C 5 [.rf 0, .vl (eC (.int 8))]))
 (sSeq (sSet 6 (eCall C 5 [.rf 0, .vl (eC (.int 4))]))
 (sSeq (sSet 7 (eLst []))
 (sSeq (sFor (iR1 (eCall C 5 [.rf 0, .vl (eO2 fAddI (.vr 2) (.ex (eC (.int 1))))])) (tgN 8)
 (M7b1 C))
 (sSeq (sIf (tO2 cEq (.ex (eCall C 5 [.rf 0, .vl (eC (.int 2))])) (.ex (eC (.int 0))))
 (sFor (iR1 (eV 4)) (tgN 14)
 (M7b2 C))
 sNx)
 (sSeq (sSet 15 (eLc (iR1 (eV 4)) (tgN 14) (tO2 cGt (.ex (eCall C 5 [.rf 0, .vl (eC (.int 3))])) (.ex (eC (.int 0)))) (eV 14) [14]))
 (sSeq (sIf (tAnd' (tNot' (tTru (.vr 15))) (tO2 cGt (.ex (eCall C 5 [.rf 0, .vl (eC (.int 8))])) (.ex (eC (.int 0)))))
 (sSet 15 (eLst [(eCall C 5 [.rf 0, .vl (eV 4)])]))
 sNx)
 (sRet (eTup [(eV 4), (eB bTuple [(.vr 15)]), (eB bTuple [(.vr 7)])]))))))))))
def F7 (C : Orc) : List W → CRes := runF 4 16 [[0]] (M7 C)
/-- _law_same -/
def M8 (C : Orc) : MS :=
 (sRet (eAnd (eO2 (lB cEq) (.vr 0) (.vr 1)) (eO2 (lB cEq) (.ex (eB bRepr [(.vr 0)])) (.ex (eB bRepr [(.vr 1)])))))
def F8 (C : Orc) : List W → CRes := runF 2 2 [[]] (M8 C)
/-- a tape -/
def TapeOk (t : List D) : Prop := ∃ (ns : List Int) (p b s : Int), t = [.list (ns.map PyData.int), .int p, .int b, .int s] ∧ 0 ≤ p ∧ 0 ≤ b
theorem bMax1 (m : Int) : (0 : Int) < (if 1 > m then 1 else m) := by split <;> omega
theorem bMax2 (m : Int) : (0 : Int) < (if 2 > m then 2 else m) := by split <;> omega
theorem draw_ok (C : Orc) {t : List D} (h : TapeOk t) (m : Int) (hm : m.natAbs.log2 < 9000) : ∃ k t', F5 C [.l t, .d (.int m)] = .ok (.d (.int k)) [.l t'] ∧ TapeOk t' ∧ 0 ≤ k ∧ k < max m 1 := by
  obtain ⟨ns, p, b, s, rfl, hp, hb⟩ := h
  have hmax : (if 1 > m then 1 else m) = max m 1 := by split <;> omega
  have hm1 := bMax1 m
  have hm2 := bMax2 m
  have hlog : (if 2 > m then 2 else m).natAbs.log2 < 9000 := by
    split
    · decide
    · exact hm
  -- what is returned: a rest
  have rest : ∀ x : Int, 0 ≤ x % (if 1 > m then 1 else m) ∧ x % (if 1 > m then 1 else m) < max m 1 := fun x => by
    rw [← hmax]
    exact ⟨Int.emod_nonneg _ (by omega), Int.emod_lt_of_pos _ hm1⟩
  have run : WpC (F5 C [.l [.list (ns.map PyData.int), .int p, .int b, .int s], .d (.int m)]) fun w o => ∃ x t', w = .d (.int (x % (if 1 > m then 1 else m))) ∧ o = [.l t'] ∧ TapeOk t' := by
    refine wpC_run (m := M5 C) rfl rfl rfl ?_
    simp only [List.map_cons, List.map_nil, List.cons_append, List.nil_append, List.replicate]
    unfold M5
    walk_at "ev"
    -- the end: from a number x ≥ 0
    have tail : ∀ (q x : Int) (e2 : Option W), 0 ≤ q → 0 ≤ x → TapeOk [.list (ns.map PyData.int), .int q, .int (x / (if 2 > m then 2 else m)), .int s] := fun q x e2 hq hx => ⟨ns, q, _, s, rfl, hq, Int.ediv_nonneg hx (by omega)⟩
    cases hb0 : (b == 0) with
    | false =>
      walk_at "ev"
      rw [fDiv_p hm2 hlog]
      walk_at "ev"
      rw [fMod_p hm1]
      walk_at "ev"
      exact ⟨b, _, rfl, rfl, tail p b none hp hb⟩
    | true =>
      walk_at "ev"
      cases hpl : decide (p < ((ns.map PyData.int).length : Int)) with
      | true =>
        have hp2 : p < ns.length := by simpa using of_decide_eq_true hpl
        obtain ⟨k, hk⟩ := atI_int hp hp2
        walk_at "ev"
        rw [hk]
        walk_at "ev"
        have hx : 0 ≤ (if k < 0 then -k else k) := by split <;> omega
        generalize (if k < 0 then -k else k) = x at hx ⊢
        cases hx0 : decide (x < 1000000000000000000) with
        | true =>
          walk_at "ev"
          rw [fMod_p hm1]
          walk_at "ev"
          exact ⟨_, _, rfl, rfl, ns, p + 1, b, _, rfl, by omega, hb⟩
        | false =>
          walk_at "ev"
          rw [fDiv_p hm2 hlog]
          walk_at "ev"
          rw [fMod_p hm1]
          walk_at "ev"
          exact ⟨x, _, rfl, rfl, ns, p + 1, _, _, rfl, by omega, Int.ediv_nonneg hx (by omega)⟩
      | false =>
        walk_at "ev"
        have hx : 0 ≤ (s * 48271 + p + 1) % 2147483647 := Int.emod_nonneg _ (by decide)
        generalize (s * 48271 + p + 1) % 2147483647 = x at hx ⊢
        cases hx0 : decide (x < 1000000000000000000) with
        | true =>
          walk_at "ev"
          rw [fMod_p hm1]
          walk_at "ev"
          exact ⟨_, _, rfl, rfl, ns, p + 1, b, _, rfl, by omega, hb⟩
        | false =>
          walk_at "ev"
          rw [fDiv_p hm2 hlog]
          walk_at "ev"
          rw [fMod_p hm1]
          walk_at "ev"
          exact ⟨x, _, rfl, rfl, ns, p + 1, _, _, rfl, by omega, Int.ediv_nonneg hx (by omega)⟩
  obtain ⟨w, o, h1, x, t', rfl, rfl, ht⟩ := run
  exact ⟨_, t', h1, ht, (rest x).1, (rest x).2⟩
def DrawS (C : Orc) : Prop := ∀ t, TapeOk t → ∀ m : Int, m.natAbs.log2 < 9000 → ∃ (k : Int) (t' : List D), C 5 [.l t, .d (.int m)] = .ok (.d (.int k)) [.l t'] ∧ TapeOk t' ∧ 0 ≤ k ∧ k < max m 1
theorem log_small {m : Int} (h : m.natAbs < 2 ^ 64) : m.natAbs.log2 < 9000 := by
  by_cases h0 : m.natAbs = 0
  · rw [h0]; decide
  · exact Nat.lt_trans ((Nat.log2_lt h0).mpr h) (by decide)
/-! ### the tape's beginning -/
theorem forAll_ints {tg : Tg} {b : MS} {ns : List Int} {e : Env} (Inv : Env → Prop) (h0 : Inv e) (step : ∀ (n : Int) (e : Env), Inv e → ∃ e0, tg (.int n) e = some e0 ∧ Wp (b e0) fun o e1 => (o = .nx ∨ o = .ct) ∧ Inv e1) : ∃ e', forL tg b (ns.map PyData.int) e = .ok .nx e' ∧ Inv e' := by
  refine forL_inv (fun _ e => Inv e) h0 fun pre x post e he hi => ?_
  have hx : x ∈ ns.map PyData.int := by rw [he]; simp
  obtain ⟨n, _, rfl⟩ := List.mem_map.mp hx
  exact step n e hi
theorem tape_ok (C : Orc) (ns : List Int) : ∃ t, F4 C [.d (.list (ns.map PyData.int))] = .ok (.l t) [] ∧ TapeOk t := by
  have run : WpC (F4 C [.d (.list (ns.map PyData.int))]) fun w o => o = [] ∧ ∃ t, w = .l t ∧ TapeOk t := by
    refine wpC_run (m := M4 C) rfl rfl rfl ?_
    simp only [List.map_cons, List.map_nil, List.cons_append, List.nil_append, List.replicate]
    unfold M4
    walk_at "ev"
    obtain ⟨e', h, s, x, rfl⟩ := forAll_ints (ns := ns) (e := [some (W.d (PyData.list (List.map PyData.int ns))), some (W.d (PyData.int 7)), none]) (tg := tgN 2) (b := M4b0 C)
      (fun e => ∃ (s : Int) (x : Option W), e = [some (.d (.list (ns.map PyData.int))), some (.d (.int s)), x]) ⟨7, none, rfl⟩ (fun n e hi => by
        obtain ⟨s, x, rfl⟩ := hi
        refine ⟨_, rfl, ?_⟩
        unfold M4b0
        walk_at "ev"
        exact ⟨by simp, _, _, rfl⟩)
    rw [h]
    walk_at "ev"
    refine ⟨by trivial, _, rfl, ns, 0, 0, s, rfl, by decide, by decide⟩
  obtain ⟨w, o, h, rfl, t, rfl, ht⟩ := run
  exact ⟨t, h, ht⟩
/-! ### prices -/
def priceD : Option Int → D
  | none => .none
  | some i => .int i
theorem price_ok (C : Orc) (hD : DrawS C) {t : List D} (ht : TapeOk t) (mode low : Int) (h0 : 0 ≤ mode) (h3 : mode < 4) : ∃ (p : Option Int) (t' : List D), F6 C [.l t, .d (.int mode), .d (.int low)] = .ok (.d (priceD p)) [.l t'] ∧ TapeOk t' ∧ ∀ i, p = some i → -1000000000 ≤ i ∧ i ≤ 1000000000 ∧ (low ≠ 1 → 0 ≤ i) := by
  have run : WpC (F6 C [.l t, .d (.int mode), .d (.int low)]) fun w o => ∃ (p : Option Int) (t' : List D), w = .d (priceD p) ∧ o = [.l t'] ∧ TapeOk t' ∧ ∀ i, p = some i → -1000000000 ≤ i ∧ i ≤ 1000000000 ∧ (low ≠ 1 → 0 ≤ i) := by
    refine wpC_run (m := M6 C) rfl rfl rfl ?_
    simp only [List.map_cons, List.map_nil, List.cons_append, List.nil_append, List.replicate]
    unfold M6
    walk_at "ev"
    obtain ⟨k, t1, hc, ht1, hk0, hk1⟩ := hD t ht 8 (by decide)
    rw [hc]
    walk_at "ev"
    cases hk : (k == 0) with
    | true =>
      walk_at "ev"
      exact ⟨none, t1, rfl, rfl, ht1, fun i h => by cases h⟩
    | false =>
      walk_at "ev"
      have hm : ∃ m : Int, atI [PyData.int 1, PyData.int 2, PyData.int 10, PyData.int 1000000001] mode = some (.int m) ∧ m.natAbs < 2 ^ 64 ∧ 0 < m ∧ m ≤ 1000000001 := by
        rcases (show mode = 0 ∨ mode = 1 ∨ mode = 2 ∨ mode = 3 by omega) with rfl | rfl | rfl | rfl
        · exact ⟨1, atI_0, by decide, by decide, by decide⟩
        · exact ⟨2, atI_1, by decide, by decide, by decide⟩
        · exact ⟨10, atI_2, by decide, by decide, by decide⟩
        · exact ⟨1000000001, atI_3, by decide, by decide, by decide⟩
      obtain ⟨m, hm1, hm2, hm3, hm4⟩ := hm
      rw [hm1]
      walk_at "ev"
      obtain ⟨k2, t2, hc2, ht2, hk20, hk21⟩ := hD t1 ht1 m (log_small hm2)
      rw [hc2]
      walk_at "ev"
      have hb : k2 ≤ 1000000000 := by omega
      cases hl : (low == 1) with
      | false =>
        walk_at "ev"
        exact ⟨some k2, t2, rfl, rfl, ht2, fun i h => by cases h; exact ⟨by omega, hb, fun _ => hk20⟩⟩
      | true =>
        walk_at "ev"
        obtain ⟨k3, t3, hc3, ht3, _⟩ := hD t2 ht2 3 (by decide)
        rw [hc3]
        walk_at "ev"
        cases hk3 : (k3 == 0) with
        | true =>
          walk_at "ev"
          refine ⟨some (-k2), t3, rfl, rfl, ht3, fun i h => ?_⟩
          cases h
          exact ⟨by omega, by omega, fun z => absurd (eq_of_beq hl) z⟩
        | false =>
          walk_at "ev"
          exact ⟨some k2, t3, rfl, rfl, ht3, fun i h => by cases h; exact ⟨by omega, hb, fun _ => hk20⟩⟩
  obtain ⟨w, o, h, p, t', rfl, rfl, h1, h2⟩ := run
  exact ⟨p, t', h, h1, h2⟩

/-! ### families -/
structure Var where
  plug : Nat
  slots : List Nat
  price : Option Int
def natD (n : Nat) : D := .int (n : Int)
def Var.dat (v : Var) : D := .tuple [natD v.plug, .tuple (v.slots.map natD), priceD v.price]
structure Fam where
  count : Nat
  roots : List Nat
  vars : List Var
def Fam.dat (f : Fam) : D := .tuple [natD f.count, .tuple (f.roots.map natD), .tuple (f.vars.map Var.dat)]
structure Var.Ok (count : Nat) (low : Int) (v : Var) : Prop where
  plug : v.plug < count
  slots : ∀ s ∈ v.slots, s < count
  len : v.slots.length ≤ 3
  price : ∀ i, v.price = some i → -1000000000 ≤ i ∧ i ≤ 1000000000 ∧ (low ≠ 1 → 0 ≤ i)
structure Fam.Ok (states variants : Nat) (low : Int) (f : Fam) : Prop where
  pos : 0 < f.count
  count : f.count ≤ states
  roots : ∀ r ∈ f.roots, r < f.count
  asc : f.roots.Pairwise (· < ·)
  vars : ∀ v ∈ f.vars, v.Ok f.count low
  len : f.vars.length ≤ variants + states
structure Var.Shp (count : Nat) (v : Var) : Prop where
  plug : v.plug < count
  slots : ∀ s ∈ v.slots, s < count
  len : v.slots.length ≤ 3
structure Fam.Shp (states variants : Nat) (f : Fam) : Prop where
  pos : 0 < f.count
  count : f.count ≤ states
  roots : ∀ r ∈ f.roots, r < f.count
  asc : f.roots.Pairwise (· < ·)
  vars : ∀ v ∈ f.vars, v.Shp f.count
  len : f.vars.length ≤ variants + states
theorem Fam.Ok.shp {a b : Nat} {low : Int} {f : Fam} (h : f.Ok a b low) : f.Shp a b := ⟨h.pos, h.count, h.roots, h.asc, fun v hv => ⟨(h.vars v hv).plug, (h.vars v hv).slots, (h.vars v hv).len⟩, h.len⟩
def PriceS (C : Orc) : Prop := ∀ t, TapeOk t → ∀ mode low : Int, 0 ≤ mode → mode < 4 → ∃ (p : Option Int) (t' : List D), C 6 [.l t, .d (.int mode), .d (.int low)] = .ok (.d (priceD p)) [.l t'] ∧ TapeOk t' ∧ ∀ i, p = some i → -1000000000 ≤ i ∧ i ≤ 1000000000 ∧ (low ≠ 1 → 0 ≤ i)
theorem max1 {n : Int} (h : 0 < n) : max n 1 = n := by omega
/-- one slot -/
theorem fam_b0 (C : Orc) (hD : DrawS C) {t : List D} (ht : TapeOk t) {cnt shape plug : Int} {sl : List Nat} {a1 a2 a3 a6 a7 a8 x11 x12 a13 a14 a15 : Option W} (hc : 0 < cnt) (hc2 : cnt ≤ 1000) (hsl : ∀ s ∈ sl, (s : Int) < cnt) (hl : sl.length ≤ 100) :
    Wp (M7b0 C [some (.l t), a1, a2, a3, some (.d (.int cnt)), some (.d (.int shape)), a6, a7, a8, some (.d (.int plug)), some (.l (sl.map natD)), x11, x12, a13, a14, a15]) fun o e => o = .nx ∧
      ∃ (t' : List D) (sl' : List Nat) (x : Option W), e = [some (.l t'), a1, a2, a3, some (.d (.int cnt)), some (.d (.int shape)), a6, a7, a8, some (.d (.int plug)), some (.l (sl'.map natD)), x11, x, a13, a14, a15] ∧ TapeOk t' ∧ (∀ s ∈ sl', (s : Int) < cnt) ∧ sl'.length ≤ sl.length + 1 := by
  unfold M7b0
  walk_at "ev"
  obtain ⟨k, t1, h1, ht1, hk0, hk1⟩ := hD t ht cnt (log_small (by omega))
  rw [h1]
  walk_at "ev"
  have fin : ∀ g : Int, Wp (kIf (sE (eMu mApp 10 [eV 12])) sNx (kAnd (tO2 cLt (Opd.vr 12) (Opd.vr 4)) (.ok (decide (0 ≤ g)) [some (.l t1), a1, a2, a3, some (.d (.int cnt)), some (.d (.int shape)), a6, a7, a8, some (.d (.int plug)), some (.l (sl.map natD)), x11, some (.d (.int g)), a13, a14, a15]))) (fun o e => o = .nx ∧
      ∃ (t' : List D) (sl' : List Nat) (x : Option W), e = [some (.l t'), a1, a2, a3, some (.d (.int cnt)), some (.d (.int shape)), a6, a7, a8, some (.d (.int plug)), some (.l (sl'.map natD)), x11, x, a13, a14, a15] ∧ TapeOk t' ∧ (∀ s ∈ sl', (s : Int) < cnt) ∧ sl'.length ≤ sl.length + 1) := fun g => by
    cases hg : decide (0 ≤ g) with
    | false =>
      walk_at "ev"
      exact ⟨by trivial, t1, sl, _, rfl, ht1, hsl, by omega⟩
    | true =>
      walk_at "ev"
      cases hg2 : decide (g < cnt) with
      | false =>
        walk_at "ev"
        exact ⟨by trivial, t1, sl, _, rfl, ht1, hsl, by omega⟩
      | true =>
        walk_at "ev"
        have g0 := of_decide_eq_true hg
        have g1 := of_decide_eq_true hg2
        rw [mApp_s (by rw [List.length_map]; omega)]
        walk_at "ev"
        refine ⟨by trivial, t1, sl ++ [g.toNat], some (.d (.int g)), ?_, ht1, fun s hs => ?_, by simp⟩
        · simp only [List.map_append, List.map_cons, List.map_nil, natD]
          rw [Int.toNat_of_nonneg g0]
        rcases List.mem_append.mp hs with hs | hs
        · exact hsl s hs
        · simp at hs
          omega
  cases hs0 : (shape == 0) with
  | true =>
    have hs1 : (shape == 1) = false := by
      rw [eq_of_beq hs0]; decide
    walk_at "ev"
    rw [hs1]
    walk_at "ev"
    exact fin _
  | false =>
    walk_at "ev"
    cases hs1 : (shape == 1) with
    | true =>
      walk_at "ev"
      exact fin _
    | false =>
      walk_at "ev"
      exact fin _
theorem list6 {k : Int} (h0 : 0 ≤ k) (h1 : k < 6) : ∃ n : Nat, atI [PyData.int 0, PyData.int 1, PyData.int 1, PyData.int 2, PyData.int 2, PyData.int 3] k = some (.int (n : Int)) ∧ n ≤ 3 := by
  rcases (show k = 0 ∨ k = 1 ∨ k = 2 ∨ k = 3 ∨ k = 4 ∨ k = 5 by omega) with rfl | rfl | rfl | rfl | rfl | rfl
  · exact ⟨0, rfl, by decide⟩
  · exact ⟨1, rfl, by decide⟩
  · exact ⟨1, rfl, by decide⟩
  · exact ⟨2, rfl, by decide⟩
  · exact ⟨2, rfl, by decide⟩
  · exact ⟨3, rfl, by decide⟩
/-- one variant -/
theorem fam_b1 (C : Orc) (hD : DrawS C) (hP : PriceS C) {t : List D} (ht : TapeOk t) {cnt shape mode low : Int} {vs : List Var} {a1 a2 x8 x9 x10 x11 x12 x13 a14 a15 : Option W} (hc : 0 < cnt) (hc2 : cnt ≤ 1000) (hm0 : 0 ≤ mode) (hm1 : mode < 4) (hvs : ∀ v ∈ vs, v.Ok cnt.toNat low) (hl : vs.length ≤ 10000) :
    Wp (M7b1 C [some (.l t), a1, a2, some (.d (.int low)), some (.d (.int cnt)), some (.d (.int shape)), some (.d (.int mode)), some (.l (vs.map Var.dat)), x8, x9, x10, x11, x12, x13, a14, a15]) fun o e => o = .nx ∧
      ∃ (t' : List D) (vs' : List Var) (y9 y10 y11 y12 y13 : Option W), e = [some (.l t'), a1, a2, some (.d (.int low)), some (.d (.int cnt)), some (.d (.int shape)), some (.d (.int mode)), some (.l (vs'.map Var.dat)), x8, y9, y10, y11, y12, y13, a14, a15] ∧ TapeOk t' ∧ (∀ v ∈ vs', v.Ok cnt.toNat low) ∧ vs'.length ≤ vs.length + 1 := by
  unfold M7b1
  walk_at "ev"
  obtain ⟨pl, t1, h1, ht1, hp0, hp1⟩ := hD t ht cnt (log_small (by omega))
  rw [h1]
  walk_at "ev"
  obtain ⟨k, t2, h2, ht2, hk0, hk1⟩ := hD t1 ht1 6 (by decide)
  rw [h2]
  walk_at "ev"
  obtain ⟨n, hn, hn3⟩ := list6 hk0 (show k < 6 by omega)
  rw [hn]
  walk_at "ev"
  rw [if_pos (by omega)]
  walk_at "ev"
  obtain ⟨e', hf, t3, sl, x11', x12', rfl, ht3, hsl, hsl2⟩ := forR_inv (tg := tgN 11) (b := M7b0 C) (lo := 0) (n := (n : Int).toNat)
    (e := [some (.l t2), a1, a2, some (.d (.int low)), some (.d (.int cnt)), some (.d (.int shape)), some (.d (.int mode)), some (.l (vs.map Var.dat)), x8, some (.d (.int pl)), some (.l []), x11, x12, x13, a14, a15])
    (fun i e => ∃ (t' : List D) (sl : List Nat) (x11' x12' : Option W), e = [some (.l t'), a1, a2, some (.d (.int low)), some (.d (.int cnt)), some (.d (.int shape)), some (.d (.int mode)), some (.l (vs.map Var.dat)), x8, some (.d (.int pl)), some (.l (sl.map natD)), x11', x12', x13, a14, a15] ∧ TapeOk t' ∧ (∀ s ∈ sl, (s : Int) < cnt) ∧ sl.length ≤ i)
    ⟨t2, [], x11, x12, rfl, ht2, (fun s h => by cases h), Nat.le_refl _⟩ (fun i e hi hI => by
      obtain ⟨t', sl, y11, y12, rfl, ht', hs1, hs2⟩ := hI
      refine ⟨_, rfl, ?_⟩
      walk_at "ev"
      refine (fam_b0 C hD ht' hc hc2 hs1 (by omega)).mono fun o e1 ⟨ho, t4, sl', x, he, ht4, h5, h6⟩ => ⟨.inl ho, t4, sl', _, x, he, ht4, h5, by omega⟩)
  rw [hf]
  walk_at "ev"
  obtain ⟨p, t4, h4, ht4, hpr⟩ := hP t3 ht3 mode low hm0 hm1
  rw [h4]
  walk_at "ev"
  have hsl4 : sl.length ≤ 3 := by omega
  -- the new variant
  have hv : (Var.mk pl.toNat sl p).Ok cnt.toNat low := ⟨by show pl.toNat < cnt.toNat; omega, fun s hs => by have := hsl s hs; omega, hsl4, hpr⟩
  have hvd : PyData.tuple [PyData.int pl, PyData.tuple (sl.map natD), priceD p] = (Var.mk pl.toNat sl p).dat := by
    unfold Var.dat natD
    show PyData.tuple [PyData.int pl, _, _] = PyData.tuple [PyData.int ((pl.toNat : Nat) : Int), _, _]
    rw [Int.toNat_of_nonneg hp0]
  rw [hvd]
  have fin : ∀ (t5 : List D) (v : Var), TapeOk t5 → v.Ok cnt.toNat low → ∃ (t' : List D) (vs' : List Var) (y9 y10 y11 y12 y13 : Option W), [some (.l t5), a1, a2, some (.d (.int low)), some (.d (.int cnt)), some (.d (.int shape)), some (.d (.int mode)), some (.l (vs.map Var.dat ++ [v.dat])), x8, some (.d (.int pl)), some (.l (sl.map natD)), x11', x12', some (.d v.dat), a14, a15] = [some (.l t'), a1, a2, some (.d (.int low)), some (.d (.int cnt)), some (.d (.int shape)), some (.d (.int mode)), some (.l (vs'.map Var.dat)), x8, y9, y10, y11, y12, y13, a14, a15] ∧ TapeOk t' ∧ (∀ v ∈ vs', v.Ok cnt.toNat low) ∧ vs'.length ≤ vs.length + 1 := fun t5 v ht5 hv5 => by
    refine ⟨t5, vs ++ [v], _, _, _, _, _, by simp only [List.map_append, List.map_cons, List.map_nil]; rfl, ht5, fun u hu => ?_, by simp⟩
    rcases List.mem_append.mp hu with hu | hu
    · exact hvs u hu
    · simp at hu
      rw [hu]; exact hv5
  have hlm : (vs.map Var.dat).length < 16777216 := by rw [List.length_map]; omega
  rw [show (vs.map Var.dat).isEmpty = vs.isEmpty by cases vs <;> rfl]
  cases hvs0 : vs.isEmpty with
  | true =>
    walk_at "ev"
    rw [mApp_s hlm]
    walk_at "ev"
    exact ⟨by trivial, fin t4 _ ht4 hv⟩
  | false =>
    walk_at "ev"
    obtain ⟨k5, t5, h5, ht5, _⟩ := hD t4 ht4 8 (by decide)
    rw [h5]
    walk_at "ev"
    cases hk5 : (k5 == 0) with
    | false =>
      walk_at "ev"
      rw [mApp_s hlm]
      walk_at "ev"
      exact ⟨by trivial, fin t5 _ ht5 hv⟩
    | true =>
      walk_at "ev"
      rw [List.length_map]
      obtain ⟨k6, t6, h6, ht6, hk60, hk61⟩ := hD t5 ht5 vs.length (log_small (by omega))
      rw [h6]
      walk_at "ev"
      have hne : 0 < vs.length := by
        cases vs with
        | nil => cases hvs0
        | cons _ _ => simp
      obtain ⟨v, hv1, hv2⟩ := atI_map Var.dat vs hk60 (by omega)
      rw [hv2]
      walk_at "ev"
      rw [mApp_s hlm]
      walk_at "ev"
      exact ⟨by trivial, fin t6 v ht6 (hvs v hv1)⟩
/-- one state's own variant -/
theorem fam_b2 (C : Orc) (hD : DrawS C) (hP : PriceS C) {t : List D} (ht : TapeOk t) {cnt mode low st : Int} {vs : List Var} {a1 a2 a5 x8 x9 x10 x11 x12 x13 a15 : Option W} (hs0 : 0 ≤ st) (hs1 : st < cnt) (hm0 : 0 ≤ mode) (hm1 : mode < 4) (hvs : ∀ v ∈ vs, v.Ok cnt.toNat low) (hl : vs.length ≤ 10000) :
    Wp (M7b2 C [some (.l t), a1, a2, some (.d (.int low)), some (.d (.int cnt)), a5, some (.d (.int mode)), some (.l (vs.map Var.dat)), x8, x9, x10, x11, x12, x13, some (.d (.int st)), a15]) fun o e => o = .nx ∧
      ∃ (t' : List D) (vs' : List Var), e = [some (.l t'), a1, a2, some (.d (.int low)), some (.d (.int cnt)), a5, some (.d (.int mode)), some (.l (vs'.map Var.dat)), x8, x9, x10, x11, x12, x13, some (.d (.int st)), a15] ∧ TapeOk t' ∧ (∀ v ∈ vs', v.Ok cnt.toNat low) ∧ vs'.length ≤ vs.length + 1 := by
  unfold M7b2
  walk_at "ev"
  rw [List.length_map]
  obtain ⟨k, t1, h1, ht1, hk0, hk1⟩ := hD t ht (vs.length + 1) (log_small (by omega))
  rw [h1]
  walk_at "ev"
  obtain ⟨p, t2, h2, ht2, hpr⟩ := hP t1 ht1 mode low hm0 hm1
  rw [h2]
  walk_at "ev"
  have hvd : PyData.tuple [PyData.int st, PyData.tuple [], priceD p] = (Var.mk st.toNat [] p).dat := by
    unfold Var.dat natD
    show PyData.tuple [PyData.int st, _, _] = PyData.tuple [PyData.int ((st.toNat : Nat) : Int), _, _]
    rw [Int.toNat_of_nonneg hs0]
    rfl
  rw [hvd, mIns_s (by rw [List.length_map]; omega) hk0 (by omega)]
  walk_at "ev"
  refine ⟨by trivial, t2, vs.take k.toNat ++ Var.mk st.toNat [] p :: vs.drop k.toNat, by simp only [List.map_append, List.map_cons, List.map_take, List.map_drop], ht2, fun v hv => ?_, by simp; omega⟩
  rcases List.mem_append.mp hv with hv | hv
  · exact hvs v (List.mem_of_mem_take hv)
  · rcases List.mem_cons.mp hv with rfl | hv
    · exact ⟨by show st.toNat < cnt.toNat; omega, (fun s h => by cases h), by simp, hpr⟩
    · exact hvs v (List.mem_of_mem_drop hv)
theorem family_ok (C : Orc) (hD : DrawS C) (hP : PriceS C) {t : List D} (ht : TapeOk t) (states variants : Nat) (low : Int) (hs : 0 < states) (hs2 : states ≤ 1000) (hv : variants ≤ 1000) :
    ∃ (f : Fam) (t' : List D), F7 C [.l t, .d (natD states), .d (natD variants), .d (.int low)] = .ok (.d f.dat) [.l t'] ∧ TapeOk t' ∧ f.Ok states variants low := by
  have run : WpC (F7 C [.l t, .d (natD states), .d (natD variants), .d (.int low)]) fun w o => ∃ (f : Fam) (t' : List D), w = .d f.dat ∧ o = [.l t'] ∧ TapeOk t' ∧ f.Ok states variants low := by
    refine wpC_run (m := M7 C) rfl rfl rfl ?_
    simp only [List.map_cons, List.map_nil, List.cons_append, List.nil_append, List.replicate]
    unfold M7
    simp only [natD]
    walk_at "ev"
    obtain ⟨c, t1, hc1, ht1, hc10, hc11⟩ := hD t ht states (log_small (by omega))
    rw [hc1]
    walk_at "ev"
    obtain ⟨shape, t2, hc2, ht2, hsh0, hsh1⟩ := hD t1 ht1 8 (by decide)
    rw [hc2]
    walk_at "ev"
    obtain ⟨mode, t3, hc3, ht3, hmo0, hmo1⟩ := hD t2 ht2 4 (by decide)
    rw [hc3]
    walk_at "ev"
    obtain ⟨nv, t4, hc4, ht4, hnv0, hnv1⟩ := hD t3 ht3 (variants + 1) (log_small (by omega))
    rw [hc4]
    walk_at "ev"
    rw [if_pos (by omega)]
    walk_at "ev"
    have hc : (0 : Int) < 1 + c := by omega
    have hc2 : (1 + c : Int) ≤ 1000 := by omega
    have hm1 : mode < 4 := by omega
    obtain ⟨e1, hf1, t5, vs, y8, y9, y10, y11, y12, y13, rfl, ht5, hvs, hlen⟩ := forR_inv (tg := tgN 8) (b := M7b1 C) (lo := 0) (n := nv.toNat)
      (e := [some (.l t4), some (.d (.int states)), some (.d (.int variants)), some (.d (.int low)), some (.d (.int (1 + c))), some (.d (.int shape)), some (.d (.int mode)), some (.l []), none, none, none, none, none, none, none, none])
      (fun i e => ∃ (t' : List D) (vs : List Var) (y8 y9 y10 y11 y12 y13 : Option W), e = [some (.l t'), some (.d (.int states)), some (.d (.int variants)), some (.d (.int low)), some (.d (.int (1 + c))), some (.d (.int shape)), some (.d (.int mode)), some (.l (vs.map Var.dat)), y8, y9, y10, y11, y12, y13, none, none] ∧ TapeOk t' ∧ (∀ v ∈ vs, v.Ok (1 + c).toNat low) ∧ vs.length ≤ i)
      ⟨t4, [], _, _, _, _, _, _, rfl, ht4, (fun v h => by cases h), Nat.le_refl _⟩ (fun i e hi hI => by
        obtain ⟨t', vs, y8, y9, y10, y11, y12, y13, rfl, ht', hs1, hs2⟩ := hI
        refine ⟨_, rfl, ?_⟩
        walk_at "ev"
        refine (fam_b1 C hD hP ht' hc hc2 hmo0 hm1 hs1 (by omega)).mono fun o e1 ⟨ho, t6, vs', z9, z10, z11, z12, z13, he, ht6, h5, h6⟩ => ⟨.inl ho, t6, vs', _, _, _, _, _, _, he, ht6, h5, by omega⟩)
    rw [hf1]
    walk_at "ev"
    obtain ⟨k2, t6, h6, ht6, _⟩ := hD t5 ht5 2 (by decide)
    rw [h6]
    walk_at "ev"
    -- from behind the two loops
    have fin : ∀ (t7 : List D) (us : List Var) (x14 : Option W), TapeOk t7 → (∀ v ∈ us, v.Ok (1 + c).toNat low) → us.length ≤ variants + states →
        WpC (kF [0] (kS (sSeq (sIf (tAnd' (tNot' (tTru (Opd.vr 15))) (tO2 cGt (Opd.ex (eCall C 5 [Arg.rf 0, Arg.vl (eC (PyData.int 8))])) (Opd.ex (eC (PyData.int 0))))) (sSet 15 (eLst [eCall C 5 [Arg.rf 0, Arg.vl (eV 4)]])) sNx)
              (sRet (eTup [eV 4, eB bTuple [Opd.vr 15], eB bTuple [Opd.vr 7]])))
          (kSet 15 (kLc (tgN 14) (tO2 cGt (Opd.ex (eCall C 5 [Arg.rf 0, Arg.vl (eC (PyData.int 3))])) (Opd.ex (eC (PyData.int 0)))) (eV 14) [14]
            (if -4611686018427387904 ≤ 1 + c ∧ 1 + c < 4611686018427387904 then Res.ok (rng 0 (1 + c).toNat)
              [some (.l t7), some (.d (.int states)), some (.d (.int variants)), some (.d (.int low)), some (.d (.int (1 + c))), some (.d (.int shape)), some (.d (.int mode)), some (.l (us.map Var.dat)), y8, y9, y10, y11, y12, y13, x14, none]
             else Res.no)))))
        (fun w o => ∃ (f : Fam) (t' : List D), w = .d f.dat ∧ o = [.l t'] ∧ TapeOk t' ∧ f.Ok states variants low) := fun t7 us x14 ht7 hus hlu => by
      rw [if_pos (by omega)]
      walk_at "ev"
      rw [if_pos (by rw [rng_len]; omega)]
      obtain ⟨ds, e2, hcm, t8, rs, rfl, rfl, ht8, hr1, hr2⟩ := cmpR_inv (tg := tgN 14) (tt := tO2 cGt (Opd.ex (eCall C 5 [Arg.rf 0, Arg.vl (eC (PyData.int 3))])) (Opd.ex (eC (PyData.int 0)))) (te := eV 14) (vs := [14]) (lo := 0) (n := (1 + c).toNat)
        (e := [some (.l t7), some (.d (.int states)), some (.d (.int variants)), some (.d (.int low)), some (.d (.int (1 + c))), some (.d (.int shape)), some (.d (.int mode)), some (.l (us.map Var.dat)), y8, y9, y10, y11, y12, y13, none, none])
        (fun i acc e => ∃ (t' : List D) (rs : List Nat), acc = rs.map natD ∧ e = [some (.l t'), some (.d (.int states)), some (.d (.int variants)), some (.d (.int low)), some (.d (.int (1 + c))), some (.d (.int shape)), some (.d (.int mode)), some (.l (us.map Var.dat)), y8, y9, y10, y11, y12, y13, none, none] ∧ TapeOk t' ∧ (∀ r ∈ rs, r < i) ∧ rs.Pairwise (· < ·))
        ⟨t7, [], rfl, rfl, ht7, (fun s h => by cases h), List.Pairwise.nil⟩ (fun i acc e hi hI => by
          obtain ⟨t', rs, rfl, rfl, ht', h1, h2⟩ := hI
          refine ⟨_, rfl, ?_⟩
          walk_at "ev"
          obtain ⟨k9, t9, h9, ht9, _⟩ := hD t' ht' 3 (by decide)
          rw [h9]
          walk_at "ev"
          cases decide (0 < k9) with
          | false =>
            refine .inl ⟨rfl, ?_⟩
            exact ⟨t9, rs, rfl, rfl, ht9, fun r hr => Nat.lt_succ_of_lt (h1 r hr), h2⟩
          | true =>
            refine .inr ⟨rfl, ?_⟩
            refine ⟨t9, rs ++ [i], by simp [natD], rfl, ht9, fun r hr => ?_, ?_⟩
            · rcases List.mem_append.mp hr with hr | hr
              · exact Nat.lt_succ_of_lt (h1 r hr)
              · simp at hr; omega
            · refine List.pairwise_append.mpr ⟨h2, List.pairwise_singleton _ _, fun a ha b hb => ?_⟩
              simp at hb
              rw [hb]; exact h1 a ha)
      rw [hcm]
      walk_at "ev"
      have ok : ∀ (rs' : List Nat), (∀ r ∈ rs', r < (1 + c).toNat) → rs'.Pairwise (· < ·) → (Fam.mk (1 + c).toNat rs' us).Ok states variants low := fun rs' h1 h2 => ⟨by show 0 < (1 + c).toNat; omega, by show (1 + c).toNat ≤ states; omega, h1, h2, hus, hlu⟩
      have dat : ∀ (rs' : List Nat), PyData.tuple [PyData.int (1 + c), PyData.tuple (rs'.map natD), PyData.tuple (us.map Var.dat)] = (Fam.mk (1 + c).toNat rs' us).dat := fun rs' => by
        unfold Fam.dat natD
        show _ = PyData.tuple [PyData.int (((1 + c).toNat : Nat) : Int), _, _]
        rw [Int.toNat_of_nonneg (by omega)]
      rw [show (rs.map natD).isEmpty = rs.isEmpty by cases rs <;> rfl]
      cases hrs : rs.isEmpty with
      | false =>
        walk_at "ev"
        rw [dat]
        exact ⟨_, t8, rfl, rfl, ht8, ok rs (fun r hr => hr1 r hr) hr2⟩
      | true =>
        walk_at "ev"
        obtain ⟨k9, t9, h9, ht9, _⟩ := hD t8 ht8 8 (by decide)
        rw [h9]
        walk_at "ev"
        cases decide (0 < k9) with
        | false =>
          walk_at "ev"
          rw [dat]
          exact ⟨_, t9, rfl, rfl, ht9, ok rs (fun r hr => hr1 r hr) hr2⟩
        | true =>
          walk_at "ev"
          obtain ⟨k10, t10, h10, ht10, h100, h101⟩ := hD t9 ht9 (1 + c) (log_small (by omega))
          rw [h10]
          walk_at "ev"
          have : [PyData.int k10] = [k10.toNat].map natD := by
            simp only [List.map_cons, List.map_nil, natD]
            rw [Int.toNat_of_nonneg h100]
          rw [this, dat]
          exact ⟨_, t10, rfl, rfl, ht10, ok _ (fun r hr => by simp at hr; omega) (List.pairwise_singleton _ _)⟩
    cases hk2 : (k2 == 0) with
    | false =>
      walk_at "ev"
      exact fin t6 vs none ht6 hvs (by omega)
    | true =>
      walk_at "ev"
      rw [if_pos (by omega)]
      walk_at "ev"
      obtain ⟨e3, hf3, t7, us, x14, rfl, ht7, hus, hlu⟩ := forR_inv (tg := tgN 14) (b := M7b2 C) (lo := 0) (n := (1 + c).toNat)
        (e := [some (.l t6), some (.d (.int states)), some (.d (.int variants)), some (.d (.int low)), some (.d (.int (1 + c))), some (.d (.int shape)), some (.d (.int mode)), some (.l (vs.map Var.dat)), y8, y9, y10, y11, y12, y13, none, none])
        (fun i e => ∃ (t' : List D) (us : List Var) (x14 : Option W), e = [some (.l t'), some (.d (.int states)), some (.d (.int variants)), some (.d (.int low)), some (.d (.int (1 + c))), some (.d (.int shape)), some (.d (.int mode)), some (.l (us.map Var.dat)), y8, y9, y10, y11, y12, y13, x14, none] ∧ TapeOk t' ∧ (∀ v ∈ us, v.Ok (1 + c).toNat low) ∧ us.length ≤ vs.length + i)
        ⟨t6, vs, none, rfl, ht6, hvs, by omega⟩ (fun i e hi hI => by
          obtain ⟨t', us, x14, rfl, ht', h1, h2⟩ := hI
          refine ⟨_, rfl, ?_⟩
          walk_at "ev"
          refine (fam_b2 C hD hP ht' (by omega) (by omega) hmo0 hm1 h1 (by omega)).mono fun o e1 ⟨ho, t8, vs', he, ht8, h5, h6⟩ => ⟨.inl ho, t8, vs', _, he, ht8, h5, by omega⟩)
      rw [hf3]
      walk_at "ev"
      exact fin t7 us x14 ht7 hus (by omega)
  obtain ⟨w, o, h, f, t', rfl, rfl, h1, h2⟩ := run
  exact ⟨f, t', h, h1, h2⟩
/-! ### the comparison of what is told with what is due -/
theorem same_ok (C : Orc) {x : D} (h : nice x = true) (hn : nodes x ≤ 16000) (h2 : x.depth ≤ 64) : F8 C [.d x, .d x] = .ok (.d (.bool true)) [] := by
  have run : WpC (F8 C [.d x, .d x]) fun w o => w = .d (.bool true) ∧ o = [] := by
    refine wpC_run (m := M8 C) rfl rfl rfl ?_
    simp only [List.map_cons, List.map_nil, List.cons_append, List.nil_append, List.replicate]
    unfold M8
    walk_at "ev"
    rw [cEq_nice h h h2 h2, eqv_self h]
    walk_at "ev"
    rw [bRepr_nice h hn h2]
    walk_at "ev"
    rw [bRepr_nice h hn h2]
    walk_at "ev"
    rw [beq_self_eq_true]
    exact ⟨by trivial, by trivial⟩
  obtain ⟨w, o, h, rfl, rfl⟩ := run
  exact h
end Mi
set_option Elab.async false
set_option linter.all false
set_option maxRecDepth 100000
set_option maxHeartbeats 4000000
namespace Mi
open PySem L2
local macro_rules | `(tactic| push_cast [$hs,*]) => `(tactic| simp -implicitDefEqProofs (disch := first | omega | (simp only [rng_len, List.length_map, List.length_append, List.length_range, List.length_replicate, List.length_cons, List.length_nil, List.length_set, List.length_reverse, List.length_zipIdx]; omega)) only [ev_seq, ev_if, ev_ifE, ev_nx, ev_bk, ev_ct, ev_E, ev_set, ev_tg, ev_ret, ev_retO, ev_retN, ev_put, ev_for, ev_C, ev_V, ev_vr, ev_ex, ev_o1, ev_o2, ev_t2, ev_tru, ev_and, ev_or, ev_not, ev_yes, ev_andE, ev_orE, ev_notE, ev_LN, ev_LC, ev_B, ev_TN, ev_TC, ev_tup, ev_lst, ev_GN, ev_GV, ev_GR, ev_call, ev_mu, ev_lc, ev_any, ev_r1, ev_r2, ev_rep, kS_nx, kS_bk, kS_ct, kS_rt, kIf_t, kIf_f, kM_ok, kSet_ok, kAnd_t, kAnd_f, kOr_t, kOr_f, kAndE_t, kAndE_f, kOrE_t, kOrE_f, kNotE_b, oVr_s, kO2_ok, kO2'_ok, g2_ss, gv_l, gv_r, kL_ok, kL'_ok, kB_ok, gB_s, gvL_n, gvL_c, kV_ss, kT_ok, kT'_ok, kG_ok, kG'_ok, gG_l, gG_t, gG_d, kC_ok, kC1_s, kC2_ok, kP_s, take_n, take_l, take_r, put_n, put_l, put_r, pt1_s, kPut1_ok, kPut2_ok, isL_l, kMu_ok, kFor_ok, kSeqI_l, kSeqI_l', kSeqI_t, kR2_ok, kRep_ok, rV_d, rV_l, cont_n, cont_c, ct1_s, wp_ok, wpC_ok, atI_0, atI_1, atI_2, atI_3, fIx_l, fIx_t, List.length_cons, List.length_nil, Nat.zero_add, Nat.reduceAdd, Int.reduceLT, Int.reduceLE, Int.reduceAdd, Int.reduceMul, Int.reduceToNat, Int.reduceNeg, Int.reduceSub, Nat.reduceLT, Nat.reduceLeDiff, Nat.reduceMul, gt_iff_lt, ge_iff_le, ixN_4_0, ixN_4_1, ixN_4_2, ixN_4_3, wipe_n, wipe_c, tgN_r, tgT_r, tgL_n, tgL_c, ofO_some, vw_d, vw_l, fAddI_int, fSub_int, fNeg_int, fMod_p, fMul_31, fMul_48271, fMul_69621, fPow18, fPow9, cCmp_int, cEq_int, cNe_int, cEq_str, cNe_str, cOrd_int, ev_aug, kAug_ok, ev_en, kEn_t, fIs_int, fIs_bool, fIs_none, fIs_str, fIs_list, fIs_tuple, isTy_int_int, isTy_int_bool, isTy_tuple_tuple, cIs_none, cIsNot_none, isNone_none, isNone_int, isNone_str, isNone_tuple, isNone_list, isNone_bool, truD_l, truD_t, truD_b, truD_n, bLen_l, bLen_t, bAbs_int, bInt_int, bMax_int, bMin_int, bList_l, bList_t, bTuple_l, bTuple_t, Option.map_some, Option.bind_some, List.getD_cons_zero, List.getD_cons_succ, List.set_cons_zero, List.set_cons_succ, if_true, if_false, lB, ↓reduceIte, Bool.not_true, Bool.not_false, kO1_ok, g1_s, kTru_ok, vf_d, vf_l, tk1_s, tkW_s, isO_l, isO_t, kF_ok, endF_r, endF_n, kF_ex, endX_s, rV_t, lpos_n, lpos_l, lpos_t, lpos_d, fAdd_int, ev_pN, ev_pS, kP1_i, ev_sl, kSl_ok, kSl2_ok, kSl3_ok, fSl_l, fSl_t, fRev_l, fRev_t, kR1_c, kR1_n, kR2_c, kLc_c, kRep2_n, gPut_n, gPut_c, gMu_app, rep_n, vw_d, List.length_map, List.length_range, rng_len, Int.toNat_natCast, beq_self_eq_true, Bool.not_true, Bool.not_false, Option.isNone_none, Option.isNone_some, decide_true, decide_false, ev_forN, List.isEmpty_nil, List.isEmpty_cons, kTg_2, kTg_3, ev_mv, gMv_s, ev_rvA, kRvA_t, kRvA_d, kRvA_l, ev_g1, kg1_i, ev_g2, kg2a_i, kg2_i, fNotT_l, fNotT_b, ev_tupR, ev_lstR, kTupR_s, kLstR_s, ev_rvR, kRvR_s, $hs,*])
local macro_rules | `(tactic| walk_at "ev") => `(tactic| simp only [ev_seq, ev_if, ev_ifE, ev_nx, ev_bk, ev_ct, ev_E, ev_set, ev_tg, ev_ret, ev_retO, ev_retN, ev_put, ev_for, ev_C, ev_V, ev_vr, ev_ex, ev_o1, ev_o2, ev_t2, ev_tru, ev_and, ev_or, ev_not, ev_yes, ev_andE, ev_orE, ev_notE, ev_LN, ev_LC, ev_B, ev_TN, ev_TC, ev_tup, ev_lst, ev_GN, ev_GV, ev_GR, ev_call, ev_mu, ev_lc, ev_any, ev_r1, ev_r2, ev_rep, kS_nx, kS_bk, kS_ct, kS_rt, kIf_t, kIf_f, kM_ok, kSet_ok, kAnd_t, kAnd_f, kOr_t, kOr_f, kAndE_t, kAndE_f, kOrE_t, kOrE_f, kNotE_b, oVr_s, kO2_ok, kO2'_ok, g2_ss, gv_l, gv_r, kL_ok, kL'_ok, kB_ok, gB_s, gvL_n, gvL_c, kV_ss, kT_ok, kT'_ok, kG_ok, kG'_ok, gG_l, gG_t, gG_d, kC_ok, kC1_s, kC2_ok, kP_s, take_n, take_l, take_r, put_n, put_l, put_r, pt1_s, kPut1_ok, kPut2_ok, gPut_l, isL_l, kMu_ok, gMu_l, kFor_ok, kLc_ok, kSeqI_l, kSeqI_l', kSeqI_t, kR1_i, kR2_ok, kR2'_i, kRep_ok, kRep2_i, rV_d, rV_l, cont_n, cont_c, ct1_s, wp_ok, wpC_ok, atI_0, atI_1, atI_2, atI_3, fIx_l, fIx_t, List.length_cons, List.length_nil, Nat.zero_add, Nat.reduceAdd, Int.reduceLT, Int.reduceLE, Int.reduceAdd, Int.reduceMul, Int.reduceToNat, Int.reduceNeg, Int.reduceSub, Nat.reduceLT, Nat.reduceLeDiff, Nat.reduceMul, gt_iff_lt, ge_iff_le, ixN_4_0, ixN_4_1, ixN_4_2, ixN_4_3, wipe_n, wipe_c, tgN_r, tgT_r, tgL_n, tgL_c, ofO_some, vw_d, vw_l, fAddI_int, fSub_int, fNeg_int, fMod_p, fMul_31, fMul_48271, fMul_69621, fPow18, fPow9, cCmp_int, cEq_int, cNe_int, cEq_str, cNe_str, cOrd_int, ev_aug, kAug_ok, ev_en, kEn_t, fIs_int, fIs_bool, fIs_none, fIs_str, fIs_list, fIs_tuple, isTy_int_int, isTy_int_bool, isTy_tuple_tuple, cIs_none, cIsNot_none, isNone_none, isNone_int, isNone_str, isNone_tuple, isNone_list, isNone_bool, truD_l, truD_t, truD_b, truD_n, bLen_l, bLen_t, bAbs_int, bInt_int, bMax_int, bMin_int, bList_l, bList_t, bTuple_l, bTuple_t, Option.map_some, Option.bind_some, List.getD_cons_zero, List.getD_cons_succ, List.set_cons_zero, List.set_cons_succ, if_true, if_false, lB, ↓reduceIte, Bool.not_true, Bool.not_false, kO1_ok, g1_s, kTru_ok, vf_d, vf_l, tk1_s, tkW_s, isO_l, isO_t, kF_ok, endF_r, endF_n, kF_ex, endX_s, rV_t, lpos_n, lpos_l, lpos_t, lpos_d, fAdd_int, ev_pN, ev_pS, kP1_i, ev_sl, kSl_ok, kSl2_ok, kSl3_ok, fSl_l, fSl_t, fRev_l, fRev_t])
def M17b0 (C : Orc) : MS :=
 (sSeq (sSet 6 (eCall C 5 [.rf 0, .vl (eO2 fIx (.ex (eLst [(eC (.int 1)), (eC (.int 2)), (eC (.int 10)), (eO2 fAddI (.ex (eO2 fPow (.ex (eC (.int 10))) (.ex (eC (.int 9))))) (.ex (eC (.int 1))))])) (.vr 3))]))
 (sSeq (sIf (tAnd' (tO2 cEq (.vr 2) (.ex (eC (.int 1)))) (tO2 cEq (.ex (eCall C 5 [.rf 0, .vl (eC (.int 3))])) (.ex (eC (.int 0)))))
 (sSet 6 (eO1 fNeg (.vr 6)))
 sNx)
 (sSeq (sIf (tO2 cIs (.ex (eO2 fIx (.vr 5) (.ex (eC (.int 2))))) (.ex (eC .none)))
 (sSet 6 (eC .none))
 sNx)
 (sE (eMu mApp 4 [(eTup [(eO2 fIx (.vr 5) (.ex (eC (.int 0)))), (eO2 fIx (.vr 5) (.ex (eC (.int 1)))), (eV 6)])])))))
/-- _law_repriced -/
def M17 (C : Orc) : MS :=
 (sSeq (sSet 3 (eCall C 5 [.rf 0, .vl (eC (.int 4))]))
 (sSeq (sSet 4 (eLst []))
 (sSeq (sFor (iAny (eO2 fIx (.vr 1) (.ex (eC (.int 2))))) (tgN 5)
 (M17b0 C))
 (sRet (eTup [(eO2 fIx (.vr 1) (.ex (eC (.int 0)))), (eO2 fIx (.vr 1) (.ex (eC (.int 1)))), (eB bTuple [(.vr 4)])])))))
def F17 (C : Orc) : List W → CRes := runF 3 7 [[0]] (M17 C)
def M18b0 (C : Orc) : MS :=
 (sSeq (sSet 4 (eO2 fRepT (.ex (eTup [(eO2 fAddI (.vr 3) (.ex (eC (.int 1))))])) (.ex (eO2 fAddI (.ex (eC (.int 1))) (.ex (eCall C 5 [.rf 0, .vl (eO2 fIx (.ex (eLst [(eC (.int 1)), (eC (.int 3))])) (.ex (eCall C 5 [.rf 0, .vl (eC (.int 2))])))]))))))
 (sSeq (sIf (tO2 cEq (.vr 3) (.ex (eO2 fSub (.vr 1) (.ex (eC (.int 1))))))
 (sSet 4 (eTup []))
 sNx)
 (sE (eMu mIns 2 [(eCall C 5 [.rf 0, .vl (eO2 fAddI (.ex (eB bLen [(.vr 2)])) (.ex (eC (.int 1))))]), (eTup [(eV 3), (eV 4), (eCall C 5 [.rf 0, .vl (eC (.int 4))])])]))))
/-- _law_tower -/
def M18 (C : Orc) : MS :=
 (sSeq (sSet 1 (eO2 fIx (.ex (eLst [(eC (.int 1)), (eC (.int 2)), (eC (.int 4)), (eC (.int 5)), (eC (.int 6)), (eC (.int 7)), (eC (.int 40))])) (.ex (eCall C 5 [.rf 0, .vl (eC (.int 7))]))))
 (sSeq (sSet 2 (eLst []))
 (sSeq (sFor (iR1 (eV 1)) (tgN 3)
 (M18b0 C))
 (sRet (eTup [(eV 1), (eTup [(eC (.int 0))]), (eB bTuple [(.vr 2)])])))))
def F18 (C : Orc) : List W → CRes := runF 1 5 [[0]] (M18 C)
def M19b0 (C : Orc) : MS :=
 (sE (eMu mIns 4 [(eCall C 5 [.rf 0, .vl (eO2 fAddI (.ex (eB bLen [(.vr 4)])) (.ex (eC (.int 1))))]), (eTup [(eV 5), (eTup [(eO2 fAddI (.vr 5) (.ex (eC (.int 1))))]), (eCall C 5 [.rf 0, .vl (eC (.int 3))])])]))
/-- _law_tall -/
def M19 (C : Orc) : MS :=
 (sSeq (sSet 1 (eO2 fAddI (.ex (eC (.int 1))) (.ex (eCall C 5 [.rf 0, .vl (eC (.int 8))]))))
 (sSeq (sSet 2 (eO2 fAddI (.ex (eC (.int 1))) (.ex (eCall C 5 [.rf 0, .vl (eC (.int 8))]))))
 (sSeq (sSet 3 (eO2 fSub (.ex (eO2 fSub (.ex (eO2 fAddI (.ex (eC (.int 18))) (.ex (eCall C 5 [.rf 0, .vl (eC (.int 6))])))) (.vr 1))) (.vr 2)))
 (sSeq (sSet 4 (eLst [(eTup [(eC (.int 0)), (eTup [(eV 1), (eV 2), (eV 3)]), (eCall C 5 [.rf 0, .vl (eC (.int 3))])]), (eTup [(eC (.int 39)), (eTup []), (eCall C 5 [.rf 0, .vl (eC (.int 3))])])]))
 (sSeq (sFor (iR2 (eC (.int 1)) (eC (.int 39))) (tgN 5)
 (M19b0 C))
 (sRet (eTup [(eC (.int 40)), (eTup [(eC (.int 0))]), (eB bTuple [(.vr 4)])])))))))
def F19 (C : Orc) : List W → CRes := runF 1 6 [[0]] (M19 C)
/-- _law_any_family -/
def M20 (C : Orc) : MS :=
 (sSeq (sSet 1 (eCall C 5 [.rf 0, .vl (eC (.int 8))]))
 (sSeq (sIf (tO2 cEq (.vr 1) (.ex (eC (.int 0))))
 (sRet (eCall C 18 [.rf 0]))
 sNx)
 (sSeq (sIf (tO2 cEq (.vr 1) (.ex (eC (.int 1))))
 (sRet (eCall C 19 [.rf 0]))
 sNx)
 (sRet (eCall C 7 [.rf 0, .vl (eC (.int 6)), .vl (eC (.int 10)), .vl (eC (.int 0))])))))
def F20 (C : Orc) : List W → CRes := runF 1 2 [[0]] (M20 C)
/-! ### families that grow fast, repriced families -/
theorem Fam.Ok.mono {a b a' b' : Nat} {low : Int} {f : Fam} (h : f.Ok a b low) (h1 : a ≤ a') (h2 : b + a ≤ b' + a') : f.Ok a' b' low :=
  ⟨h.pos, by have := h.count; omega, h.roots, h.asc, h.vars, by have := h.len; omega⟩
theorem list7 {k : Int} (h0 : 0 ≤ k) (h1 : k < 7) : ∃ n : Int, atI [PyData.int 1, PyData.int 2, PyData.int 4, PyData.int 5, PyData.int 6, PyData.int 7, PyData.int 40] k = some (.int n) ∧ 1 ≤ n ∧ n ≤ 40 := by
  rcases (show k = 0 ∨ k = 1 ∨ k = 2 ∨ k = 3 ∨ k = 4 ∨ k = 5 ∨ k = 6 by omega) with rfl | rfl | rfl | rfl | rfl | rfl | rfl
  · exact ⟨1, rfl, by decide, by decide⟩
  · exact ⟨2, rfl, by decide, by decide⟩
  · exact ⟨4, rfl, by decide, by decide⟩
  · exact ⟨5, rfl, by decide, by decide⟩
  · exact ⟨6, rfl, by decide, by decide⟩
  · exact ⟨7, rfl, by decide, by decide⟩
  · exact ⟨40, rfl, by decide, by decide⟩
theorem list13 {k : Int} (h0 : 0 ≤ k) (h1 : k < 2) : ∃ n : Int, atI [PyData.int 1, PyData.int 3] k = some (.int n) ∧ 1 ≤ n ∧ n ≤ 3 := by
  rcases (show k = 0 ∨ k = 1 by omega) with rfl | rfl
  · exact ⟨1, rfl, by decide, by decide⟩
  · exact ⟨3, rfl, by decide, by decide⟩
theorem rep_slots {j : Nat} {n : Int} (h1 : 1 ≤ n) (h3 : n ≤ 3) : fRepT (.tuple [natD j]) (.int n) = some (.d (.tuple ((List.replicate n.toNat j).map natD))) := by
  rcases (show n = 1 ∨ n = 2 ∨ n = 3 by omega) with rfl | rfl | rfl <;> rfl
/-- slots lie above -/
def Var.Up (v : Var) : Prop := ∀ s ∈ v.slots, v.plug < s
def Fam.Lev (f : Fam) : Prop := ∀ v ∈ f.vars, v.Up
theorem ins_all {P : Var → Prop} {vs : List Var} {v : Var} {k : Nat} (h : ∀ u ∈ vs, P u) (hv : P v) : ∀ u ∈ vs.take k ++ v :: vs.drop k, P u := fun u hu => by
  rcases List.mem_append.mp hu with hu | hu
  · exact h u (List.mem_of_mem_take hu)
  · rcases List.mem_cons.mp hu with rfl | hu
    · exact hv
    · exact h u (List.mem_of_mem_drop hu)
theorem tower_ok (C : Orc) (hD : DrawS C) {t : List D} (ht : TapeOk t) : ∃ (f : Fam) (t' : List D), F18 C [.l t] = .ok (.d f.dat) [.l t'] ∧ TapeOk t' ∧ f.Ok 40 100 0 ∧ f.Lev := by
  have run : WpC (F18 C [.l t]) fun w o => ∃ (f : Fam) (t' : List D), w = .d f.dat ∧ o = [.l t'] ∧ TapeOk t' ∧ f.Ok 40 100 0 ∧ f.Lev := by
    refine wpC_run (m := M18 C) rfl rfl rfl ?_
    simp only [List.map_cons, List.map_nil, List.cons_append, List.nil_append, List.replicate]
    unfold M18
    walk_at "ev"
    obtain ⟨k, t1, h1, ht1, hk0, hk1⟩ := hD t ht 7 (by decide)
    rw [h1]
    walk_at "ev"
    obtain ⟨c, hc, hc1, hc2⟩ := list7 hk0 (by omega)
    rw [hc]
    walk_at "ev"
    rw [if_pos (by omega)]
    walk_at "ev"
    obtain ⟨e', hf, t2, vs, x3, x4, rfl, ht2, hvs, hl⟩ := forR_inv (tg := tgN 3) (b := M18b0 C) (lo := 0) (n := c.toNat)
      (e := [some (.l t1), some (.d (.int c)), some (.l []), none, none])
      (fun i e => ∃ (t' : List D) (vs : List Var) (x3 x4 : Option W), e = [some (.l t'), some (.d (.int c)), some (.l (vs.map Var.dat)), x3, x4] ∧ TapeOk t' ∧ (∀ v ∈ vs, v.Ok c.toNat 0 ∧ v.Up) ∧ vs.length = i)
      ⟨t1, [], none, none, rfl, ht1, (fun v h => by cases h), rfl⟩ (fun i e hi hI => by
        obtain ⟨t', vs, x3, x4, rfl, ht', hvs, hl⟩ := hI
        refine ⟨_, rfl, ?_⟩
        unfold M18b0
        simp only [Int.zero_add]
        walk_at "ev"
        obtain ⟨k1, u1, g1, hu1, hk10, hk11⟩ := hD t' ht' 2 (by decide)
        rw [g1]
        walk_at "ev"
        obtain ⟨m, hm, hm1, hm3⟩ := list13 hk10 (by omega)
        rw [hm]
        walk_at "ev"
        obtain ⟨k2, u2, g2, hu2, hk20, hk21⟩ := hD u1 hu1 m (log_small (by omega))
        rw [g2]
        walk_at "ev"
        rw [show PyData.int ((i : Int) + 1) = natD (i + 1) by simp [natD], rep_slots (by omega) (by omega)]
        walk_at "ev"
        have fin : ∀ sl : List Nat, (∀ s ∈ sl, s < c.toNat ∧ i < s) → sl.length ≤ 3 → Wp (kM (fun x => Out.nx) (kMu mIns 2 (kT [eTup [eV 3, eV 4, eCall C 5 [Arg.rf 0, Arg.vl (eC (PyData.int 4))]]]
              (kC2 [Sum.inl 0, Sum.inr (PyData.int (((vs.map Var.dat).length : Int) + 1))] [none, some (.d (.int c)), some (.l (vs.map Var.dat)), some (.d (.int (i : Int))), some (.d (.tuple (sl.map natD)))]
                (C 5 [.l u2, .d (.int (((vs.map Var.dat).length : Int) + 1))])))))
            (fun o e1 => (o = .nx ∨ o = .ct) ∧ ∃ (t' : List D) (vs : List Var) (x3 x4 : Option W), e1 = [some (.l t'), some (.d (.int c)), some (.l (vs.map Var.dat)), x3, x4] ∧ TapeOk t' ∧ (∀ v ∈ vs, v.Ok c.toNat 0 ∧ v.Up) ∧ vs.length = i + 1) := fun sl hsl hl3 => by
          rw [List.length_map]
          obtain ⟨k3, u3, g3, hu3, hk30, hk31⟩ := hD u2 hu2 (vs.length + 1) (log_small (by omega))
          rw [g3]
          walk_at "ev"
          obtain ⟨k4, u4, g4, hu4, hk40, hk41⟩ := hD u3 hu3 4 (by decide)
          rw [g4]
          walk_at "ev"
          have hvd : PyData.tuple [PyData.int (i : Int), PyData.tuple (sl.map natD), PyData.int k4] = (Var.mk i sl (some k4)).dat := rfl
          rw [hvd, mIns_s (by rw [List.length_map]; omega) hk30 (by omega)]
          walk_at "ev"
          refine ⟨by simp, u4, vs.take k3.toNat ++ Var.mk i sl (some k4) :: vs.drop k3.toNat, _, _, by simp only [List.map_append, List.map_cons, List.map_take, List.map_drop]; rfl, hu4, ins_all hvs ⟨⟨hi, fun s h => (hsl s h).1, hl3, fun j h => by cases h; exact ⟨by omega, by omega, fun _ => hk40⟩⟩, fun s h => (hsl s h).2⟩, by simp; omega⟩
        cases hlast : ((i : Int) == c - 1) with
        | true =>
          walk_at "ev"
          exact fin [] (fun s h => by cases h) (by simp)
        | false =>
          have hne : (i : Int) ≠ c - 1 := fun h => by rw [h] at hlast; simp at hlast
          walk_at "ev"
          refine fin (List.replicate (1 + k2).toNat (i + 1)) (fun s h => ?_) (by simp; omega)
          obtain ⟨_, rfl⟩ := List.mem_replicate.mp h
          exact ⟨by omega, by omega⟩)
    rw [hf]
    walk_at "ev"
    rw [show PyData.int c = natD c.toNat by unfold natD; rw [Int.toNat_of_nonneg (by omega)]]
    refine ⟨⟨c.toNat, [0], vs⟩, t2, rfl, rfl, ht2, ⟨by show 0 < c.toNat; omega, by show c.toNat ≤ 40; omega, fun r hr => by simp at hr; show r < c.toNat; omega, List.pairwise_singleton _ _, fun v hv => (hvs v hv).1, by show vs.length ≤ 100 + 40; omega⟩, fun v hv => (hvs v hv).2⟩
  obtain ⟨w, o, h, f, t', rfl, rfl, h1, h2, h3⟩ := run
  exact ⟨f, t', h, h1, h2, h3⟩
theorem tall_ok (C : Orc) (hD : DrawS C) {t : List D} (ht : TapeOk t) : ∃ (f : Fam) (t' : List D), F19 C [.l t] = .ok (.d f.dat) [.l t'] ∧ TapeOk t' ∧ f.Ok 40 100 0 ∧ f.Lev := by
  have run : WpC (F19 C [.l t]) fun w o => ∃ (f : Fam) (t' : List D), w = .d f.dat ∧ o = [.l t'] ∧ TapeOk t' ∧ f.Ok 40 100 0 ∧ f.Lev := by
    refine wpC_run (m := M19 C) rfl rfl rfl ?_
    simp only [List.map_cons, List.map_nil, List.cons_append, List.nil_append, List.replicate]
    unfold M19
    walk_at "ev"
    obtain ⟨k1, t1, h1, ht1, hk10, hk11⟩ := hD t ht 8 (by decide)
    rw [h1]
    walk_at "ev"
    obtain ⟨k2, t2, h2, ht2, hk20, hk21⟩ := hD t1 ht1 8 (by decide)
    rw [h2]
    walk_at "ev"
    obtain ⟨k3, t3, h3, ht3, hk30, hk31⟩ := hD t2 ht2 6 (by decide)
    rw [h3]
    walk_at "ev"
    obtain ⟨k4, t4, h4, ht4, hk40, hk41⟩ := hD t3 ht3 3 (by decide)
    rw [h4]
    walk_at "ev"
    obtain ⟨k5, t5, h5, ht5, hk50, hk51⟩ := hD t4 ht4 3 (by decide)
    rw [h5]
    walk_at "ev"
    generalize hA : (1 + k1 : Int) = A
    generalize hB : (1 + k2 : Int) = B
    generalize hZ : (18 + k3 - A - B : Int) = Z
    have hv1 : PyData.tuple [PyData.int 0, PyData.tuple [PyData.int A, PyData.int B, PyData.int Z], PyData.int k4] = (Var.mk 0 [A.toNat, B.toNat, Z.toNat] (some k4)).dat := by
      unfold Var.dat
      simp only [List.map_cons, List.map_nil, natD, priceD]
      rw [Int.toNat_of_nonneg (by omega), Int.toNat_of_nonneg (by omega), Int.toNat_of_nonneg (by omega)]
      rfl
    have hv2 : PyData.tuple [PyData.int 39, PyData.tuple [], PyData.int k5] = (Var.mk 39 [] (some k5)).dat := rfl
    rw [hv1, hv2]
    obtain ⟨e', hf, t6, vs, x5, rfl, ht6, hvs, hl⟩ := forR_inv (tg := tgN 5) (b := M19b0 C) (lo := 1) (n := 38)
      (e := [some (.l t5), some (.d (.int A)), some (.d (.int B)), some (.d (.int Z)), some (.l [(Var.mk 0 [A.toNat, B.toNat, Z.toNat] (some k4)).dat, (Var.mk 39 [] (some k5)).dat]), none])
      (fun i e => ∃ (t' : List D) (vs : List Var) (x5 : Option W), e = [some (.l t'), some (.d (.int A)), some (.d (.int B)), some (.d (.int Z)), some (.l (vs.map Var.dat)), x5] ∧ TapeOk t' ∧ (∀ v ∈ vs, v.Ok 40 0 ∧ v.Up) ∧ vs.length = i + 2)
      ⟨t5, [Var.mk 0 [A.toNat, B.toNat, Z.toNat] (some k4), Var.mk 39 [] (some k5)], none, rfl, ht5, (fun v h => by
        simp at h
        rcases h with rfl | rfl
        · exact ⟨⟨by show 0 < 40; omega, fun s hs => by simp at hs; omega, by simp, fun j h => by cases h; exact ⟨by omega, by omega, fun _ => hk40⟩⟩, fun s hs => by simp at hs; show 0 < s; omega⟩
        · exact ⟨⟨by show 39 < 40; omega, fun s hs => by simp at hs, by simp, fun j h => by cases h; exact ⟨by omega, by omega, fun _ => hk50⟩⟩, fun s hs => by simp at hs⟩), rfl⟩ (fun i e hi hI => by
        obtain ⟨t', vs, x5, rfl, ht', hvs, hl⟩ := hI
        refine ⟨_, rfl, ?_⟩
        unfold M19b0
        walk_at "ev"
        rw [List.length_map]
        obtain ⟨k3, u3, g3, hu3, hk30, hk31⟩ := hD t' ht' (vs.length + 1) (log_small (by omega))
        rw [g3]
        walk_at "ev"
        obtain ⟨k4, u4, g4, hu4, hk40, hk41⟩ := hD u3 hu3 3 (by decide)
        rw [g4]
        walk_at "ev"
        have hvd : PyData.tuple [PyData.int (1 + (i : Int)), PyData.tuple [PyData.int (1 + (i : Int) + 1)], PyData.int k4] = (Var.mk (1 + i) [1 + i + 1] (some k4)).dat := by
          unfold Var.dat natD
          simp [priceD]
        rw [hvd, mIns_s (by rw [List.length_map]; omega) hk30 (by omega)]
        walk_at "ev"
        refine ⟨by simp, u4, vs.take k3.toNat ++ Var.mk (1 + i) [1 + i + 1] (some k4) :: vs.drop k3.toNat, _, by simp only [List.map_append, List.map_cons, List.map_take, List.map_drop]; rfl, hu4, ins_all hvs ⟨⟨by show 1 + i < 40; omega, fun s hs => by simp at hs; omega, by simp, fun j h => by cases h; exact ⟨by omega, by omega, fun _ => hk40⟩⟩, fun s hs => by simp at hs; show 1 + i < s; omega⟩, by simp; omega⟩)
    rw [if_pos ⟨trivial, trivial, trivial, trivial⟩]
    walk_at "ev"
    rw [hf]
    walk_at "ev"
    refine ⟨⟨40, [0], vs⟩, t6, rfl, rfl, ht6, ⟨by show 0 < 40; omega, by show 40 ≤ 40; omega, fun r hr => by simp at hr; show r < 40; omega, List.pairwise_singleton _ _, fun v hv => (hvs v hv).1, by show vs.length ≤ 100 + 40; omega⟩, fun v hv => (hvs v hv).2⟩
  obtain ⟨w, o, h, f, t', rfl, rfl, h1, h2, h3⟩ := run
  exact ⟨f, t', h, h1, h2, h3⟩
theorem any_family_ok (C : Orc) (hD : DrawS C) (h18 : ∀ t, TapeOk t → ∃ (f : Fam) (t' : List D), C 18 [.l t] = .ok (.d f.dat) [.l t'] ∧ TapeOk t' ∧ f.Ok 40 100 0 ∧ f.Lev) (h19 : ∀ t, TapeOk t → ∃ (f : Fam) (t' : List D), C 19 [.l t] = .ok (.d f.dat) [.l t'] ∧ TapeOk t' ∧ f.Ok 40 100 0 ∧ f.Lev)
    (h7 : ∀ t, TapeOk t → ∃ (f : Fam) (t' : List D), C 7 [.l t, .d (natD 6), .d (natD 10), .d (.int 0)] = .ok (.d f.dat) [.l t'] ∧ TapeOk t' ∧ f.Ok 6 10 0)
    {t : List D} (ht : TapeOk t) : ∃ (f : Fam) (t' : List D), F20 C [.l t] = .ok (.d f.dat) [.l t'] ∧ TapeOk t' ∧ f.Ok 40 100 0 ∧ (f.Lev ∨ f.Ok 6 10 0) := by
  have run : WpC (F20 C [.l t]) fun w o => ∃ (f : Fam) (t' : List D), w = .d f.dat ∧ o = [.l t'] ∧ TapeOk t' ∧ f.Ok 40 100 0 ∧ (f.Lev ∨ f.Ok 6 10 0) := by
    refine wpC_run (m := M20 C) rfl rfl rfl ?_
    simp only [List.map_cons, List.map_nil, List.cons_append, List.nil_append, List.replicate]
    unfold M20
    walk_at "ev"
    obtain ⟨k1, t1, h1, ht1, _, _⟩ := hD t ht 8 (by decide)
    rw [h1]
    walk_at "ev"
    cases hk : (k1 == 0) with
    | true =>
      walk_at "ev"
      obtain ⟨f, t2, h2, ht2, hf, hl⟩ := h18 t1 ht1
      rw [h2]
      walk_at "ev"
      exact ⟨f, t2, rfl, rfl, ht2, hf, .inl hl⟩
    | false =>
      walk_at "ev"
      cases hk2 : (k1 == 1) with
      | true =>
        walk_at "ev"
        obtain ⟨f, t2, h2, ht2, hf, hl⟩ := h19 t1 ht1
        rw [h2]
        walk_at "ev"
        exact ⟨f, t2, rfl, rfl, ht2, hf, .inl hl⟩
      | false =>
        walk_at "ev"
        obtain ⟨f, t2, h2, ht2, hf⟩ := h7 t1 ht1
        simp only [natD] at h2
        rw [show ((6 : Nat) : Int) = 6 from rfl, show ((10 : Nat) : Int) = 10 from rfl] at h2
        rw [h2]
        walk_at "ev"
        exact ⟨f, t2, rfl, rfl, ht2, hf.mono (by decide) (by decide), .inr hf⟩
  obtain ⟨w, o, h, f, t', rfl, rfl, h1, h2, h3⟩ := run
  exact ⟨f, t', h, h1, h2, h3⟩
/-! ### the same family with other prices -/
theorem menu4 {mode : Int} (h0 : 0 ≤ mode) (h1 : mode < 4) : ∃ m : Int, atI [PyData.int 1, PyData.int 2, PyData.int 10, PyData.int 1000000001] mode = some (.int m) ∧ m.natAbs < 2 ^ 64 ∧ 0 < m ∧ m ≤ 1000000001 := by
  rcases (show mode = 0 ∨ mode = 1 ∨ mode = 2 ∨ mode = 3 by omega) with rfl | rfl | rfl | rfl
  · exact ⟨1, atI_0, by decide, by decide, by decide⟩
  · exact ⟨2, atI_1, by decide, by decide, by decide⟩
  · exact ⟨10, atI_2, by decide, by decide, by decide⟩
  · exact ⟨1000000001, atI_3, by decide, by decide, by decide⟩
/-- the same families but for their prices; missing where the other is -/
def Var.sh (u : Var) : Nat × List Nat × Bool := (u.plug, u.slots, u.price.isNone)
structure Fam.like (g f : Fam) : Prop where
  count : g.count = f.count
  roots : g.roots = f.roots
  vars : g.vars.map Var.sh = f.vars.map Var.sh
theorem isNone_priceD (p : Option Int) : isNone (priceD p) = p.isNone := by cases p <;> rfl
/-- a family with other prices: missing where they were -/
theorem repriced_ok (C : Orc) (hD : DrawS C) {t : List D} (ht : TapeOk t) (f : Fam) (fd : D) (hfd : fd = .tuple [natD f.count, .tuple (f.roots.map natD), .tuple (f.vars.map Var.dat)]) (low : Int) {a b : Nat} (hf : f.Shp a b) (hz : f.vars.length ≤ 100000) :
    ∃ (g : Fam) (t' : List D), F17 C [.l t, .d fd, .d (.int low)] = .ok (.d g.dat) [.l t'] ∧ TapeOk t' ∧ g.Ok a b low ∧ g.like f := by
  have run : WpC (F17 C [.l t, .d fd, .d (.int low)]) fun w o => ∃ (g : Fam) (t' : List D), w = .d g.dat ∧ o = [.l t'] ∧ TapeOk t' ∧ g.Ok a b low ∧ g.like f := by
    refine wpC_run (m := M17 C) rfl rfl rfl ?_
    simp only [List.map_cons, List.map_nil, List.cons_append, List.nil_append, List.replicate]
    unfold M17
    walk_at "ev"
    obtain ⟨mode, t1, h1, ht1, hm0, hm1⟩ := hD t ht 4 (by decide)
    rw [h1]
    walk_at "ev"
    have e2 : fIx fd (.int 2) = some (.d (.tuple (f.vars.map Var.dat))) := by subst hfd; rfl
    have e0 : fIx fd (.int 0) = some (.d (natD f.count)) := by subst hfd; rfl
    have e1 : fIx fd (.int 1) = some (.d (.tuple (f.roots.map natD))) := by subst hfd; rfl
    rw [e2]
    walk_at "ev"
    obtain ⟨e', hfor, t2, us, x5, x6, rfl, ht2, hu1, hu2⟩ := forT_inv (tg := tgN 5) (b := M17b0 C) (dat := Var.dat) (xs := f.vars)
      (e := [some (.l t1), some (.d fd), some (.d (.int low)), some (.d (.int mode)), some (.l []), none, none])
      (fun pre e => ∃ (t' : List D) (us : List Var) (x5 x6 : Option W), e = [some (.l t'), some (.d fd), some (.d (.int low)), some (.d (.int mode)), some (.l (us.map Var.dat)), x5, x6] ∧ TapeOk t' ∧ (∀ v ∈ us, v.Ok f.count low) ∧ us.map Var.sh = pre.map Var.sh)
      ⟨t1, [], none, none, rfl, ht1, (fun v h => by cases h), rfl⟩ (fun pre v post e he hI => by
        obtain ⟨t', us, x5, x6, rfl, ht', hu1, hu2⟩ := hI
        have hv : v ∈ f.vars := by rw [he]; simp
        have hlen : us.length < 100000 := by
          have := congrArg List.length he
          have h2 := congrArg List.length hu2
          simp at this h2
          omega
        have hvo := hf.vars v hv
        refine ⟨_, rfl, ?_⟩
        unfold M17b0
        walk_at "ev"
        obtain ⟨m, hm, hm64, hmp, hmle⟩ := menu4 hm0 (by omega)
        rw [hm]
        walk_at "ev"
        obtain ⟨k, t3, h3, ht3, hk0, hk1⟩ := hD t' ht' m (log_small hm64)
        rw [h3]
        walk_at "ev"
        have v0 : fIx v.dat (.int 0) = some (.d (natD v.plug)) := rfl
        have v1 : fIx v.dat (.int 1) = some (.d (.tuple (v.slots.map natD))) := rfl
        have v2 : fIx v.dat (.int 2) = some (.d (priceD v.price)) := rfl
        obtain ⟨k', t4, ht4, hk, he⟩ : ∃ (k' : Int) (t4 : List D), TapeOk t4 ∧ (-1000000000 ≤ k' ∧ k' ≤ 1000000000 ∧ (low ≠ 1 → 0 ≤ k')) ∧ kIf (sSet 6 (eO1 fNeg (Opd.vr 6))) sNx
            (kAnd (tO2 cEq (Opd.ex (eCall C 5 [Arg.rf 0, Arg.vl (eC (PyData.int 3))])) (Opd.ex (eC (PyData.int 0)))) (.ok (low == 1) [some (.l t3), some (.d fd), some (.d (.int low)), some (.d (.int mode)), some (.l (us.map Var.dat)), some (.d v.dat), some (.d (.int k))])) =
            .ok .nx [some (.l t4), some (.d fd), some (.d (.int low)), some (.d (.int mode)), some (.l (us.map Var.dat)), some (.d v.dat), some (.d (.int k'))] := by
          cases hl : (low == 1) with
          | false =>
            refine ⟨k, t3, ht3, ⟨by omega, by omega, fun _ => hk0⟩, ?_⟩
            walk_at "ev"
          | true =>
            obtain ⟨k3, t5, h5, ht5, _⟩ := hD t3 ht3 3 (by decide)
            cases hk3 : (k3 == 0) with
            | true =>
              refine ⟨-k, t5, ht5, ⟨by omega, by omega, fun z => absurd (eq_of_beq hl) z⟩, ?_⟩
              walk_at "ev"
              rw [h5]
              walk_at "ev"
              rw [hk3]
              walk_at "ev"
            | false =>
              refine ⟨k, t5, ht5, ⟨by omega, by omega, fun _ => hk0⟩, ?_⟩
              walk_at "ev"
              rw [h5]
              walk_at "ev"
              rw [hk3]
              walk_at "ev"
        rw [he]
        clear he
        revert hk ht4
        revert k' t4
        intro k t3 ht3 hk
        walk_at "ev"
        rw [v2]
        walk_at "ev"
        rw [isNone_priceD]
        have add : ∀ p : Option Int, (∀ i, p = some i → i = k) → (∀ u ∈ us ++ [Var.mk v.plug v.slots p], u.Ok f.count low) := fun p hp u hu => by
          rcases List.mem_append.mp hu with hu | hu
          · exact hu1 u hu
          · simp at hu
            rw [hu]
            exact ⟨hvo.plug, hvo.slots, hvo.len, fun i hi => by rw [hp i hi]; exact hk⟩
        cases hp : v.price.isNone with
        | true =>
          walk_at "ev"
          rw [v0]
          walk_at "ev"
          rw [v1]
          walk_at "ev"
          rw [mApp_s (by rw [List.length_map]; omega)]
          walk_at "ev"
          exact ⟨by simp, t3, us ++ [Var.mk v.plug v.slots none], _, _, by simp only [List.map_append, List.map_cons, List.map_nil]; rfl, ht3, add none (fun i h => by cases h), by rw [List.map_append, List.map_append, hu2]; simp [Var.sh, hp]⟩
        | false =>
          walk_at "ev"
          rw [v0]
          walk_at "ev"
          rw [v1]
          walk_at "ev"
          rw [mApp_s (by rw [List.length_map]; omega)]
          walk_at "ev"
          exact ⟨by simp, t3, us ++ [Var.mk v.plug v.slots (some k)], _, _, by simp only [List.map_append, List.map_cons, List.map_nil]; rfl, ht3, add (some k) (fun i h => by cases h; rfl), by rw [List.map_append, List.map_append, hu2]; simp [Var.sh, hp]⟩)
    rw [hfor]
    walk_at "ev"
    rw [e0]
    walk_at "ev"
    rw [e1]
    walk_at "ev"
    refine ⟨⟨f.count, f.roots, us⟩, t2, rfl, rfl, ht2, ⟨hf.pos, hf.count, hf.roots, hf.asc, hu1, ?_⟩, rfl, rfl, hu2⟩
    have h2 := congrArg List.length hu2
    simp at h2
    show us.length ≤ _
    rw [h2]
    exact hf.len
  obtain ⟨w, o, h, g, t', rfl, rfl, h1, h2, h3⟩ := run
  exact ⟨g, t', h, h1, h2, h3⟩
end Mi
set_option Elab.async false
set_option linter.all false
set_option maxRecDepth 100000
set_option maxHeartbeats 4000000
namespace Mi
open PySem L2
local macro_rules | `(tactic| push_cast [$hs,*]) => `(tactic| simp -implicitDefEqProofs (disch := first | omega | (simp only [rng_len, List.length_map, List.length_append, List.length_range, List.length_replicate, List.length_cons, List.length_nil, List.length_set, List.length_reverse, List.length_zipIdx]; omega)) only [ev_seq, ev_if, ev_ifE, ev_nx, ev_bk, ev_ct, ev_E, ev_set, ev_tg, ev_ret, ev_retO, ev_retN, ev_put, ev_for, ev_C, ev_V, ev_vr, ev_ex, ev_o1, ev_o2, ev_t2, ev_tru, ev_and, ev_or, ev_not, ev_yes, ev_andE, ev_orE, ev_notE, ev_LN, ev_LC, ev_B, ev_TN, ev_TC, ev_tup, ev_lst, ev_GN, ev_GV, ev_GR, ev_call, ev_mu, ev_lc, ev_any, ev_r1, ev_r2, ev_rep, kS_nx, kS_bk, kS_ct, kS_rt, kIf_t, kIf_f, kM_ok, kSet_ok, kAnd_t, kAnd_f, kOr_t, kOr_f, kAndE_t, kAndE_f, kOrE_t, kOrE_f, kNotE_b, oVr_s, kO2_ok, kO2'_ok, g2_ss, gv_l, gv_r, kL_ok, kL'_ok, kB_ok, gB_s, gvL_n, gvL_c, kV_ss, kT_ok, kT'_ok, kG_ok, kG'_ok, gG_l, gG_t, gG_d, kC_ok, kC1_s, kC2_ok, kP_s, take_n, take_l, take_r, put_n, put_l, put_r, pt1_s, kPut1_ok, kPut2_ok, isL_l, kMu_ok, kFor_ok, kSeqI_l, kSeqI_l', kSeqI_t, kR2_ok, kRep_ok, rV_d, rV_l, cont_n, cont_c, ct1_s, wp_ok, wpC_ok, atI_0, atI_1, atI_2, atI_3, fIx_l, fIx_t, List.length_cons, List.length_nil, Nat.zero_add, Nat.reduceAdd, Int.reduceLT, Int.reduceLE, Int.reduceAdd, Int.reduceMul, Int.reduceToNat, Int.reduceNeg, Int.reduceSub, Nat.reduceLT, Nat.reduceLeDiff, Nat.reduceMul, gt_iff_lt, ge_iff_le, ixN_4_0, ixN_4_1, ixN_4_2, ixN_4_3, wipe_n, wipe_c, tgN_r, tgT_r, tgL_n, tgL_c, ofO_some, vw_d, vw_l, fAddI_int, fSub_int, fNeg_int, fMod_p, fMul_31, fMul_48271, fMul_69621, fPow18, fPow9, cCmp_int, cEq_int, cNe_int, cEq_str, cNe_str, cOrd_int, ev_aug, kAug_ok, ev_en, kEn_t, fIs_int, fIs_bool, fIs_none, fIs_str, fIs_list, fIs_tuple, isTy_int_int, isTy_int_bool, isTy_tuple_tuple, cIs_none, cIsNot_none, isNone_none, isNone_int, isNone_str, isNone_tuple, isNone_list, isNone_bool, truD_l, truD_t, truD_b, truD_n, bLen_l, bLen_t, bAbs_int, bInt_int, bMax_int, bMin_int, bList_l, bList_t, bTuple_l, bTuple_t, Option.map_some, Option.bind_some, List.getD_cons_zero, List.getD_cons_succ, List.set_cons_zero, List.set_cons_succ, if_true, if_false, lB, ↓reduceIte, Bool.not_true, Bool.not_false, kO1_ok, g1_s, kTru_ok, vf_d, vf_l, tk1_s, tkW_s, isO_l, isO_t, kF_ok, endF_r, endF_n, kF_ex, endX_s, rV_t, lpos_n, lpos_l, lpos_t, lpos_d, fAdd_int, ev_pN, ev_pS, kP1_i, ev_sl, kSl_ok, kSl2_ok, kSl3_ok, fSl_l, fSl_t, fRev_l, fRev_t, kR1_c, kR1_n, kR2_c, kLc_c, kRep2_n, gPut_n, gPut_c, gMu_app, rep_n, vw_d, List.length_map, List.length_range, rng_len, Int.toNat_natCast, beq_self_eq_true, Bool.not_true, Bool.not_false, Option.isNone_none, Option.isNone_some, decide_true, decide_false, ev_forN, List.isEmpty_nil, List.isEmpty_cons, kTg_2, kTg_3, ev_mv, gMv_s, ev_rvA, kRvA_t, kRvA_d, kRvA_l, ev_g1, kg1_i, ev_g2, kg2a_i, kg2_i, fNotT_l, fNotT_b, ev_tupR, ev_lstR, kTupR_s, kLstR_s, ev_rvR, kRvR_s, $hs,*])
local macro_rules | `(tactic| walk_at "ev") => `(tactic| simp only [ev_seq, ev_if, ev_ifE, ev_nx, ev_bk, ev_ct, ev_E, ev_set, ev_tg, ev_ret, ev_retO, ev_retN, ev_put, ev_for, ev_C, ev_V, ev_vr, ev_ex, ev_o1, ev_o2, ev_t2, ev_tru, ev_and, ev_or, ev_not, ev_yes, ev_andE, ev_orE, ev_notE, ev_LN, ev_LC, ev_B, ev_TN, ev_TC, ev_tup, ev_lst, ev_GN, ev_GV, ev_GR, ev_call, ev_mu, ev_lc, ev_any, ev_r1, ev_r2, ev_rep, kS_nx, kS_bk, kS_ct, kS_rt, kIf_t, kIf_f, kM_ok, kSet_ok, kAnd_t, kAnd_f, kOr_t, kOr_f, kAndE_t, kAndE_f, kOrE_t, kOrE_f, kNotE_b, oVr_s, kO2_ok, kO2'_ok, g2_ss, gv_l, gv_r, kL_ok, kL'_ok, kB_ok, gB_s, gvL_n, gvL_c, kV_ss, kT_ok, kT'_ok, kG_ok, kG'_ok, gG_l, gG_t, gG_d, kC_ok, kC1_s, kC2_ok, kP_s, take_n, take_l, take_r, put_n, put_l, put_r, pt1_s, kPut1_ok, kPut2_ok, gPut_l, isL_l, kMu_ok, gMu_l, kFor_ok, kLc_ok, kSeqI_l, kSeqI_l', kSeqI_t, kR1_i, kR2_ok, kR2'_i, kRep_ok, kRep2_i, rV_d, rV_l, cont_n, cont_c, ct1_s, wp_ok, wpC_ok, atI_0, atI_1, atI_2, atI_3, fIx_l, fIx_t, List.length_cons, List.length_nil, Nat.zero_add, Nat.reduceAdd, Int.reduceLT, Int.reduceLE, Int.reduceAdd, Int.reduceMul, Int.reduceToNat, Int.reduceNeg, Int.reduceSub, Nat.reduceLT, Nat.reduceLeDiff, Nat.reduceMul, gt_iff_lt, ge_iff_le, ixN_4_0, ixN_4_1, ixN_4_2, ixN_4_3, wipe_n, wipe_c, tgN_r, tgT_r, tgL_n, tgL_c, ofO_some, vw_d, vw_l, fAddI_int, fSub_int, fNeg_int, fMod_p, fMul_31, fMul_48271, fMul_69621, fPow18, fPow9, cCmp_int, cEq_int, cNe_int, cEq_str, cNe_str, cOrd_int, ev_aug, kAug_ok, ev_en, kEn_t, fIs_int, fIs_bool, fIs_none, fIs_str, fIs_list, fIs_tuple, isTy_int_int, isTy_int_bool, isTy_tuple_tuple, cIs_none, cIsNot_none, isNone_none, isNone_int, isNone_str, isNone_tuple, isNone_list, isNone_bool, truD_l, truD_t, truD_b, truD_n, bLen_l, bLen_t, bAbs_int, bInt_int, bMax_int, bMin_int, bList_l, bList_t, bTuple_l, bTuple_t, Option.map_some, Option.bind_some, List.getD_cons_zero, List.getD_cons_succ, List.set_cons_zero, List.set_cons_succ, if_true, if_false, lB, ↓reduceIte, Bool.not_true, Bool.not_false, kO1_ok, g1_s, kTru_ok, vf_d, vf_l, tk1_s, tkW_s, isO_l, isO_t, kF_ok, endF_r, endF_n, kF_ex, endX_s, rV_t, lpos_n, lpos_l, lpos_t, lpos_d, fAdd_int, ev_pN, ev_pS, kP1_i, ev_sl, kSl_ok, kSl2_ok, kSl3_ok, fSl_l, fSl_t, fRev_l, fRev_t])
def M14b0 (C : Orc) : MS :=
 (sSeq (sIf (tO2 cIs (.ex (eO2 fIx (.vr 1) (.vr 6))) (.ex (eC .none)))
 (sRet (eC .none))
 sNx)
 (sSeq (sAug 4 (fun i j => i + j) (eO2 fIx (.ex (eO2 fIx (.vr 1) (.vr 6))) (.ex (eC (.int 0)))))
 (sAug 5 (fun i j => i + j) (eO2 fIx (.ex (eO2 fIx (.vr 1) (.vr 6))) (.ex (eC (.int 1)))))))
/-- weight_of -/
def M14 (C : Orc) : MS :=
 (sSeq (sTg (tgT [(tgN 2), (tgN 3), (tgN 4)]) (eV 0))
 (sSeq (sIf (tO2 cIs (.vr 4) (.ex (eC .none)))
 (sRet (eC .none))
 sNx)
 (sSeq (sSet 5 (eC (.int 1)))
 (sSeq (sFor (iAny (eV 3)) (tgN 6)
 (M14b0 C))
 (sRet (eTup [(eV 4), (eV 5)]))))))
def F14 (C : Orc) : List W → CRes := runF 2 7 [[]] (M14 C)
def M15b0 (C : Orc) : MS :=
 (sSeq (sSet 7 (eO2 fIx (.vr 6) (.ex (eC (.int 0)))))
 (sSeq (sSet 8 (eCall C 14 [.vl (eV 6), .vl (eV 1)]))
 (sIf (tAnd' (tO2 cIsNot (.vr 8) (.ex (eC .none))) (tOr' (tO2 cIs (.ex (eO2 fIx (.vr 5) (.vr 7))) (.ex (eC .none))) (tO2 dLt (.vr 8) (.ex (eO2 fIx (.vr 5) (.vr 7))))))
 (sPut 5 (eV 7) (eV 8))
 sNx)))
/-- least_round -/
def M15 (C : Orc) : MS :=
 (sSeq (sTg (tgT [(tgN 2), (tgN 3), (tgN 4)]) (eV 0))
 (sSeq (sSet 5 (eRep (eLst [(eC .none)]) (eV 2)))
 (sSeq (sFor (iAny (eV 4)) (tgN 6)
 (M15b0 C))
 (sRet (eB bTuple [(.vr 5)])))))
def F15 (C : Orc) : List W → CRes := runF 2 9 [[]] (M15 C)
def M16b0 (C : Orc) : MS :=
 (sSeq (sIf (tO2 cIs (.ex (eO2 fIx (.vr 1) (.vr 4))) (.ex (eC .none)))
 (sRet (eC .none))
 sNx)
 (sSeq (sSet 2 (eO2 fAdd (.vr 2) (.ex (eO2 fIx (.ex (eO2 fIx (.vr 1) (.vr 4))) (.ex (eC (.int 0)))))))
 (sSet 3 (eO2 fAdd (.vr 3) (.ex (eO2 fIx (.ex (eO2 fIx (.vr 1) (.vr 4))) (.ex (eC (.int 1)))))))))
/-- _law_weight -/
def M16 (C : Orc) : MS :=
 (sSeq (sIf (tO2 cIs (.ex (eO2 fIx (.vr 0) (.ex (eC (.int 2))))) (.ex (eC .none)))
 (sRet (eC .none))
 sNx)
 (sSeq (sSet 2 (eO2 fIx (.vr 0) (.ex (eC (.int 2)))))
 (sSeq (sSet 3 (eC (.int 1)))
 (sSeq (sFor (iAny (eO2 fIx (.vr 0) (.ex (eC (.int 1))))) (tgN 4)
 (M16b0 C))
 (sRet (eTup [(eV 2), (eV 3)]))))))
def F16 (C : Orc) : List W → CRes := runF 2 5 [[]] (M16 C)
def M21b0 (C : Orc) : MS :=
 (sSeq (sSet 4 (eCall C 16 [.vl (eV 3), .vl (eV 1)]))
 (sIf (tAnd' (tO2 cIsNot (.vr 4) (.ex (eC .none))) (tOr' (tO2 cIs (.ex (eO2 fIx (.vr 2) (.ex (eO2 fIx (.vr 3) (.ex (eC (.int 0))))))) (.ex (eC .none))) (tO2 dLt (.vr 4) (.ex (eO2 fIx (.vr 2) (.ex (eO2 fIx (.vr 3) (.ex (eC (.int 0))))))))))
 (sPut 2 (eO2 fIx (.vr 3) (.ex (eC (.int 0)))) (eV 4))
 sNx))
/-- _law_rounded -/
def M21 (C : Orc) : MS :=
 (sSeq (sSet 2 (eLc (iR1 (eO2 fIx (.vr 0) (.ex (eC (.int 0))))) (tgN 5) mYes (eC .none) [5]))
 (sSeq (sFor (iAny (eO2 fIx (.vr 0) (.ex (eC (.int 2))))) (tgN 3)
 (M21b0 C))
 (sRet (eB bTuple [(.vr 2)]))))
def F21 (C : Orc) : List W → CRes := runF 2 6 [[]] (M21 C)
theorem forL_nx {tg : Tg} {b : MS} {x : D} {xs : List D} {e e0 e1 : Env} (h1 : tg x e = some e0) (h2 : b e0 = .ok .nx e1) : forL tg b (x :: xs) e = forL tg b xs e1 := by
  show (match tg x e with | none => Res.no | some e0 => bnd (b e0) fun o e1 => match o with | .nx => forL tg b xs e1 | .ct => forL tg b xs e1 | .bk => .ok .nx e1 | .rt w => .ok (.rt w) e1) = _
  rw [h1]
  show bnd (b e0) _ = _
  rw [h2]
  rfl
theorem forL_rt {tg : Tg} {b : MS} {x : D} {xs : List D} {e e0 e1 : Env} {w : W} (h1 : tg x e = some e0) (h2 : b e0 = .ok (.rt w) e1) : forL tg b (x :: xs) e = .ok (.rt w) e1 := by
  show (match tg x e with | none => Res.no | some e0 => bnd (b e0) fun o e1 => match o with | .nx => forL tg b xs e1 | .ct => forL tg b xs e1 | .bk => .ok .nx e1 | .rt w => .ok (.rt w) e1) = _
  rw [h1]
  show bnd (b e0) _ = _
  rw [h2]
  rfl
/-! ### weights -/
abbrev Wt := Option (Int × Int)
def wD : Wt → D
  | none => .none
  | some p => .tuple [.int p.1, .int p.2]
def wsum (ws : List Wt) : List Nat → Int → Int → Wt
  | [], p, n => some (p, n)
  | s :: ss, p, n => match ws.getD s none with
    | none => none
    | some q => wsum ws ss (p + q.1) (n + q.2)
def weight (v : Var) (ws : List Wt) : Wt := match v.price with
  | none => none
  | some p => wsum ws v.slots p 1
theorem wt_at {ts : List Wt} {s : Nat} (h : s < ts.length) : atI (ts.map wD) (s : Int) = some (wD (ts.getD s none)) := by
  refine atI_get ?_
  rw [List.getElem?_map, List.getD_eq_getElem?_getD]
  simp [h]
theorem isNone_wD (z : Wt) : isNone (wD z) = z.isNone := by cases z <;> rfl
theorem wof_loop (C : Orc) (ws : List Wt) (x0 x2 x3 : Option W) : ∀ (sl : List Nat) (p n : Int) (x6 : Option W), (∀ s ∈ sl, s < ws.length) →
    Wp (forL (tgN 6) (M14b0 C) (sl.map natD) [x0, some (.d (.tuple (ws.map wD))), x2, x3, some (.d (.int p)), some (.d (.int n)), x6]) fun o e =>
      match wsum ws sl p n with
      | some q => o = .nx ∧ ∃ y, e = [x0, some (.d (.tuple (ws.map wD))), x2, x3, some (.d (.int q.1)), some (.d (.int q.2)), y]
      | none => o = .rt (.d .none)
  | [], p, n, x6, _ => ⟨.nx, _, rfl, rfl, x6, rfl⟩
  | s :: ss, p, n, x6, h => by
    have hs := h s List.mem_cons_self
    have ih := fun p n x6 => wof_loop C ws x0 x2 x3 ss p n x6 fun z hz => h z (List.mem_cons_of_mem _ hz)
    have at1 := wt_at hs
    unfold wsum
    cases hw : ws.getD s none with
    | none =>
      rw [hw] at at1
      have hb : ∃ e1, M14b0 C [x0, some (.d (.tuple (ws.map wD))), x2, x3, some (.d (.int p)), some (.d (.int n)), some (.d (.int (s : Int)))] = .ok (.rt (.d .none)) e1 := by
        refine ⟨[x0, some (.d (.tuple (ws.map wD))), x2, x3, some (.d (.int p)), some (.d (.int n)), some (.d (.int (s : Int)))], ?_⟩
        unfold M14b0
        walk_at "ev"
        rw [at1]
        simp only [wD]
        walk_at "ev"
      obtain ⟨e1, hb⟩ := hb
      rw [List.map_cons, forL_rt (e0 := [x0, some (.d (.tuple (ws.map wD))), x2, x3, some (.d (.int p)), some (.d (.int n)), some (.d (.int (s : Int)))]) rfl hb]
      exact ⟨_, _, rfl, rfl⟩
    | some q =>
      rw [hw] at at1
      have hb : M14b0 C [x0, some (.d (.tuple (ws.map wD))), x2, x3, some (.d (.int p)), some (.d (.int n)), some (.d (.int (s : Int)))] = .ok .nx [x0, some (.d (.tuple (ws.map wD))), x2, x3, some (.d (.int (p + q.1))), some (.d (.int (n + q.2))), some (.d (.int (s : Int)))] := by
        unfold M14b0
        walk_at "ev"
        rw [at1]
        simp only [wD]
        walk_at "ev"
        rw [at1]
        simp only [wD]
        walk_at "ev"
        rw [at1]
        simp only [wD]
        walk_at "ev"
      rw [List.map_cons, forL_nx (e0 := [x0, some (.d (.tuple (ws.map wD))), x2, x3, some (.d (.int p)), some (.d (.int n)), some (.d (.int (s : Int)))]) rfl hb]
      exact ih _ _ _

theorem kTg_s {t : Tg} {w : W} {e e2 : Env} (h : t (vw w) e = some e2) : kTg t (.ok w e) = .ok .nx e2 := by
  show (match t (vw w) e with | some e2 => _ | none => _) = _
  rw [h]
theorem isNone_pd (p : Option Int) : isNone (priceD p) = p.isNone := by cases p <;> rfl
theorem weight_of_ok (C : Orc) (v : Var) (ws : List Wt) (hs : ∀ s ∈ v.slots, s < ws.length) (vd : D) (hvd : vd = .tuple [natD v.plug, .tuple (v.slots.map natD), priceD v.price]) : F14 C [.d vd, .d (.tuple (ws.map wD))] = .ok (.d (wD (weight v ws))) [] := by
  have run : WpC (F14 C [.d vd, .d (.tuple (ws.map wD))]) fun w o => w = .d (wD (weight v ws)) ∧ o = [] := by
    refine wpC_run (m := M14 C) rfl rfl rfl ?_
    simp only [List.map_cons, List.map_nil, List.cons_append, List.nil_append, List.replicate]
    unfold M14
    walk_at "ev"
    have ht : tgT [tgN 2, tgN 3, tgN 4] vd [some (.d vd), some (.d (.tuple (ws.map wD))), none, none, none, none, none] = some [some (.d vd), some (.d (.tuple (ws.map wD))), some (.d (natD v.plug)), some (.d (.tuple (v.slots.map natD))), some (.d (priceD v.price)), none, none] := by
      subst hvd; rfl
    rw [kTg_s ht]
    walk_at "ev"
    rw [isNone_pd]
    unfold weight
    cases hp : v.price with
    | none =>
      simp only [Option.isNone_none]
      walk_at "ev"
      exact ⟨by trivial, by trivial⟩
    | some p =>
      simp only [Option.isNone_some, priceD]
      walk_at "ev"
      obtain ⟨o, e, h1, h2⟩ := wof_loop C ws (some (.d vd)) (some (.d (natD v.plug))) (some (.d (.tuple (v.slots.map natD)))) v.slots p 1 none hs
      rw [h1]
      cases hw : wsum ws v.slots p 1 with
      | none =>
        rw [hw] at h2
        subst h2
        walk_at "ev"
        exact ⟨by trivial, by trivial⟩
      | some q =>
        rw [hw] at h2
        obtain ⟨rfl, y, rfl⟩ := h2
        walk_at "ev"
        exact ⟨by trivial, by trivial⟩
  obtain ⟨w, o, h, rfl, rfl⟩ := run
  exact h
theorem lw_loop (C : Orc) (ws : List Wt) (x0 : Option W) : ∀ (sl : List Nat) (p n : Int) (x6 : Option W), (∀ s ∈ sl, s < ws.length) →
    Wp (forL (tgN 4) (M16b0 C) (sl.map natD) [x0, some (.d (.tuple (ws.map wD))), some (.d (.int p)), some (.d (.int n)), x6]) fun o e =>
      match wsum ws sl p n with
      | some q => o = .nx ∧ ∃ y, e = [x0, some (.d (.tuple (ws.map wD))), some (.d (.int q.1)), some (.d (.int q.2)), y]
      | none => o = .rt (.d .none)
  | [], p, n, x6, _ => ⟨.nx, _, rfl, rfl, x6, rfl⟩
  | s :: ss, p, n, x6, h => by
    have hs := h s List.mem_cons_self
    have ih := fun p n x6 => lw_loop C ws x0 ss p n x6 fun z hz => h z (List.mem_cons_of_mem _ hz)
    have at1 := wt_at hs
    unfold wsum
    cases hw : ws.getD s none with
    | none =>
      rw [hw] at at1
      have hb : ∃ e1, M16b0 C [x0, some (.d (.tuple (ws.map wD))), some (.d (.int p)), some (.d (.int n)), some (.d (.int (s : Int)))] = .ok (.rt (.d .none)) e1 := by
        refine ⟨[x0, some (.d (.tuple (ws.map wD))), some (.d (.int p)), some (.d (.int n)), some (.d (.int (s : Int)))], ?_⟩
        unfold M16b0
        walk_at "ev"
        rw [at1]
        simp only [wD]
        walk_at "ev"
      obtain ⟨e1, hb⟩ := hb
      rw [List.map_cons, forL_rt (e0 := [x0, some (.d (.tuple (ws.map wD))), some (.d (.int p)), some (.d (.int n)), some (.d (.int (s : Int)))]) rfl hb]
      exact ⟨_, _, rfl, rfl⟩
    | some q =>
      rw [hw] at at1
      have hb : M16b0 C [x0, some (.d (.tuple (ws.map wD))), some (.d (.int p)), some (.d (.int n)), some (.d (.int (s : Int)))] = .ok .nx [x0, some (.d (.tuple (ws.map wD))), some (.d (.int (p + q.1))), some (.d (.int (n + q.2))), some (.d (.int (s : Int)))] := by
        unfold M16b0
        walk_at "ev"
        rw [at1]
        simp only [wD]
        walk_at "ev"
        rw [at1]
        simp only [wD]
        walk_at "ev"
        rw [at1]
        simp only [wD]
        walk_at "ev"
      rw [List.map_cons, forL_nx (e0 := [x0, some (.d (.tuple (ws.map wD))), some (.d (.int p)), some (.d (.int n)), some (.d (.int (s : Int)))]) rfl hb]
      exact ih _ _ _
theorem law_weight_ok (C : Orc) (v : Var) (ws : List Wt) (hs : ∀ s ∈ v.slots, s < ws.length) (vd : D) (hvd : vd = .tuple [natD v.plug, .tuple (v.slots.map natD), priceD v.price]) : F16 C [.d vd, .d (.tuple (ws.map wD))] = .ok (.d (wD (weight v ws))) [] := by
  have run : WpC (F16 C [.d vd, .d (.tuple (ws.map wD))]) fun w o => w = .d (wD (weight v ws)) ∧ o = [] := by
    refine wpC_run (m := M16 C) rfl rfl rfl ?_
    simp only [List.map_cons, List.map_nil, List.cons_append, List.nil_append, List.replicate]
    unfold M16
    have v1 : fIx vd (.int 1) = some (.d (.tuple (v.slots.map natD))) := by subst hvd; rfl
    have v2 : fIx vd (.int 2) = some (.d (priceD v.price)) := by subst hvd; rfl
    walk_at "ev"
    rw [v2]
    walk_at "ev"
    rw [isNone_pd]
    unfold weight
    cases hp : v.price with
    | none =>
      simp only [Option.isNone_none]
      walk_at "ev"
      exact ⟨by trivial, by trivial⟩
    | some p =>
      simp only [Option.isNone_some]
      walk_at "ev"
      rw [v2, hp]
      simp only [priceD]
      walk_at "ev"
      rw [v1]
      walk_at "ev"
      obtain ⟨o, e, h1, h2⟩ := lw_loop C ws (some (.d vd)) v.slots p 1 none hs
      rw [h1]
      cases hw : wsum ws v.slots p 1 with
      | none =>
        rw [hw] at h2
        subst h2
        walk_at "ev"
        exact ⟨by trivial, by trivial⟩
      | some q =>
        rw [hw] at h2
        obtain ⟨rfl, y, rfl⟩ := h2
        walk_at "ev"
        exact ⟨by trivial, by trivial⟩
  obtain ⟨w, o, h, rfl, rfl⟩ := run
  exact h
/-! ### a round -/
def wless (a b : Int × Int) : Bool := PySem.W.dataLt (wD (some a)) (wD (some b))
theorem dLt_w {a b : Int × Int} : dLt (wD (some a)) (wD (some b)) = some (wless a b) := by
  show (if PySem.W.alike (wD (some a)) (wD (some b)) = true ∧ isNone (wD (some a)) = false ∧ min (wD (some a)).depth (wD (some b)).depth ≤ 64 then some (PySem.W.dataLt (wD (some a)) (wD (some b))) else none) = some (wless a b)
  exact if_pos ⟨rfl, rfl, by simp [wD, PyData.depth, PyData.depthAll]⟩
def wtake : Wt → Wt → Bool
  | none, _ => false
  | some _, none => true
  | some a, some b => wless a b
theorem wtake_t {a b : Int × Int} (h : wless a b = true) : wtake (some a) (some b) = true := h
theorem wtake_f {a b : Int × Int} (h : wless a b = false) : ¬ wtake (some a) (some b) = true := by
  rw [show wtake (some a) (some b) = wless a b from rfl, h]
  decide
def wStep (ws row : List Wt) (v : Var) : List Wt := if wtake (weight v ws) (row.getD v.plug none) = true then row.set v.plug (weight v ws) else row
def wRound (f : Fam) (ws : List Wt) : List Wt := f.vars.foldl (wStep ws) (List.replicate f.count none)
structure WtFor (f : Fam) (ws : List Wt) : Prop where
  len : ws.length = f.count
  plug : ∀ v ∈ f.vars, v.plug < f.count
  slots : ∀ v ∈ f.vars, ∀ s ∈ v.slots, s < f.count
  small : f.count ≤ 1000
theorem wStep_len {ws row : List Wt} {v : Var} : (wStep ws row v).length = row.length := by
  unfold wStep
  split <;> simp
theorem wset_map {row : List Wt} {i : Nat} {x : Wt} : (row.map wD).set i (wD x) = (row.set i x).map wD := (List.map_set ..).symm
theorem ixN_nat {n i : Nat} (h : i < n) : ixN n (i : Int) = some i := by
  rw [ixN_lit (by omega) (by omega)]; simp
theorem wnone : wD none = .none := rfl
theorem least_step (C : Orc) (h14 : ∀ (v : Var) (ws : List Wt), (∀ s ∈ v.slots, s < ws.length) → C 14 [.d v.dat, .d (.tuple (ws.map wD))] = .ok (.d (wD (weight v ws))) []) (ws row : List Wt) (v : Var) (hs : ∀ s ∈ v.slots, s < ws.length) (hp : v.plug < row.length) (x0 x2 x3 x4 y7 y8 : Option W) :
    Wp (M15b0 C [x0, some (.d (.tuple (ws.map wD))), x2, x3, x4, some (.l (row.map wD)), some (.d v.dat), y7, y8]) fun o e => o = .nx ∧ ∃ y6 y7 y8 : Option W, e = [x0, some (.d (.tuple (ws.map wD))), x2, x3, x4, some (.l ((wStep ws row v).map wD)), y6, y7, y8] := by
  have v0 : fIx v.dat (.int 0) = some (.d (.int (v.plug : Int))) := rfl
  have a1 := wt_at hp
  unfold M15b0
  walk_at "ev"
  rw [v0]
  walk_at "ev"
  rw [h14 v ws hs]
  walk_at "ev"
  rw [isNone_wD]
  unfold wStep
  cases hw : weight v ws with
  | none =>
    simp only [Option.isNone_none]
    walk_at "ev"
    exact ⟨by trivial, _, _, _, rfl⟩
  | some a =>
    simp only [Option.isNone_some]
    walk_at "ev"
    rw [a1]
    walk_at "ev"
    rw [isNone_wD]
    cases ho : row.getD v.plug none with
    | none =>
      simp only [Option.isNone_none]
      walk_at "ev"
      rw [ixN_nat (by rw [List.length_map]; exact hp)]
      walk_at "ev"
      exact ⟨by trivial, _, _, _, by rw [wset_map]; rfl⟩
    | some b =>
      rw [ho] at a1
      simp only [Option.isNone_some]
      walk_at "ev"
      rw [a1]
      walk_at "ev"
      rw [dLt_w]
      walk_at "ev"
      cases hl : wless a b with
      | true =>
        walk_at "ev"
        rw [ixN_nat (by rw [List.length_map]; exact hp)]
        walk_at "ev"
        exact ⟨by trivial, _, _, _, by rw [wset_map, if_pos (wtake_t hl)]⟩
      | false =>
        walk_at "ev"
        exact ⟨by trivial, _, _, _, by rw [if_neg (wtake_f hl)]⟩
theorem round_step (C : Orc) (h16 : ∀ (v : Var) (ws : List Wt), (∀ s ∈ v.slots, s < ws.length) → C 16 [.d v.dat, .d (.tuple (ws.map wD))] = .ok (.d (wD (weight v ws))) []) (ws row : List Wt) (v : Var) (hs : ∀ s ∈ v.slots, s < ws.length) (hp : v.plug < row.length) (x0 y4 x5 : Option W) :
    Wp (M21b0 C [x0, some (.d (.tuple (ws.map wD))), some (.l (row.map wD)), some (.d v.dat), y4, x5]) fun o e => o = .nx ∧ ∃ y3 y4 : Option W, e = [x0, some (.d (.tuple (ws.map wD))), some (.l ((wStep ws row v).map wD)), y3, y4, x5] := by
  have v0 : fIx v.dat (.int 0) = some (.d (.int (v.plug : Int))) := rfl
  have a1 := wt_at hp
  unfold M21b0
  walk_at "ev"
  rw [h16 v ws hs]
  walk_at "ev"
  rw [isNone_wD]
  unfold wStep
  cases hw : weight v ws with
  | none =>
    simp only [Option.isNone_none]
    walk_at "ev"
    exact ⟨by trivial, _, _, rfl⟩
  | some a =>
    simp only [Option.isNone_some]
    walk_at "ev"
    rw [v0]
    walk_at "ev"
    rw [a1]
    walk_at "ev"
    rw [isNone_wD]
    cases ho : row.getD v.plug none with
    | none =>
      simp only [Option.isNone_none]
      walk_at "ev"
      rw [v0]
      walk_at "ev"
      rw [ixN_nat (by rw [List.length_map]; exact hp)]
      walk_at "ev"
      exact ⟨by trivial, _, _, by rw [wset_map]; rfl⟩
    | some b =>
      rw [ho] at a1
      simp only [Option.isNone_some]
      walk_at "ev"
      rw [v0]
      walk_at "ev"
      rw [a1]
      walk_at "ev"
      rw [dLt_w]
      walk_at "ev"
      cases hl : wless a b with
      | true =>
        walk_at "ev"
        rw [v0]
        walk_at "ev"
        rw [ixN_nat (by rw [List.length_map]; exact hp)]
        walk_at "ev"
        exact ⟨by trivial, _, _, by rw [wset_map, if_pos (wtake_t hl)]⟩
      | false =>
        walk_at "ev"
        exact ⟨by trivial, _, _, by rw [if_neg (wtake_f hl)]⟩
theorem least_round_ok (C : Orc) (h14 : ∀ (v : Var) (ws : List Wt), (∀ s ∈ v.slots, s < ws.length) → C 14 [.d v.dat, .d (.tuple (ws.map wD))] = .ok (.d (wD (weight v ws))) []) (f : Fam) (fd : D) (hfd : fd = .tuple [natD f.count, .tuple (f.roots.map natD), .tuple (f.vars.map Var.dat)]) (ws : List Wt) (hf : WtFor f ws) :
    F15 C [.d fd, .d (.tuple (ws.map wD))] = .ok (.d (.tuple ((wRound f ws).map wD))) [] := by
  have run : WpC (F15 C [.d fd, .d (.tuple (ws.map wD))]) fun w o => w = .d (.tuple ((wRound f ws).map wD)) ∧ o = [] := by
    refine wpC_run (m := M15 C) rfl rfl rfl ?_
    simp only [List.map_cons, List.map_nil, List.cons_append, List.nil_append, List.replicate]
    unfold M15
    walk_at "ev"
    have ht : tgT [tgN 2, tgN 3, tgN 4] fd [some (.d fd), some (.d (.tuple (ws.map wD))), none, none, none, none, none, none, none] = some [some (.d fd), some (.d (.tuple (ws.map wD))), some (.d (natD f.count)), some (.d (.tuple (f.roots.map natD))), some (.d (.tuple (f.vars.map Var.dat))), none, none, none, none] := by
      subst hfd; rfl
    obtain ⟨c, hc, hc0, hcn⟩ : ∃ c : Int, natD f.count = .int c ∧ 0 ≤ c ∧ c.toNat = f.count := ⟨f.count, rfl, by omega, by simp⟩
    rw [kTg_s ht, hc]
    walk_at "ev"
    have hz := hf.small
    rw [if_pos (by omega)]
    walk_at "ev"
    have hrep : (List.replicate c.toNat [PyData.none]).flatten = (List.replicate f.count (none : Wt)).map wD := by
      rw [hcn, List.map_replicate]
      generalize f.count = n
      induction n with
      | zero => rfl
      | succ n ih => simp only [List.replicate_succ, List.flatten_cons, ih]; rfl
    rw [hrep]
    generalize some (W.d (PyData.int c)) = x2
    obtain ⟨e', hfor, ⟨y6, y7, y8, rfl⟩, _⟩ := forL_fold (tg := tgN 6) (b := M15b0 C) (dat := Var.dat) (step := wStep ws) (xs := f.vars) (s := List.replicate f.count none)
      (env := fun row e => ∃ y6 y7 y8 : Option W, e = [some (.d fd), some (.d (.tuple (ws.map wD))), x2, some (.d (.tuple (f.roots.map natD))), some (.d (.tuple (f.vars.map Var.dat))), some (.l (row.map wD)), y6, y7, y8])
      (P := fun row => row.length = f.count) ⟨none, none, none, rfl⟩ (by simp) (fun v row e hv hr he => by
        obtain ⟨y6, y7, y8, rfl⟩ := he
        refine ⟨by rw [wStep_len]; exact hr, _, rfl, ?_⟩
        exact (least_step C h14 ws row v (fun s hs => by rw [hf.len]; exact hf.slots v hv s hs) (by rw [hr]; exact hf.plug v hv) _ _ _ _ _ _).mono fun o e1 ⟨h1, h2⟩ => ⟨.inl h1, h2⟩)
    rw [hfor]
    walk_at "ev"
    exact ⟨by trivial, by trivial⟩
  obtain ⟨w, o, h, rfl, rfl⟩ := run
  exact h
theorem rounded_ok (C : Orc) (h16 : ∀ (v : Var) (ws : List Wt), (∀ s ∈ v.slots, s < ws.length) → C 16 [.d v.dat, .d (.tuple (ws.map wD))] = .ok (.d (wD (weight v ws))) []) (f : Fam) (fd : D) (hfd : fd = .tuple [natD f.count, .tuple (f.roots.map natD), .tuple (f.vars.map Var.dat)]) (ws : List Wt) (hf : WtFor f ws) :
    F21 C [.d fd, .d (.tuple (ws.map wD))] = .ok (.d (.tuple ((wRound f ws).map wD))) [] := by
  have run : WpC (F21 C [.d fd, .d (.tuple (ws.map wD))]) fun w o => w = .d (.tuple ((wRound f ws).map wD)) ∧ o = [] := by
    refine wpC_run (m := M21 C) rfl rfl rfl ?_
    simp only [List.map_cons, List.map_nil, List.cons_append, List.nil_append, List.replicate]
    unfold M21
    obtain ⟨c, hc, hc0, hcn⟩ : ∃ c : Int, natD f.count = .int c ∧ 0 ≤ c ∧ c.toNat = f.count := ⟨f.count, rfl, by omega, by simp⟩
    have hz := hf.small
    have e0 : fIx fd (.int 0) = some (.d (.int c)) := by rw [← hc]; subst hfd; rfl
    have e2 : fIx fd (.int 2) = some (.d (.tuple (f.vars.map Var.dat))) := by subst hfd; rfl
    walk_at "ev"
    rw [e0]
    walk_at "ev"
    rw [if_pos (by omega)]
    walk_at "ev"
    rw [if_pos (by rw [rng_len]; omega)]
    obtain ⟨ds, e3, hcm, rfl, rfl⟩ := cmpR_inv (tg := tgN 5) (tt := mYes) (te := eC .none) (vs := [5]) (lo := 0) (n := c.toNat)
        (e := [some (.d fd), some (.d (.tuple (ws.map wD))), none, none, none, none])
        (fun i acc e => acc = (List.replicate i (none : Wt)).map wD ∧ e = [some (.d fd), some (.d (.tuple (ws.map wD))), none, none, none, none])
        ⟨rfl, rfl⟩ (fun i acc e hi hI => by
          obtain ⟨rfl, rfl⟩ := hI
          refine ⟨_, rfl, ?_⟩
          walk_at "ev"
          refine .inr ⟨by trivial, ?_⟩
          exact ⟨by simp [List.replicate_succ']; rfl, by trivial⟩)
    rw [hcm]
    walk_at "ev"
    rw [hcn, e2]
    walk_at "ev"
    obtain ⟨e', hfor, ⟨y3, y4, rfl⟩, _⟩ := forL_fold (tg := tgN 3) (b := M21b0 C) (dat := Var.dat) (step := wStep ws) (xs := f.vars) (s := List.replicate f.count none)
      (env := fun row e => ∃ y3 y4 : Option W, e = [some (.d fd), some (.d (.tuple (ws.map wD))), some (.l (row.map wD)), y3, y4, none])
      (P := fun row => row.length = f.count) ⟨none, none, rfl⟩ (by simp) (fun v row e hv hr he => by
        obtain ⟨y3, y4, rfl⟩ := he
        refine ⟨by rw [wStep_len]; exact hr, _, rfl, ?_⟩
        exact (round_step C h16 ws row v (fun s hs => by rw [hf.len]; exact hf.slots v hv s hs) (by rw [hr]; exact hf.plug v hv) _ _ _).mono fun o e1 ⟨h1, h2⟩ => ⟨.inl h1, h2⟩)
    rw [hfor]
    walk_at "ev"
    exact ⟨by trivial, by trivial⟩
  obtain ⟨w, o, h, rfl, rfl⟩ := run
  exact h
theorem wD_nodes : ∀ zs : List Wt, nodesAll (zs.map wD) ≤ 3 * zs.length
  | [] => by simp [nodesAll]
  | z :: zs => by
    have := wD_nodes zs
    simp only [List.map_cons, nodesAll, List.length_cons]
    have hz : nodes (wD z) ≤ 3 := by
      cases z with
      | none => decide
      | some q => exact Nat.le_refl 3
    omega
theorem wD_depth : ∀ zs : List Wt, PyData.depthAll (zs.map wD) ≤ 1
  | [] => by simp [PyData.depthAll]
  | z :: zs => by
    have := wD_depth zs
    have hz : (wD z).depth ≤ 1 := by
      cases z with
      | none => decide
      | some q => simp [wD, PyData.depth, PyData.depthAll]
    simp only [List.map_cons, PyData.depthAll]
    omega
end Mi
set_option Elab.async false
set_option linter.all false
set_option maxRecDepth 100000
set_option maxHeartbeats 4000000
namespace Mi
open PySem L2
/-! ### the order of weights -/
theorem wless_iff {a b : Int × Int} : wless a b = true ↔ a.1 < b.1 ∨ (a.1 = b.1 ∧ a.2 < b.2) := by
  unfold wless
  simp only [wD]
  rw [dlt_ints, dlt_ints, dlt_nn]
  by_cases h : a.1 = b.1
  · rw [if_pos h]
    by_cases h2 : a.2 = b.2
    · rw [if_pos h2]; simp; omega
    · rw [if_neg h2]; simp; omega
  · rw [if_neg h]; simp; omega
def wlt (x y : Wt) : Prop := wtake x y = true
def wle (x y : Wt) : Prop := ¬ wlt y x
theorem wlt_ss {a b : Int × Int} : wlt (some a) (some b) ↔ a.1 < b.1 ∨ (a.1 = b.1 ∧ a.2 < b.2) := wless_iff
theorem wlt_n {y : Wt} : ¬ wlt none y := by intro h; cases h
theorem wlt_sn {a : Int × Int} : wlt (some a) none := rfl
theorem wlt_irrefl (x : Wt) : ¬ wlt x x := by
  cases x with
  | none => exact wlt_n
  | some a => rw [wlt_ss]; omega
theorem wlt_trans {x y z : Wt} (h : wlt x y) (g : wlt y z) : wlt x z := by
  cases x with
  | none => exact absurd h wlt_n
  | some a => cases y with
    | none => exact absurd g wlt_n
    | some b => cases z with
      | none => exact wlt_sn
      | some c => rw [wlt_ss] at *; omega
theorem wlt_tri (x y : Wt) : wlt x y ∨ x = y ∨ wlt y x := by
  cases x with
  | none => cases y with
    | none => exact .inr (.inl rfl)
    | some b => exact .inr (.inr wlt_sn)
  | some a => cases y with
    | none => exact .inl wlt_sn
    | some b =>
      rw [wlt_ss, wlt_ss]
      by_cases h : a = b
      · exact .inr (.inl (by rw [h]))
      · have : a.1 ≠ b.1 ∨ a.2 ≠ b.2 := by
          by_cases h1 : a.1 = b.1
          · exact .inr fun h2 => h (Prod.ext h1 h2)
          · exact .inl h1
        omega
theorem wle_refl (x : Wt) : wle x x := wlt_irrefl x
theorem wle_of_lt {x y : Wt} (h : wlt x y) : wle x y := fun g => wlt_irrefl x (wlt_trans h g)
theorem wle_trans {x y z : Wt} (h : wle x y) (g : wle y z) : wle x z := fun q => by
  rcases wlt_tri x y with a | a | a
  · exact g (wlt_trans q a)
  · subst a; exact g q
  · exact h a
theorem wlt_of_lt_le {x y z : Wt} (h : wlt x y) (g : wle y z) : wlt x z := by
  rcases wlt_tri y z with a | a | a
  · exact wlt_trans h a
  · subst a; exact h
  · exact absurd a g
theorem wlt_of_le_lt {x y z : Wt} (h : wle x y) (g : wlt y z) : wlt x z := by
  rcases wlt_tri x y with a | a | a
  · exact wlt_trans a g
  · subst a; exact g
  · exact absurd a h
theorem wle_antisymm {x y : Wt} (h : wle x y) (g : wle y x) : x = y := by
  rcases wlt_tri x y with a | a | a
  · exact absurd a g
  · exact a
  · exact absurd a h
theorem wle_none {x : Wt} : wle x none := wlt_n
theorem wle_ss {a b : Int × Int} : wle (some a) (some b) ↔ a.1 < b.1 ∨ (a.1 = b.1 ∧ a.2 ≤ b.2) := by
  unfold wle
  rw [wlt_ss]
  omega

/-! ### sums of weights -/
def rowLe (ws us : List Wt) : Prop := ∀ s, wle (ws.getD s none) (us.getD s none)
theorem wsum_mono {ws us : List Wt} (h : rowLe ws us) : ∀ (sl : List Nat) (p n p' n' : Int) (q : Int × Int), (p < p' ∨ (p = p' ∧ n ≤ n')) → wsum us sl p' n' = some q → ∃ r, wsum ws sl p n = some r ∧ wle (some r) (some q)
  | [], p, n, p', n', q, hp, hq => by
    cases hq
    exact ⟨(p, n), rfl, wle_ss.mpr hp⟩
  | s :: ss, p, n, p', n', q, hp, hq => by
    unfold wsum at hq ⊢
    cases hu : us.getD s none with
    | none => rw [hu] at hq; cases hq
    | some y =>
      rw [hu] at hq
      have hs := h s
      rw [hu] at hs
      cases hw : ws.getD s none with
      | none => rw [hw] at hs; exact absurd wlt_sn hs
      | some z =>
        rw [hw] at hs
        have := wle_ss.mp hs
        exact wsum_mono h ss _ _ _ _ q (by omega) hq
theorem weight_mono {ws us : List Wt} (h : rowLe ws us) (v : Var) : wle (weight v ws) (weight v us) := by
  unfold weight
  cases v.price with
  | none => exact wle_refl _
  | some p =>
    show wle (wsum ws v.slots p 1) (wsum us v.slots p 1)
    cases hu : wsum us v.slots p 1 with
    | none => exact wle_none
    | some q =>
      obtain ⟨r, h1, h2⟩ := wsum_mono h v.slots p 1 p 1 q (.inr ⟨rfl, Int.le_refl _⟩) hu
      rw [h1]; exact h2
/-- weights of trees: no price below 0, a part at least -/
def Pos (ws : List Wt) : Prop := ∀ s q, ws.getD s none = some q → 0 ≤ q.1 ∧ 1 ≤ q.2
theorem wsum_ge {ws : List Wt} (hP : Pos ws) : ∀ (sl : List Nat) (p n : Int) (q : Int × Int), wsum ws sl p n = some q → p ≤ q.1 ∧ n ≤ q.2 ∧ ∀ s ∈ sl, ∃ y, ws.getD s none = some y ∧ p + y.1 ≤ q.1 ∧ n + y.2 ≤ q.2
  | [], p, n, q, h => by
    cases h
    exact ⟨Int.le_refl _, Int.le_refl _, fun s h => (by cases h)⟩
  | s :: ss, p, n, q, h => by
    unfold wsum at h
    cases hw : ws.getD s none with
    | none => rw [hw] at h; cases h
    | some y =>
      rw [hw] at h
      have hy := hP s y hw
      obtain ⟨h1, h2, h3⟩ := wsum_ge hP ss _ _ q h
      refine ⟨by omega, by omega, fun t ht => ?_⟩
      rcases List.mem_cons.mp ht with rfl | ht
      · exact ⟨y, hw, h1, h2⟩
      · obtain ⟨z, e1, e2, e3⟩ := h3 t ht
        exact ⟨z, e1, by omega, by omega⟩
/-- a tree weighs more than each tree in its slots -/
theorem weight_sup {ws : List Wt} (hP : Pos ws) {v : Var} (hv : ∀ p, v.price = some p → 0 ≤ p) {q : Int × Int} (h : weight v ws = some q) : 0 ≤ q.1 ∧ 1 ≤ q.2 ∧ ∀ s ∈ v.slots, wlt (ws.getD s none) (some q) := by
  unfold weight at h
  cases hp : v.price with
  | none => rw [hp] at h; cases h
  | some p =>
    rw [hp] at h
    have h0 := hv p hp
    obtain ⟨h1, h2, h3⟩ := wsum_ge hP v.slots p 1 q h
    refine ⟨by omega, h2, fun s hs => ?_⟩
    obtain ⟨y, e1, e2, e3⟩ := h3 s hs
    rw [e1, wlt_ss]
    omega

/-! ### a round tells the least weights -/
theorem wStep_get {ws row : List Wt} {v : Var} (hp : v.plug < row.length) (s : Nat) : (wStep ws row v).getD s none = if s = v.plug ∧ wtake (weight v ws) (row.getD v.plug none) = true then weight v ws else row.getD s none := by
  unfold wStep
  by_cases h : wtake (weight v ws) (row.getD v.plug none) = true
  · rw [if_pos h]
    by_cases hs : s = v.plug
    · subst hs
      rw [if_pos ⟨rfl, h⟩, List.getD_eq_getElem?_getD, List.getElem?_set_self hp]
      rfl
    · rw [if_neg (fun z => hs z.1), List.getD_eq_getElem?_getD, List.getElem?_set_ne (fun e => hs e.symm), ← List.getD_eq_getElem?_getD]
  · rw [if_neg h, if_neg (fun z => h z.2)]
theorem fold_spec (ws : List Wt) : ∀ (vs : List Var) (row : List Wt), (∀ v ∈ vs, v.plug < row.length) →
    (∀ s, wle ((vs.foldl (wStep ws) row).getD s none) (row.getD s none)) ∧ (∀ v ∈ vs, wle ((vs.foldl (wStep ws) row).getD v.plug none) (weight v ws)) ∧
    ∀ s, (vs.foldl (wStep ws) row).getD s none = row.getD s none ∨ ∃ v ∈ vs, v.plug = s ∧ weight v ws = (vs.foldl (wStep ws) row).getD s none
  | [], row, _ => ⟨fun s => wle_refl _, fun v h => (by cases h), fun s => .inl rfl⟩
  | v :: vs, row, h => by
    have hp := h v List.mem_cons_self
    have hl : (wStep ws row v).length = row.length := wStep_len
    obtain ⟨i1, i2, i3⟩ := fold_spec ws vs (wStep ws row v) fun u hu => by rw [hl]; exact h u (List.mem_cons_of_mem _ hu)
    have st : ∀ s, wle ((wStep ws row v).getD s none) (row.getD s none) := fun s => by
      rw [wStep_get hp]
      split
      · rename_i z
        rw [z.1]
        exact wle_of_lt z.2
      · exact wle_refl _
    have sv : wle ((wStep ws row v).getD v.plug none) (weight v ws) := by
      rw [wStep_get hp]
      split
      · exact wle_refl _
      · rename_i z
        intro q
        exact z ⟨rfl, q⟩
    refine ⟨fun s => wle_trans (i1 s) (st s), fun u hu => ?_, fun s => ?_⟩
    · rcases List.mem_cons.mp hu with rfl | hu
      · exact wle_trans (i1 _) sv
      · exact i2 u hu
    · show (vs.foldl (wStep ws) (wStep ws row v)).getD s none = _ ∨ ∃ u ∈ v :: vs, _ ∧ weight u ws = (vs.foldl (wStep ws) (wStep ws row v)).getD s none
      rcases i3 s with e | ⟨u, hu, e1, e2⟩
      · rw [e, wStep_get hp]
        split
        · rename_i z
          exact .inr ⟨v, List.mem_cons_self, z.1.symm, rfl⟩
        · exact .inl rfl
      · exact .inr ⟨u, List.mem_cons_of_mem _ hu, e1, e2⟩
theorem none_get {n s : Nat} : (List.replicate n (none : Wt)).getD s none = none := by
  rw [List.getD_eq_getElem?_getD, List.getElem?_replicate]
  split <;> rfl
theorem round_le {f : Fam} {ws : List Wt} (hf : ∀ v ∈ f.vars, v.plug < f.count) {v : Var} (hv : v ∈ f.vars) : wle ((wRound f ws).getD v.plug none) (weight v ws) :=
  (fold_spec ws f.vars _ fun u hu => by simpa using hf u hu).2.1 v hv
theorem round_is {f : Fam} {ws : List Wt} (hf : ∀ v ∈ f.vars, v.plug < f.count) {s : Nat} {q : Int × Int} (h : (wRound f ws).getD s none = some q) : ∃ v ∈ f.vars, v.plug = s ∧ weight v ws = some q := by
  rcases (fold_spec ws f.vars (List.replicate f.count none) fun u hu => by simpa using hf u hu).2.2 s with e | ⟨v, hv, e1, e2⟩
  · have : (wRound f ws).getD s none = none := e.trans none_get
    rw [h] at this; cases this
  · exact ⟨v, hv, e1, e2.trans h⟩
theorem round_len {f : Fam} {ws : List Wt} : (wRound f ws).length = f.count := by
  unfold wRound
  have : ∀ (vs : List Var) (row : List Wt), (vs.foldl (wStep ws) row).length = row.length := by
    intro vs
    induction vs with
    | nil => intro row; rfl
    | cons v vs ih => intro row; exact (ih _).trans wStep_len
  rw [this]; simp
theorem round_mono {f : Fam} {ws us : List Wt} (hf : ∀ v ∈ f.vars, v.plug < f.count) (h : rowLe ws us) : rowLe (wRound f ws) (wRound f us) := fun s => by
  cases hu : (wRound f us).getD s none with
  | none => exact wle_none
  | some q =>
    obtain ⟨v, hv, rfl, e⟩ := round_is hf hu
    have := weight_mono h v
    rw [e] at this
    exact wle_trans (round_le hf hv) this
theorem row_ext {ws us : List Wt} (hl : ws.length = us.length) (h : ∀ s, ws.getD s none = us.getD s none) : ws = us := by
  apply List.ext_getElem?
  intro s
  have := h s
  rw [List.getD_eq_getElem?_getD, List.getD_eq_getElem?_getD] at this
  by_cases hs : s < ws.length
  · rw [List.getElem?_eq_getElem hs, List.getElem?_eq_getElem (by omega)] at this ⊢
    exact congrArg some this
  · rw [List.getElem?_eq_none (by omega), List.getElem?_eq_none (by omega)]

/-! ### the rounds settle -/
def wIt (f : Fam) : Nat → List Wt
  | 0 => List.replicate f.count none
  | k + 1 => wRound f (wIt f k)
/-- no price below 0, plugs and slots are states -/
structure Fam.Plain (f : Fam) : Prop where
  plug : ∀ v ∈ f.vars, v.plug < f.count
  slots : ∀ v ∈ f.vars, ∀ s ∈ v.slots, s < f.count
  price : ∀ v ∈ f.vars, ∀ p, v.price = some p → 0 ≤ p
theorem nodup_le : ∀ {n : Nat} {l : List Nat}, l.Nodup → (∀ t ∈ l, t < n) → l.length ≤ n
  | 0, [], _, _ => Nat.le_refl _
  | 0, t :: _, _, h => absurd (h t List.mem_cons_self) (Nat.not_lt_zero _)
  | n + 1, l, h1, h2 => by
    have e1 : (l.erase n).Nodup := h1.erase n
    have e2 : ∀ t ∈ l.erase n, t < n := fun t ht => by
      have a := h2 t (List.mem_of_mem_erase ht)
      have b : t ≠ n := fun e => by subst e; exact (List.Nodup.not_mem_erase h1) ht
      omega
    have e3 := nodup_le e1 e2
    by_cases hm : n ∈ l
    · have := List.length_erase_of_mem hm
      omega
    · have := List.erase_of_not_mem hm
      rw [this] at e3
      omega
section
variable {f : Fam} (hf : f.Plain)
include hf
theorem it_len (k : Nat) : (wIt f k).length = f.count := by
  cases k with
  | zero => simp [wIt]
  | succ k => exact round_len
theorem it_pos : ∀ k, Pos (wIt f k)
  | 0 => fun s q h => by rw [show (wIt f 0).getD s none = none from none_get] at h; cases h
  | k + 1 => fun s q h => by
    obtain ⟨v, hv, _, e⟩ := round_is hf.plug h
    have := weight_sup (it_pos k) (hf.price v hv) e
    exact ⟨this.1, this.2.1⟩
theorem it_dec : ∀ k, rowLe (wIt f (k + 1)) (wIt f k)
  | 0 => fun s => by rw [show (wIt f 0).getD s none = none from none_get]; exact wle_none
  | k + 1 => round_mono hf.plug (it_dec k)
/-- a state whose weight falls in round k + 1 stands above k states that weigh less -/
theorem it_chain : ∀ (k s : Nat), wlt ((wIt f (k + 1)).getD s none) ((wIt f k).getD s none) →
    ∃ l : List Nat, l.Nodup ∧ l.length = k + 1 ∧ ∀ t ∈ l, t < f.count ∧ wle ((wIt f (k + 1)).getD t none) ((wIt f (k + 1)).getD s none)
  | 0, s, h => by
    refine ⟨[s], by simp, rfl, fun t ht => ?_⟩
    simp at ht
    subst ht
    refine ⟨?_, wle_refl _⟩
    cases hw : (wIt f 1).getD t none with
    | none => rw [hw] at h; exact absurd h wlt_n
    | some q =>
      obtain ⟨v, hv, rfl, _⟩ := round_is hf.plug hw
      exact hf.plug v hv
  | k + 1, s, h => by
    cases hw : (wIt f (k + 1 + 1)).getD s none with
    | none => rw [hw] at h; exact absurd h wlt_n
    | some q =>
      obtain ⟨v, hv, rfl, e⟩ := round_is hf.plug hw
      obtain ⟨_, _, sup⟩ := weight_sup (it_pos hf (k + 1)) (hf.price v hv) e
      -- some slot's weight fell in the round before
      have : ∃ t ∈ v.slots, wlt ((wIt f (k + 1)).getD t none) ((wIt f k).getD t none) := by
        apply Classical.byContradiction
        intro no
        have same : ∀ t ∈ v.slots, (wIt f (k + 1)).getD t none = (wIt f k).getD t none := fun t ht => by
          rcases wlt_tri ((wIt f (k + 1)).getD t none) ((wIt f k).getD t none) with a | a | a
          · exact absurd ⟨t, ht, a⟩ no
          · exact a
          · exact absurd a (it_dec hf k t)
        have ws : ∀ (sl : List Nat) (p n : Int), (∀ t ∈ sl, (wIt f (k + 1)).getD t none = (wIt f k).getD t none) → wsum (wIt f (k + 1)) sl p n = wsum (wIt f k) sl p n := by
          intro sl
          induction sl with
          | nil => intro p n _; rfl
          | cons t ts ih =>
            intro p n hh
            unfold wsum
            rw [hh t List.mem_cons_self]
            cases (wIt f k).getD t none with
            | none => rfl
            | some y => exact ih _ _ fun u hu => hh u (List.mem_cons_of_mem _ hu)
        have we : weight v (wIt f (k + 1)) = weight v (wIt f k) := by
          unfold weight
          cases v.price with
          | none => rfl
          | some p => exact ws v.slots p 1 same
        rw [hw] at h
        have le := round_le (ws := wIt f k) hf.plug hv
        rw [← we, e] at le
        exact le h
      obtain ⟨t, ht, hlt⟩ := this
      obtain ⟨l, h1, h2, h3⟩ := it_chain k t hlt
      have small : ∀ u ∈ l, wlt ((wIt f (k + 1 + 1)).getD u none) (some q) := fun u hu =>
        wlt_of_le_lt (wle_trans (it_dec hf (k + 1) u) (h3 u hu).2) (sup t ht)
      refine ⟨v.plug :: l, List.nodup_cons.mpr ⟨fun hm => ?_, h1⟩, by simp [h2], fun u hu => ?_⟩
      · have := small _ hm
        rw [hw] at this
        exact wlt_irrefl _ this
      · rcases List.mem_cons.mp hu with rfl | hu
        · exact ⟨hf.plug v hv, by rw [hw]; exact wle_refl _⟩
        · exact ⟨(h3 u hu).1, wle_of_lt (small u hu)⟩
theorem it_fix : wRound f (wIt f f.count) = wIt f f.count := by
  refine row_ext (round_len.trans (it_len hf _).symm) fun s => ?_
  rcases wlt_tri ((wIt f (f.count + 1)).getD s none) ((wIt f f.count).getD s none) with a | a | a
  · obtain ⟨l, h1, h2, h3⟩ := it_chain hf f.count s a
    have := nodup_le h1 fun t ht => (h3 t ht).1
    omega
  · exact a
  · exact absurd a (it_dec hf f.count s)
theorem it_stay {k : Nat} (h : wRound f (wIt f k) = wIt f k) : ∀ j, k ≤ j → wIt f j = wIt f k := fun j hj => by
  induction j with
  | zero => rw [show k = 0 by omega]
  | succ j ih =>
    by_cases e : k = j + 1
    · rw [e]
    · show wRound f (wIt f j) = _
      rw [ih (by omega), h]
end
/-- the least weights -/
def Fam.lw (f : Fam) : List Wt := wIt f f.count
end Mi
set_option Elab.async false
set_option linter.all false
set_option maxRecDepth 100000
set_option maxHeartbeats 4000000
namespace Mi
open PySem L2
local macro_rules | `(tactic| push_cast [$hs,*]) => `(tactic| simp -implicitDefEqProofs (disch := first | omega | (simp only [rng_len, List.length_map, List.length_append, List.length_range, List.length_replicate, List.length_cons, List.length_nil, List.length_set, List.length_reverse, List.length_zipIdx]; omega)) only [ev_seq, ev_if, ev_ifE, ev_nx, ev_bk, ev_ct, ev_E, ev_set, ev_tg, ev_ret, ev_retO, ev_retN, ev_put, ev_for, ev_C, ev_V, ev_vr, ev_ex, ev_o1, ev_o2, ev_t2, ev_tru, ev_and, ev_or, ev_not, ev_yes, ev_andE, ev_orE, ev_notE, ev_LN, ev_LC, ev_B, ev_TN, ev_TC, ev_tup, ev_lst, ev_GN, ev_GV, ev_GR, ev_call, ev_mu, ev_lc, ev_any, ev_r1, ev_r2, ev_rep, kS_nx, kS_bk, kS_ct, kS_rt, kIf_t, kIf_f, kM_ok, kSet_ok, kAnd_t, kAnd_f, kOr_t, kOr_f, kAndE_t, kAndE_f, kOrE_t, kOrE_f, kNotE_b, oVr_s, kO2_ok, kO2'_ok, g2_ss, gv_l, gv_r, kL_ok, kL'_ok, kB_ok, gB_s, gvL_n, gvL_c, kV_ss, kT_ok, kT'_ok, kG_ok, kG'_ok, gG_l, gG_t, gG_d, kC_ok, kC1_s, kC2_ok, kP_s, take_n, take_l, take_r, put_n, put_l, put_r, pt1_s, kPut1_ok, kPut2_ok, isL_l, kMu_ok, kFor_ok, kSeqI_l, kSeqI_l', kSeqI_t, kR2_ok, kRep_ok, rV_d, rV_l, cont_n, cont_c, ct1_s, wp_ok, wpC_ok, atI_0, atI_1, atI_2, atI_3, fIx_l, fIx_t, List.length_cons, List.length_nil, Nat.zero_add, Nat.reduceAdd, Int.reduceLT, Int.reduceLE, Int.reduceAdd, Int.reduceMul, Int.reduceToNat, Int.reduceNeg, Int.reduceSub, Nat.reduceLT, Nat.reduceLeDiff, Nat.reduceMul, gt_iff_lt, ge_iff_le, ixN_4_0, ixN_4_1, ixN_4_2, ixN_4_3, wipe_n, wipe_c, tgN_r, tgT_r, tgL_n, tgL_c, ofO_some, vw_d, vw_l, fAddI_int, fSub_int, fNeg_int, fMod_p, fMul_31, fMul_48271, fMul_69621, fPow18, fPow9, cCmp_int, cEq_int, cNe_int, cEq_str, cNe_str, cOrd_int, ev_aug, kAug_ok, ev_en, kEn_t, fIs_int, fIs_bool, fIs_none, fIs_str, fIs_list, fIs_tuple, isTy_int_int, isTy_int_bool, isTy_tuple_tuple, cIs_none, cIsNot_none, isNone_none, isNone_int, isNone_str, isNone_tuple, isNone_list, isNone_bool, truD_l, truD_t, truD_b, truD_n, bLen_l, bLen_t, bAbs_int, bInt_int, bMax_int, bMin_int, bList_l, bList_t, bTuple_l, bTuple_t, Option.map_some, Option.bind_some, List.getD_cons_zero, List.getD_cons_succ, List.set_cons_zero, List.set_cons_succ, if_true, if_false, lB, ↓reduceIte, Bool.not_true, Bool.not_false, kO1_ok, g1_s, kTru_ok, vf_d, vf_l, tk1_s, tkW_s, isO_l, isO_t, kF_ok, endF_r, endF_n, kF_ex, endX_s, rV_t, lpos_n, lpos_l, lpos_t, lpos_d, fAdd_int, ev_pN, ev_pS, kP1_i, ev_sl, kSl_ok, kSl2_ok, kSl3_ok, fSl_l, fSl_t, fRev_l, fRev_t, kR1_c, kR1_n, kR2_c, kLc_c, kRep2_n, gPut_n, gPut_c, gMu_app, rep_n, vw_d, List.length_map, List.length_range, rng_len, Int.toNat_natCast, beq_self_eq_true, Bool.not_true, Bool.not_false, Option.isNone_none, Option.isNone_some, decide_true, decide_false, ev_forN, List.isEmpty_nil, List.isEmpty_cons, kTg_2, kTg_3, ev_mv, gMv_s, ev_rvA, kRvA_t, kRvA_d, kRvA_l, ev_g1, kg1_i, ev_g2, kg2a_i, kg2_i, fNotT_l, fNotT_b, ev_tupR, ev_lstR, kTupR_s, kLstR_s, ev_rvR, kRvR_s, $hs,*])
def M55b0 (C : Orc) : MS :=
 (sSeq (sIf (tO2 cIs (.ex (eO2 fIx (.vr 1) (.vr 6))) (.ex (eC .none)))
 (sRet (eC .none))
 sNx)
 (sAug 5 (fun i j => i + j) (eO2 fIx (.vr 1) (.vr 6))))
/-- cost_of -/
def M55 (C : Orc) : MS :=
 (sSeq (sTg (tgT [(tgN 3), (tgN 4), (tgN 5)]) (eO2 fIx (.ex (eO2 fIx (.vr 0) (.ex (eC (.int 2))))) (.vr 2)))
 (sSeq (sIf (tO2 cIs (.vr 5) (.ex (eC .none)))
 (sRet (eC .none))
 sNx)
 (sSeq (sFor (iAny (eV 4)) (tgN 6)
 (M55b0 C))
 (sRet (eV 5)))))
def F55 (C : Orc) : List W → CRes := runF 3 7 [[]] (M55 C)
def M56b0 (C : Orc) : MS :=
 (sSeq (sSet 4 (eCall C 55 [.vl (eV 0), .vl (eV 1), .vl (eV 2)]))
 (sSeq (sSet 5 (eO2 fIx (.vr 1) (.ex (eO2 fIx (.vr 3) (.ex (eC (.int 0)))))))
 (sIf (tAnd' (tO2 cIsNot (.vr 4) (.ex (eC .none))) (tOr' (tO2 cIs (.vr 5) (.ex (eC .none))) (tO2 cGt (.vr 5) (.vr 4))))
 (sRet (eC (.bool false)))
 sNx)))
/-- is_floor -/
def M56 (C : Orc) : MS :=
 (sSeq (sFor (iEnT (eO2 fIx (.vr 0) (.ex (eC (.int 2))))) (tgT [(tgN 2), (tgN 3)])
 (M56b0 C))
 (sRet (eC (.bool true))))
def F56 (C : Orc) : List W → CRes := runF 2 6 [[]] (M56 C)
def M57b0 (C : Orc) : MS :=
 (sSeq (sSet 4 (eCall C 55 [.vl (eV 0), .vl (eV 1), .vl (eV 2)]))
 (sSeq (sSet 5 (eO2 fIx (.vr 1) (.ex (eO2 fIx (.vr 3) (.ex (eC (.int 0)))))))
 (sIf (tAnd' (tO2 cIsNot (.vr 4) (.ex (eC .none))) (tOr' (tO2 cIs (.vr 5) (.ex (eC .none))) (tO2 cLt (.vr 5) (.vr 4))))
 (sRet (eC (.bool false)))
 sNx)))
/-- is_ceiling -/
def M57 (C : Orc) : MS :=
 (sSeq (sFor (iEnT (eO2 fIx (.vr 0) (.ex (eC (.int 2))))) (tgT [(tgN 2), (tgN 3)])
 (M57b0 C))
 (sRet (eC (.bool true))))
def F57 (C : Orc) : List W → CRes := runF 2 6 [[]] (M57 C)
def M58b0 (C : Orc) : MS :=
 (sSeq (sIf (tOr' (tO2 cIs (.vr 2) (.ex (eC .none))) (tO2 cIs (.ex (eO2 fIx (.vr 1) (.vr 3))) (.ex (eC .none))))
 (sRet (eC .none))
 sNx)
 (sSet 2 (eO2 fAdd (.vr 2) (.ex (eO2 fIx (.vr 1) (.vr 3))))))
/-- _law_cost -/
def M58 (C : Orc) : MS :=
 (sSeq (sSet 2 (eO2 fIx (.vr 0) (.ex (eC (.int 2)))))
 (sSeq (sFor (iAny (eO2 fIx (.vr 0) (.ex (eC (.int 1))))) (tgN 3)
 (M58b0 C))
 (sRet (eV 2))))
def F58 (C : Orc) : List W → CRes := runF 2 4 [[], [1]] (M58 C)
def M59b0 (C : Orc) : MS :=
 (sSeq (sSet 4 (eCall C 58 [.vl (eV 3), .vl (eV 1)]))
 (sIf (tAnd' (tO2 cIsNot (.vr 4) (.ex (eC .none))) (tOr' (tO2 cIs (.ex (eO2 fIx (.vr 1) (.ex (eO2 fIx (.vr 3) (.ex (eC (.int 0))))))) (.ex (eC .none))) (tO2 cLt (.ex (eO2 fMul (.ex (eO2 fSub (.vr 4) (.ex (eO2 fIx (.vr 1) (.ex (eO2 fIx (.vr 3) (.ex (eC (.int 0))))))))) (.vr 2))) (.ex (eC (.int 0))))))
 (sRet (eC (.bool false)))
 sNx))
/-- _law_judged -/
def M59 (C : Orc) : MS :=
 (sSeq (sFor (iAny (eO2 fIx (.vr 0) (.ex (eC (.int 2))))) (tgN 3)
 (M59b0 C))
 (sRet (eC (.bool true))))
def F59 (C : Orc) : List W → CRes := runF 3 5 [[]] (M59 C)
def M60b0 (C : Orc) : MS :=
 (sSeq (sSet 6 (eCall C 58 [.vl (eV 5), .rf 2]))
 (sIf (tAnd' (tO2 cIsNot (.vr 6) (.ex (eC .none))) (tOr' (tO2 cIs (.ex (eO2 fIx (.vr 2) (.ex (eO2 fIx (.vr 5) (.ex (eC (.int 0))))))) (.ex (eC .none))) (tO2 cLt (.ex (eO2 fMul (.ex (eO2 fSub (.vr 6) (.ex (eO2 fIx (.vr 2) (.ex (eO2 fIx (.vr 5) (.ex (eC (.int 0))))))))) (.vr 1))) (.ex (eC (.int 0))))))
 (sSeq (sPut 2 (eO2 fIx (.vr 5) (.ex (eC (.int 0)))) (eV 6))
 (sSet 4 (eC (.bool true))))
 sNx))
def M60b1 (C : Orc) : MS :=
 (sSeq (sSet 4 (eC (.bool false)))
 (sSeq (sFor (iAny (eO2 fIx (.vr 0) (.ex (eC (.int 2))))) (tgN 5)
 (M60b0 C))
 (sIf (tNot' (tTru (.vr 4)))
 (sRetO (eMv 2))
 sNx)))
/-- _law_extreme -/
def M60 (C : Orc) : MS :=
 (sSeq (sSet 2 (eLc (iR1 (eO2 fIx (.vr 0) (.ex (eC (.int 0))))) (tgN 7) mYes (eC .none) [7]))
 (sSeq (sFor (iR1 (eO2 fAddI (.ex (eO2 fIx (.vr 0) (.ex (eC (.int 0))))) (.ex (eC (.int 1))))) (tgN 3)
 (M60b1 C))
 (sRetO (eC .none))))
def F60 (C : Orc) : List W → CRes := runF 2 8 [[]] (M60 C)
def M61b0 (C : Orc) : MS :=
 (sSeq (sSet 6 (eO2 fIx (.vr 5) (.ex (eC (.int 2)))))
 (sSeq (sIf (tAnd' (tO2 cIsNot (.vr 6) (.ex (eC .none))) (tO2 cEq (.ex (eCall C 5 [.rf 0, .vl (eV 4)])) (.ex (eC (.int 0)))))
 (sSeq (sSet 7 (eCall C 5 [.rf 0, .vl (eO2 fIx (.ex (eLst [(eC (.int 2)), (eC (.int 10)), (eO2 fPow (.ex (eC (.int 10))) (.ex (eC (.int 9))))])) (.ex (eCall C 5 [.rf 0, .vl (eC (.int 3))])))]))
 (sSeq (sIf (tAnd' (tO2 cGe (.vr 6) (.ex (eC (.int 0)))) (tO2 cEq (.vr 2) (.ex (eC (.int 1)))))
 (sSet 7 (eB bMin [(.vr 7), (.vr 6)]))
 sNx)
 (sSet 6 (eO2 fSub (.vr 6) (.ex (eO2 fMul (.vr 2) (.vr 7)))))))
 sNx)
 (sE (eMu mApp 3 [(eTup [(eO2 fIx (.vr 5) (.ex (eC (.int 0)))), (eO2 fIx (.vr 5) (.ex (eC (.int 1)))), (eV 6)])]))))
/-- _law_moved -/
def M61 (C : Orc) : MS :=
 (sSeq (sSet 3 (eLst []))
 (sSeq (sSet 4 (eO2 fIx (.ex (eLst [(eC (.int 1)), (eC (.int 2)), (eC (.int 4))])) (.ex (eCall C 5 [.rf 0, .vl (eC (.int 3))]))))
 (sSeq (sFor (iAny (eO2 fIx (.vr 1) (.ex (eC (.int 2))))) (tgN 5)
 (M61b0 C))
 (sRet (eTup [(eO2 fIx (.vr 1) (.ex (eC (.int 0)))), (eO2 fIx (.vr 1) (.ex (eC (.int 1)))), (eB bTuple [(.vr 3)])])))))
def F61 (C : Orc) : List W → CRes := runF 3 8 [[0]] (M61 C)
def M62b0 (C : Orc) : MS :=
 (sSeq (sSet 8 (eO2 fMul (.ex (eO2 fSub (.ex (eCall C 5 [.rf 0, .vl (eV 4)])) (.ex (eCall C 5 [.rf 0, .vl (eV 4)])))) (.vr 5)))
 (sE (eMu mApp 6 [(eO2 fIx (.ex (eLst [(eV 8), (eV 8), (eV 8), (eC .none)])) (.ex (eCall C 5 [.rf 0, .vl (eC (.int 4))])))])))
/-- _law_price_table -/
def M62 (C : Orc) : MS :=
 (sSeq (sSet 3 (eCall C 5 [.rf 0, .vl (eC (.int 3))]))
 (sSeq (sSet 4 (eO2 fIx (.ex (eLst [(eC (.int 3)), (eC (.int 10)), (eO2 fPow (.ex (eC (.int 10))) (.ex (eC (.int 9))))])) (.ex (eCall C 5 [.rf 0, .vl (eC (.int 3))]))))
 (sSeq (sSet 5 (eO2 fIx (.ex (eLst [(eC (.int 1)), (eC (.int 1)), (eC (.int 1)), (eO2 fMul (.ex (eO2 fPow (.ex (eC (.int 10))) (.ex (eC (.int 60))))) (.ex (eO2 fPow (.ex (eC (.int 10))) (.ex (eC (.int 29))))))])) (.ex (eCall C 5 [.rf 0, .vl (eC (.int 4))]))))
 (sSeq (sSet 6 (eC .none))
 (sSeq (sIf (tO2 cLt (.vr 3) (.ex (eC (.int 2))))
 (sSet 6 (eCall C 60 [.vl (eCall C 61 [.rf 0, .vl (eV 1), .vl (eV 2)]), .vl (eV 2)]))
 sNx)
 (sSeq (sIf (tO2 cIs (.vr 6) (.ex (eC .none)))
 (sSeq (sSet 6 (eLst []))
 (sFor (iR1 (eO2 fIx (.vr 1) (.ex (eC (.int 0))))) (tgN 7)
 (M62b0 C)))
 sNx)
 (sSeq (sIf (tO2 cEq (.vr 3) (.ex (eC (.int 1))))
 (sSeq (sSet 9 (eCall C 5 [.rf 0, .vl (eO2 fIx (.vr 1) (.ex (eC (.int 0))))]))
 (sIf (tO2 cIs (.ex (eO2 fIx (.vr 6) (.vr 9))) (.ex (eC .none)))
 (sPut 6 (eV 9) (eCall C 5 [.rf 0, .vl (eV 4)]))
 (sPut 6 (eV 9) (eO2 fIx (.ex (eLst [(eO2 fAddI (.ex (eO2 fIx (.vr 6) (.vr 9))) (.ex (eC (.int 1)))), (eO2 fSub (.ex (eO2 fIx (.vr 6) (.vr 9))) (.ex (eC (.int 1)))), (eO2 fAdd (.ex (eO2 fIx (.vr 6) (.vr 9))) (.ex (eO2 fMul (.vr 2) (.vr 4)))), (eC .none)])) (.ex (eCall C 5 [.rf 0, .vl (eC (.int 4))]))))))
 sNx)
 (sRet (eB bTuple [(.vr 6)])))))))))
def F62 (C : Orc) : List W → CRes := runF 3 10 [[0]] (M62 C)
theorem Fam.ix0 (f : Fam) : fIx f.dat (.int 0) = some (.d (.int (f.count : Int))) := Eq.trans rfl rfl
theorem Fam.ix1 (f : Fam) : fIx f.dat (.int 1) = some (.d (.tuple (f.roots.map natD))) := Eq.trans rfl rfl
theorem Fam.ix2 (f : Fam) : fIx f.dat (.int 2) = some (.d (.tuple (f.vars.map Var.dat))) := Eq.trans rfl rfl
theorem Var.ix0 (v : Var) : fIx v.dat (.int 0) = some (.d (.int (v.plug : Int))) := Eq.trans rfl rfl
theorem Var.ix1 (v : Var) : fIx v.dat (.int 1) = some (.d (.tuple (v.slots.map natD))) := Eq.trans rfl rfl
theorem Var.ix2 (v : Var) : fIx v.dat (.int 2) = some (.d (priceD v.price)) := Eq.trans rfl rfl
theorem priceD_some (i : Int) : priceD (some i) = .int i := rfl
theorem priceD_none : priceD none = .none := rfl
/-! ### costs by a table -/
abbrev Row := List (Option Int)
def tabD (k : Bool) (ts : Row) : D := if k then .list (ts.map priceD) else .tuple (ts.map priceD)
theorem tabD_t (ts : Row) : tabD false ts = .tuple (ts.map priceD) := rfl
theorem tabD_l (ts : Row) : tabD true ts = .list (ts.map priceD) := rfl
theorem row_at {ts : Row} {s : Nat} (h : s < ts.length) : atI (ts.map priceD) (s : Int) = some (priceD (ts.getD s none)) := by
  refine atI_get ?_
  rw [List.getElem?_map, List.getD_eq_getElem?_getD]
  simp [h]
theorem tab_ix {k : Bool} {ts : Row} {s : Nat} (h : s < ts.length) : fIx (tabD k ts) (.int (s : Int)) = some (.d (priceD (ts.getD s none))) := by
  cases k
  · rw [tabD_t, fIx_t, row_at h]; rfl
  · rw [tabD_l, fIx_l, row_at h]; rfl
def cst (ts : Row) : Option Int → List Nat → Option Int
  | none, _ => none
  | some p, [] => some p
  | some p, s :: sl => match ts.getD s none with
    | none => none
    | some q => cst ts (some (p + q)) sl
theorem cst_none (ts : Row) (sl : List Nat) : cst ts none sl = none := by cases sl <;> rfl
theorem cst_no {ts : Row} {p : Int} {s : Nat} {sl : List Nat} (h : ts.getD s none = none) : cst ts (some p) (s :: sl) = none := by simp only [cst, h]
theorem cst_some {ts : Row} {p q : Int} {s : Nat} {sl : List Nat} (h : ts.getD s none = some q) : cst ts (some p) (s :: sl) = cst ts (some (p + q)) sl := by simp only [cst, h]
theorem cst_nil {ts : Row} {a : Option Int} : cst ts a [] = a := by cases a <;> rfl
def Var.cost (v : Var) (ts : Row) : Option Int := cst ts v.price v.slots
theorem natD_eq (n : Nat) : natD n = .int (n : Int) := rfl
theorem law_cost_ok (C : Orc) (v : Var) (ts : Row) (k : Bool) (hs : ∀ s ∈ v.slots, s < ts.length) : F58 C [.d v.dat, .d (tabD k ts)] = .ok (.d (priceD (v.cost ts))) [] := by
  have run : WpC (F58 C [.d v.dat, .d (tabD k ts)]) fun w o => w = .d (priceD (v.cost ts)) ∧ o = [] := by
    refine wpC_run (m := M58 C) rfl rfl rfl ?_
    simp only [List.map_cons, List.map_nil, List.cons_append, List.nil_append, List.replicate]
    unfold M58
    push_cast [Var.ix1, Var.ix2]
    rcases forT_rt (dat := natD) (tg := tgN 3) (b := M58b0 C) (xs := v.slots)
      (fun pre e => ∃ a x3, e = [some (.d v.dat), some (.d (tabD k ts)), some (.d (priceD a)), x3] ∧ ∀ post, v.slots = pre ++ post → v.cost ts = cst ts a post)
      (fun w _ => w = .d (priceD (v.cost ts)))
      (e := [some (.d v.dat), some (.d (tabD k ts)), some (.d (priceD v.price)), none]) ⟨_, _, rfl, fun post h => by
        unfold Var.cost
        rw [h]; rfl⟩ (fun pre s post e hx hI => by
        obtain ⟨a, x3, rfl, ha⟩ := hI
        refine ⟨_, rfl, ?_⟩
        have hlt : s < ts.length := hs s (by rw [hx]; simp)
        have hc := ha _ hx
        unfold M58b0
        cases a with
        | none =>
          push_cast [priceD_none]
          exact .inr ⟨_, rfl, by rw [hc, cst_none]; rfl⟩
        | some p =>
          cases hq : ts.getD s none with
          | none =>
            push_cast [priceD_none, priceD_some, natD_eq, tab_ix hlt, hq]
            exact .inr ⟨_, rfl, by rw [hc, cst_no hq]; rfl⟩
          | some q =>
            push_cast [priceD_none, priceD_some, natD_eq, tab_ix hlt, hq]
            exact .inl ⟨by simp, some (p + q), _, rfl, fun post' h' => by
              rw [hc, cst_some hq]
              rw [hx, List.append_assoc, List.append_cancel_left_eq] at h'
              cases h'; rfl⟩) with ⟨e', h1, a, x3, rfl, ha⟩ | ⟨w, e', h1, rfl⟩
    · rw [h1]
      push_cast []
      refine ⟨?_, by trivial⟩
      rw [ha [] (by simp), cst_nil]
    · rw [h1]
      push_cast []
      trivial
  obtain ⟨w, o, h, rfl, rfl⟩ := run
  exact h
theorem law_cost_lok (C : Orc) (v : Var) (ts : Row) (hs : ∀ s ∈ v.slots, s < ts.length) : F58 C [.d v.dat, .l (ts.map priceD)] = .ok (.d (priceD (v.cost ts))) [.l (ts.map priceD)] := by
  have run : WpC (F58 C [.d v.dat, .l (ts.map priceD)]) fun w o => w = .d (priceD (v.cost ts)) ∧ o = [.l (ts.map priceD)] := by
    refine wpC_run (m := M58 C) rfl rfl rfl ?_
    simp only [List.map_cons, List.map_nil, List.cons_append, List.nil_append, List.replicate]
    unfold M58
    push_cast [Var.ix1, Var.ix2]
    rcases forT_rt (dat := natD) (tg := tgN 3) (b := M58b0 C) (xs := v.slots)
      (fun pre e => ∃ a x3, e = [some (.d v.dat), some (.l (ts.map priceD)), some (.d (priceD a)), x3] ∧ ∀ post, v.slots = pre ++ post → v.cost ts = cst ts a post)
      (fun w e => w = .d (priceD (v.cost ts)) ∧ ∃ x2 x3, e = [some (.d v.dat), some (.l (ts.map priceD)), x2, x3])
      (e := [some (.d v.dat), some (.l (ts.map priceD)), some (.d (priceD v.price)), none]) ⟨_, _, rfl, fun post h => by
        unfold Var.cost
        rw [h]; rfl⟩ (fun pre s post e hx hI => by
        obtain ⟨a, x3, rfl, ha⟩ := hI
        refine ⟨_, rfl, ?_⟩
        have hlt : s < ts.length := hs s (by rw [hx]; simp)
        have hc := ha _ hx
        unfold M58b0
        cases a with
        | none =>
          push_cast [priceD_none]
          exact .inr ⟨_, rfl, by rw [hc, cst_none]; rfl, _, _, rfl⟩
        | some p =>
          cases hq : ts.getD s none with
          | none =>
            push_cast [priceD_none, priceD_some, natD_eq, row_at hlt, hq, Option.map_some]
            exact .inr ⟨_, rfl, by rw [hc, cst_no hq]; rfl, _, _, rfl⟩
          | some q =>
            push_cast [priceD_none, priceD_some, natD_eq, row_at hlt, hq, Option.map_some]
            exact .inl ⟨by simp, some (p + q), _, rfl, fun post' h' => by
              rw [hc, cst_some hq]
              rw [hx, List.append_assoc, List.append_cancel_left_eq] at h'
              cases h'; rfl⟩) with ⟨e', h1, a, x3, rfl, ha⟩ | ⟨w, e', h1, rfl, x2, x3, rfl⟩
    · rw [h1]
      push_cast []
      refine ⟨?_, by trivial⟩
      rw [ha [] (by simp), cst_nil]
    · rw [h1]
      push_cast []
      trivial
  obtain ⟨w, o, h, rfl, rfl⟩ := run
  exact h
theorem cost_of_ok (C : Orc) (f : Fam) (ts : Row) (k : Bool) (i : Nat) (v : Var) (hv : f.vars[i]? = some v) (hs : ∀ s ∈ v.slots, s < ts.length) : F55 C [.d f.dat, .d (tabD k ts), .d (.int (i : Int))] = .ok (.d (priceD (v.cost ts))) [] := by
  have run : WpC (F55 C [.d f.dat, .d (tabD k ts), .d (.int (i : Int))]) fun w o => w = .d (priceD (v.cost ts)) ∧ o = [] := by
    refine wpC_run (m := M55 C) rfl rfl rfl ?_
    simp only [List.map_cons, List.map_nil, List.cons_append, List.nil_append, List.replicate]
    unfold M55
    push_cast [Fam.ix2, atI_mn, hv, Option.map_some, Var.dat, kTg_3]
    cases hpr : v.price with
    | none =>
      push_cast [priceD_none]
      refine ⟨?_, by trivial⟩
      unfold Var.cost
      rw [hpr, cst_none]; rfl
    | some p0 =>
    push_cast [priceD_some]
    rcases forT_rt (dat := natD) (tg := tgN 6) (b := M55b0 C) (xs := v.slots)
      (fun pre e => ∃ p x6, e = [some (.d f.dat), some (.d (tabD k ts)), some (.d (.int (i : Int))), some (.d (natD v.plug)), some (.d (.tuple (v.slots.map natD))), some (.d (.int p)), x6] ∧ ∀ post, v.slots = pre ++ post → v.cost ts = cst ts (some p) post)
      (fun w _ => w = .d (priceD (v.cost ts)))
      (e := [some (.d f.dat), some (.d (tabD k ts)), some (.d (.int (i : Int))), some (.d (natD v.plug)), some (.d (.tuple (v.slots.map natD))), some (.d (.int p0)), none]) ⟨_, _, rfl, fun post h => by
        unfold Var.cost
        rw [h, hpr]; rfl⟩ (fun pre s post e hx hI => by
        obtain ⟨p, x6, rfl, ha⟩ := hI
        refine ⟨_, rfl, ?_⟩
        have hlt : s < ts.length := hs s (by rw [hx]; simp)
        have hc := ha _ hx
        unfold M55b0
        cases hq : ts.getD s none with
        | none =>
          push_cast [priceD_none, priceD_some, natD_eq, tab_ix hlt, hq]
          exact .inr ⟨_, rfl, by rw [hc, cst_no hq]; rfl⟩
        | some q =>
          push_cast [priceD_none, priceD_some, natD_eq, tab_ix hlt, hq]
          exact .inl ⟨by simp, p + q, _, rfl, fun post' h' => by
            rw [hc, cst_some hq]
            rw [hx, List.append_assoc, List.append_cancel_left_eq] at h'
            cases h'; rfl⟩) with ⟨e', h1, p, x6, rfl, ha⟩ | ⟨w, e', h1, rfl⟩
    · rw [h1]
      push_cast []
      refine ⟨?_, by trivial⟩
      rw [ha [] (by simp), cst_nil]; rfl
    · rw [h1]
      push_cast []
      trivial
  obtain ⟨w, o, h, rfl, rfl⟩ := run
  exact h
/-! ### floors and ceilings -/
def Var.fits (v : Var) (ts : Row) (sign : Int) : Bool := match v.cost ts with
  | none => true
  | some c => match ts.getD v.plug none with
    | none => false
    | some w => !decide ((c - w) * sign < 0)
def Fam.fits (f : Fam) (ts : Row) (sign : Int) : Bool := f.vars.all (·.fits ts sign)
/-- plugs and slots are states of the table -/
structure Fam.In (f : Fam) (n : Nat) : Prop where
  plug : ∀ v ∈ f.vars, v.plug < n
  slots : ∀ v ∈ f.vars, ∀ s ∈ v.slots, s < n
def LawCostS (C : Orc) : Prop := ∀ (v : Var) (ts : Row) (k : Bool), (∀ s ∈ v.slots, s < ts.length) → C 58 [.d v.dat, .d (tabD k ts)] = .ok (.d (priceD (v.cost ts))) []
def LawCostL (C : Orc) : Prop := ∀ (v : Var) (ts : Row), (∀ s ∈ v.slots, s < ts.length) → C 58 [.d v.dat, .l (ts.map priceD)] = .ok (.d (priceD (v.cost ts))) [.l (ts.map priceD)]
def CostOfS (C : Orc) : Prop := ∀ (f : Fam) (ts : Row) (k : Bool) (i : Nat) (v : Var), f.vars[i]? = some v → (∀ s ∈ v.slots, s < ts.length) → C 55 [.d f.dat, .d (tabD k ts), .d (.int (i : Int))] = .ok (.d (priceD (v.cost ts))) []
theorem all_pre {α : Type} {p : α → Bool} {pre : List α} {x : α} (h : ∀ y ∈ pre, p y = true) (hx : p x = true) : ∀ y ∈ pre ++ [x], p y = true := fun y hy => by
  rcases List.mem_append.mp hy with hy | hy
  · exact h y hy
  · rw [List.mem_singleton.mp hy]; exact hx
theorem all_no {α : Type} {p : α → Bool} {pre post : List α} {x : α} (hx : p x = false) : (pre ++ x :: post).all p = false := by simp [hx]
theorem judged_ok (C : Orc) (h58 : LawCostS C) (f : Fam) (ts : Row) (k : Bool) (sign : Int) (hsg : sign.natAbs < 18446744073709551616) (hf : f.In ts.length) : F59 C [.d f.dat, .d (tabD k ts), .d (.int sign)] = .ok (.d (.bool (f.fits ts sign))) [] := by
  have run : WpC (F59 C [.d f.dat, .d (tabD k ts), .d (.int sign)]) fun w o => w = .d (.bool (f.fits ts sign)) ∧ o = [] := by
    refine wpC_run (m := M59 C) rfl rfl rfl ?_
    simp only [List.map_cons, List.map_nil, List.cons_append, List.nil_append, List.replicate]
    unfold M59
    push_cast [Fam.ix2]
    rcases forT_rt (dat := Var.dat) (tg := tgN 3) (b := M59b0 C) (xs := f.vars)
      (fun pre e => ∃ x3 x4, e = [some (.d f.dat), some (.d (tabD k ts)), some (.d (.int sign)), x3, x4] ∧ ∀ v ∈ pre, v.fits ts sign = true)
      (fun w _ => w = .d (.bool false) ∧ f.fits ts sign = false)
      (e := [some (.d f.dat), some (.d (tabD k ts)), some (.d (.int sign)), none, none]) ⟨_, _, rfl, by simp⟩ (fun pre v post e hx hI => by
        obtain ⟨x3, x4, rfl, ha⟩ := hI
        refine ⟨_, rfl, ?_⟩
        have hv : v ∈ f.vars := by rw [hx]; simp
        have hp := hf.plug v hv
        unfold M59b0
        push_cast [h58 v ts k (hf.slots v hv)]
        cases hc : v.cost ts with
        | none =>
          push_cast [priceD_none]
          exact .inl ⟨by simp, _, _, rfl, all_pre ha (by simp only [Var.fits, hc])⟩
        | some c =>
          cases hq : ts.getD v.plug none with
          | none =>
            push_cast [priceD_none, priceD_some, Var.ix0, tab_ix hp, hq]
            exact .inr ⟨_, rfl, rfl, by unfold Fam.fits; rw [hx]; exact all_no (by simp only [Var.fits, hc, hq])⟩
          | some w =>
            push_cast [priceD_none, priceD_some, Var.ix0, tab_ix hp, hq, fMul_r hsg]
            by_cases hn : (c - w) * sign < 0
            · rw [decide_eq_true hn]
              push_cast []
              exact .inr ⟨_, rfl, rfl, by unfold Fam.fits; rw [hx]; exact all_no (by simp only [Var.fits, hc, hq, decide_eq_true hn]; rfl)⟩
            · rw [decide_eq_false hn]
              push_cast []
              exact .inl ⟨by simp, _, _, rfl, all_pre ha (by simp only [Var.fits, hc, hq, decide_eq_false hn]; rfl)⟩) with ⟨e', h1, x3, x4, rfl, ha⟩ | ⟨w, e', h1, rfl, hff⟩
    · rw [h1]
      push_cast []
      refine ⟨?_, by trivial⟩
      rw [show f.fits ts sign = true from List.all_eq_true.mpr ha]
    · rw [h1]
      push_cast [hff]
      trivial
  obtain ⟨w, o, h, rfl, rfl⟩ := run
  exact h
def enD {α : Type} (dat : α → D) (p : α × Nat) : D := .tuple [.int (p.2 : Int), dat p.1]
theorem enumD_at {α : Type} (dat : α → D) : ∀ (xs : List α) (n : Nat), enumD n (xs.map dat) = (xs.zipIdx n).map (enD dat)
  | [], _ => rfl
  | x :: xs, n => by
    rw [List.map_cons, List.zipIdx_cons, List.map_cons, ← enumD_at dat xs (n + 1)]
    rfl
theorem enumD_map {α : Type} (dat : α → D) (xs : List α) : enumD 0 (xs.map dat) = xs.zipIdx.map (enD dat) := enumD_at dat xs 0
theorem is_floor_ok (C : Orc) (h55 : CostOfS C) (f : Fam) (ts : Row) (k : Bool) (hf : f.In ts.length) (hz : f.vars.length ≤ 100000) : F56 C [.d f.dat, .d (tabD k ts)] = .ok (.d (.bool (f.fits ts (1)))) [] := by
  have run : WpC (F56 C [.d f.dat, .d (tabD k ts)]) fun w o => w = .d (.bool (f.fits ts (1))) ∧ o = [] := by
    refine wpC_run (m := M56 C) rfl rfl rfl ?_
    simp only [List.map_cons, List.map_nil, List.cons_append, List.nil_append, List.replicate]
    unfold M56
    push_cast [Fam.ix2, enumD_map]
    rcases forT_rt (dat := enD Var.dat) (tg := tgT [tgN 2, tgN 3]) (b := M56b0 C) (xs := f.vars.zipIdx)
      (fun pre e => ∃ x2 x3 x4 x5, e = [some (.d f.dat), some (.d (tabD k ts)), x2, x3, x4, x5] ∧ ∀ v ∈ pre, v.1.fits ts (1) = true)
      (fun w _ => w = .d (.bool false) ∧ f.fits ts (1) = false)
      (e := [some (.d f.dat), some (.d (tabD k ts)), none, none, none, none]) ⟨_, _, _, _, rfl, by simp⟩ (fun pre p post e hx hI => by
        obtain ⟨x2, x3, x4, x5, rfl, ha⟩ := hI
        obtain ⟨v, i⟩ := p
        refine ⟨_, rfl, ?_⟩
        have hvi : (v, i) ∈ f.vars.zipIdx := by rw [hx]; simp
        have hv : f.vars[i]? = some v := List.mem_zipIdx_iff_getElem?.mp hvi
        have hm : v ∈ f.vars := List.mem_of_getElem? hv
        have hp := hf.plug v hm
        unfold M56b0
        push_cast [h55 f ts k i v hv (hf.slots v hm), Var.ix0, tab_ix hp]
        cases hc : v.cost ts with
        | none =>
          push_cast [priceD_none]
          exact .inl ⟨by simp, _, _, _, _, rfl, all_pre (p := fun q : Var × Nat => q.1.fits ts (1)) ha (by simp only [Var.fits, hc])⟩
        | some c =>
          cases hq : ts.getD v.plug none with
          | none =>
            push_cast [priceD_none, priceD_some]
            exact .inr ⟨_, rfl, rfl, List.all_eq_false.mpr ⟨v, hm, by simp only [Var.fits, hc, hq]; simp⟩⟩
          | some w =>
            push_cast [priceD_none, priceD_some]
            by_cases hn : c < w
            · rw [decide_eq_true hn]
              push_cast []
              exact .inr ⟨_, rfl, rfl, List.all_eq_false.mpr ⟨v, hm, by simp only [Var.fits, hc, hq, decide_eq_true (show (c - w) * 1 < 0 by omega)]; simp⟩⟩
            · rw [decide_eq_false hn]
              push_cast []
              exact .inl ⟨by simp, _, _, _, _, rfl, all_pre (p := fun q : Var × Nat => q.1.fits ts (1)) ha (by simp only [Var.fits, hc, hq, decide_eq_false (show ¬ (c - w) * 1 < 0 by omega)]; rfl)⟩) with ⟨e', h1, x2, x3, x4, x5, rfl, ha⟩ | ⟨w, e', h1, rfl, hff⟩
    · rw [h1]
      push_cast []
      refine ⟨?_, by trivial⟩
      rw [show f.fits ts (1) = true from List.all_eq_true.mpr fun v hv => by
        obtain ⟨i, hi⟩ := List.getElem?_of_mem hv
        exact ha (v, i) (List.mem_zipIdx_iff_getElem?.mpr hi)]
    · rw [h1]
      push_cast [hff]
      trivial
  obtain ⟨w, o, h, rfl, rfl⟩ := run
  exact h
theorem is_ceiling_ok (C : Orc) (h55 : CostOfS C) (f : Fam) (ts : Row) (k : Bool) (hf : f.In ts.length) (hz : f.vars.length ≤ 100000) : F57 C [.d f.dat, .d (tabD k ts)] = .ok (.d (.bool (f.fits ts (-1)))) [] := by
  have run : WpC (F57 C [.d f.dat, .d (tabD k ts)]) fun w o => w = .d (.bool (f.fits ts (-1))) ∧ o = [] := by
    refine wpC_run (m := M57 C) rfl rfl rfl ?_
    simp only [List.map_cons, List.map_nil, List.cons_append, List.nil_append, List.replicate]
    unfold M57
    push_cast [Fam.ix2, enumD_map]
    rcases forT_rt (dat := enD Var.dat) (tg := tgT [tgN 2, tgN 3]) (b := M57b0 C) (xs := f.vars.zipIdx)
      (fun pre e => ∃ x2 x3 x4 x5, e = [some (.d f.dat), some (.d (tabD k ts)), x2, x3, x4, x5] ∧ ∀ v ∈ pre, v.1.fits ts (-1) = true)
      (fun w _ => w = .d (.bool false) ∧ f.fits ts (-1) = false)
      (e := [some (.d f.dat), some (.d (tabD k ts)), none, none, none, none]) ⟨_, _, _, _, rfl, by simp⟩ (fun pre p post e hx hI => by
        obtain ⟨x2, x3, x4, x5, rfl, ha⟩ := hI
        obtain ⟨v, i⟩ := p
        refine ⟨_, rfl, ?_⟩
        have hvi : (v, i) ∈ f.vars.zipIdx := by rw [hx]; simp
        have hv : f.vars[i]? = some v := List.mem_zipIdx_iff_getElem?.mp hvi
        have hm : v ∈ f.vars := List.mem_of_getElem? hv
        have hp := hf.plug v hm
        unfold M57b0
        push_cast [h55 f ts k i v hv (hf.slots v hm), Var.ix0, tab_ix hp]
        cases hc : v.cost ts with
        | none =>
          push_cast [priceD_none]
          exact .inl ⟨by simp, _, _, _, _, rfl, all_pre (p := fun q : Var × Nat => q.1.fits ts (-1)) ha (by simp only [Var.fits, hc])⟩
        | some c =>
          cases hq : ts.getD v.plug none with
          | none =>
            push_cast [priceD_none, priceD_some]
            exact .inr ⟨_, rfl, rfl, List.all_eq_false.mpr ⟨v, hm, by simp only [Var.fits, hc, hq]; simp⟩⟩
          | some w =>
            push_cast [priceD_none, priceD_some]
            by_cases hn : w < c
            · rw [decide_eq_true hn]
              push_cast []
              exact .inr ⟨_, rfl, rfl, List.all_eq_false.mpr ⟨v, hm, by simp only [Var.fits, hc, hq, decide_eq_true (show (c - w) * -1 < 0 by omega)]; simp⟩⟩
            · rw [decide_eq_false hn]
              push_cast []
              exact .inl ⟨by simp, _, _, _, _, rfl, all_pre (p := fun q : Var × Nat => q.1.fits ts (-1)) ha (by simp only [Var.fits, hc, hq, decide_eq_false (show ¬ (c - w) * -1 < 0 by omega)]; rfl)⟩) with ⟨e', h1, x2, x3, x4, x5, rfl, ha⟩ | ⟨w, e', h1, rfl, hff⟩
    · rw [h1]
      push_cast []
      refine ⟨?_, by trivial⟩
      rw [show f.fits ts (-1) = true from List.all_eq_true.mpr fun v hv => by
        obtain ⟨i, hi⟩ := List.getElem?_of_mem hv
        exact ha (v, i) (List.mem_zipIdx_iff_getElem?.mpr hi)]
    · rw [h1]
      push_cast [hff]
      trivial
  obtain ⟨w, o, h, rfl, rfl⟩ := run
  exact h
/-! ### the extreme table, with a bound -/
structure Fam.Grow (f : Fam) (B : Nat → Nat → Nat) : Prop where
  mono : ∀ i s, B i s ≤ B (i + 1) s
  step : ∀ v ∈ f.vars, ∀ p, v.price = some p → ∀ i, p.natAbs + (v.slots.map (B i)).sum ≤ B (i + 1) v.plug
def RowB (B : Nat → Nat) (ts : Row) : Prop := ∀ s x, ts.getD s none = some x → x.natAbs ≤ B s
theorem grow_mono {B : Nat → Nat → Nat} (h : ∀ i s, B i s ≤ B (i + 1) s) (s : Nat) : ∀ {i j : Nat}, i ≤ j → B i s ≤ B j s := fun {i j} hij => by
  induction j with
  | zero => rw [show i = 0 by omega]; exact Nat.le_refl _
  | succ j ih =>
    rcases Nat.lt_or_ge i (j + 1) with h1 | h1
    · exact Nat.le_trans (ih (by omega)) (h j s)
    · rw [show i = j + 1 by omega]; exact Nat.le_refl _
theorem RowB.mono {B B' : Nat → Nat} {ts : Row} (h : RowB B ts) (hb : ∀ s, B s ≤ B' s) : RowB B' ts := fun s x hx => Nat.le_trans (h s x hx) (hb s)
theorem cst_bd {B : Nat → Nat} {ts : Row} (hb : RowB B ts) : ∀ (sl : List Nat) (p c : Int), cst ts (some p) sl = some c → c.natAbs ≤ p.natAbs + (sl.map B).sum
  | [], p, c, h => by
    simp only [cst, Option.some.injEq] at h
    subst h; simp
  | s :: sl, p, c, h => by
    cases hq : ts.getD s none with
    | none => rw [cst_no hq] at h; cases h
    | some q =>
      rw [cst_some hq] at h
      have := cst_bd hb sl (p + q) c h
      have := hb s q hq
      simp only [List.map_cons, List.sum_cons]
      omega
theorem cost_bd {B : Nat → Nat → Nat} {f : Fam} (hB : f.Grow B) {v : Var} (hv : v ∈ f.vars) {ts : Row} {i : Nat} (hb : RowB (B i) ts) {c : Int} (h : v.cost ts = some c) : c.natAbs ≤ B (i + 1) v.plug := by
  unfold Var.cost at h
  cases hp : v.price with
  | none => rw [hp, cst_none] at h; cases h
  | some p =>
    rw [hp] at h
    exact Nat.le_trans (cst_bd hb _ _ _ h) (hB.step v hv p hp i)
theorem RowB.set {B : Nat → Nat} {ts : Row} (h : RowB B ts) {i : Nat} {c : Int} (hc : c.natAbs ≤ B i) : RowB B (ts.set i (some c)) := fun s x hx => by
  rw [List.getD_eq_getElem?_getD, List.getElem?_set] at hx
  split at hx
  · rename_i e
    subst e
    split at hx
    · cases hx; exact hc
    · cases hx
  · exact h s x (by rw [List.getD_eq_getElem?_getD]; exact hx)
theorem RowB.nil {B : Nat → Nat} {n : Nat} : RowB B (List.replicate n none) := fun s x hx => by
  rw [List.getD_eq_getElem?_getD, List.getElem?_replicate] at hx
  split at hx <;> cases hx
def rowW : Option Row → W
  | none => .d .none
  | some ts => .l (ts.map priceD)
theorem set_map {ts : Row} {i : Nat} {x : Option Int} : (ts.map priceD).set i (priceD x) = (ts.set i x).map priceD := (List.map_set ..).symm
theorem ext_b0 (C : Orc) (h58 : LawCostL C) (f : Fam) (sign : Int) (hsg : sign.natAbs < 18446744073709551616) (hf : f.In f.count) {B : Nat → Nat → Nat} (hB : f.Grow B) (v : Var) (hv : v ∈ f.vars) (ts : Row) (hl : ts.length = f.count) (n : Nat) (hb : RowB (B n) ts) (b : Bool) (x3 x6 : Option W) :
    Wp (M60b0 C [some (.d f.dat), some (.d (.int sign)), some (.l (ts.map priceD)), x3, some (.d (.bool b)), some (.d v.dat), x6, none]) fun o e => o = .nx ∧
      ∃ (ts' : Row) (b' : Bool) (x6' : Option W), e = [some (.d f.dat), some (.d (.int sign)), some (.l (ts'.map priceD)), x3, some (.d (.bool b')), some (.d v.dat), x6', none] ∧ ts'.length = f.count ∧ RowB (B (n + 1)) ts' := by
  have hp : v.plug < ts.length := by rw [hl]; exact hf.plug v hv
  have hb' := hb.mono (hB.mono n)
  unfold M60b0
  push_cast [h58 v ts (by rw [hl]; exact hf.slots v hv)]
  cases hc : v.cost ts with
  | none =>
    push_cast [priceD_none]
    exact ⟨by trivial, ts, b, _, rfl, hl, hb'⟩
  | some c =>
    have hcb := cost_bd hB hv hb hc
    cases hq : ts.getD v.plug none with
    | none =>
      push_cast [priceD_none, priceD_some, Var.ix0, row_at hp, hq, Option.map_some]
      refine ⟨by trivial, ts.set v.plug (some c), true, some (.d (priceD (some c))), ?_, by simp [hl], hb'.set hcb⟩
      rw [← set_map]
      rfl
    | some w =>
      push_cast [priceD_none, priceD_some, Var.ix0, row_at hp, hq, Option.map_some, fMul_r hsg]
      by_cases hn : (c - w) * sign < 0
      · rw [decide_eq_true hn]
        push_cast [Var.ix0]
        refine ⟨by trivial, ts.set v.plug (some c), true, some (.d (priceD (some c))), ?_, by simp [hl], hb'.set hcb⟩
        rw [← set_map]
        rfl
      · rw [decide_eq_false hn]
        push_cast []
        exact ⟨by trivial, ts, b, _, rfl, hl, hb'⟩
theorem extreme_ok (C : Orc) (h58 : LawCostL C) (f : Fam) (sign : Int) (hsg : sign.natAbs < 18446744073709551616) (hf : f.In f.count) (hc : f.count ≤ 1000) {B : Nat → Nat → Nat} (hB : f.Grow B) :
    ∃ r : Option Row, F60 C [.d f.dat, .d (.int sign)] = .ok (rowW r) [] ∧ ∀ ts, r = some ts → ts.length = f.count ∧ RowB (B ((f.count + 1) * f.vars.length)) ts := by
  have run : WpC (F60 C [.d f.dat, .d (.int sign)]) fun w o => (∃ r : Option Row, w = rowW r ∧ ∀ ts, r = some ts → ts.length = f.count ∧ RowB (B ((f.count + 1) * f.vars.length)) ts) ∧ o = [] := by
    refine wpC_run (m := M60 C) rfl rfl rfl ?_
    simp only [List.map_cons, List.map_nil, List.cons_append, List.nil_append, List.replicate]
    unfold M60
    push_cast [Fam.ix0]
    rw [cmpN_map (f := fun _ => priceD none) (fun j hj => ⟨_, rfl, by push_cast []; exact ⟨by trivial, by trivial⟩⟩)]
    rw [show (List.range f.count).map (fun _ => priceD none) = (List.replicate f.count (none : Option Int)).map priceD by simp [List.map_const']]
    push_cast [Fam.ix0]
    rw [show ((f.count : Int) + 1).toNat = f.count + 1 by omega]
    rcases forN_rt (tg := tgN 3) (b := M60b1 C) (n := f.count + 1)
      (fun j e => ∃ (ts : Row) (x3 x4 x5 x6 : Option W), e = [some (.d f.dat), some (.d (.int sign)), some (.l (ts.map priceD)), x3, x4, x5, x6, none] ∧ ts.length = f.count ∧ RowB (B (j * f.vars.length)) ts)
      (fun w _ => ∃ ts : Row, w = .l (ts.map priceD) ∧ ts.length = f.count ∧ RowB (B ((f.count + 1) * f.vars.length)) ts)
      (e := [some (.d f.dat), some (.d (.int sign)), some (.l ((List.replicate f.count (none : Option Int)).map priceD)), none, none, none, none, none])
      ⟨_, _, _, _, _, rfl, by simp, RowB.nil⟩ (fun j e hj hI => by
        obtain ⟨ts, x3, x4, x5, x6, rfl, hl, hb⟩ := hI
        refine ⟨_, rfl, ?_⟩
        unfold M60b1
        push_cast [Fam.ix2]
        obtain ⟨e', h1, ts', b', x5', x6', rfl, hl', hb'⟩ := forT_inv (dat := Var.dat) (tg := tgN 5) (b := M60b0 C) (xs := f.vars)
          (fun pre e => ∃ (ts : Row) (b : Bool) (x5 x6 : Option W), e = [some (.d f.dat), some (.d (.int sign)), some (.l (ts.map priceD)), some (.d (.int (j : Int))), some (.d (.bool b)), x5, x6, none] ∧ ts.length = f.count ∧ RowB (B (j * f.vars.length + pre.length)) ts)
          (e := [some (.d f.dat), some (.d (.int sign)), some (.l (ts.map priceD)), some (.d (.int (j : Int))), some (.d (.bool false)), x5, x6, none])
          ⟨_, _, _, _, rfl, hl, hb⟩ (fun pre v post e hx hI => by
            obtain ⟨ts, b, x5, x6, rfl, hl, hb⟩ := hI
            refine ⟨_, rfl, (ext_b0 C h58 f sign hsg hf hB v (by rw [hx]; simp) ts hl _ hb b _ x6).mono fun o e q => ?_⟩
            obtain ⟨rfl, ts', b', x6', rfl, hl', hb'⟩ := q
            refine ⟨.inl rfl, ts', b', _, x6', rfl, hl', ?_⟩
            rw [List.length_append]
            exact hb')
        rw [h1]
        cases b' with
        | true =>
          push_cast []
          refine .inl ⟨by simp, ts', _, _, _, _, rfl, hl', ?_⟩
          rw [Nat.succ_mul]; exact hb'
        | false =>
          push_cast []
          refine .inr ⟨_, rfl, ts', rfl, hl', hb'.mono fun s => grow_mono hB.mono s ?_⟩
          rw [show j * f.vars.length + f.vars.length = (j + 1) * f.vars.length by rw [Nat.succ_mul]]
          exact Nat.mul_le_mul_right _ (by omega)) with ⟨e', h1, ts, x3, x4, x5, x6, rfl, hl, hb⟩ | ⟨w, e', h1, ts, rfl, hl, hb⟩
    · rw [h1]
      push_cast []
      exact ⟨⟨none, rfl, fun ts h => by cases h⟩, by trivial⟩
    · rw [h1]
      push_cast []
      exact ⟨⟨some ts, rfl, fun ts' h => by cases h; exact ⟨hl, hb⟩⟩, by trivial⟩
  obtain ⟨w, o, h, ⟨r, rfl, hr⟩, rfl⟩ := run
  exact ⟨r, h, hr⟩
/-! ### prices moved -/
def Fam.Pr (f : Fam) (m : Nat) : Prop := ∀ v ∈ f.vars, ∀ p, v.price = some p → p.natAbs ≤ m
theorem bMin_i (i j : Int) : bMin [.int i, .int j] = some (.d (.int (if j < i then j else i))) := Eq.trans rfl rfl
theorem at3 {x y z : D} {i : Int} (h0 : 0 ≤ i) (h1 : i < 3) : (i = 0 ∧ atI [x, y, z] i = some x) ∨ (i = 1 ∧ atI [x, y, z] i = some y) ∨ (i = 2 ∧ atI [x, y, z] i = some z) := by
  rcases (show i = 0 ∨ i = 1 ∨ i = 2 by omega) with rfl | rfl | rfl
  · exact .inl ⟨rfl, rfl⟩
  · exact .inr (.inl ⟨rfl, rfl⟩)
  · exact .inr (.inr ⟨rfl, rfl⟩)
theorem at4 {x y z u : D} {i : Int} (h0 : 0 ≤ i) (h1 : i < 4) : (i = 0 ∧ atI [x, y, z, u] i = some x) ∨ (i = 1 ∧ atI [x, y, z, u] i = some y) ∨ (i = 2 ∧ atI [x, y, z, u] i = some z) ∨ (i = 3 ∧ atI [x, y, z, u] i = some u) := by
  rcases (show i = 0 ∨ i = 1 ∨ i = 2 ∨ i = 3 by omega) with rfl | rfl | rfl | rfl
  · exact .inl ⟨rfl, rfl⟩
  · exact .inr (.inl ⟨rfl, rfl⟩)
  · exact .inr (.inr (.inl ⟨rfl, rfl⟩))
  · exact .inr (.inr (.inr ⟨rfl, rfl⟩))
/-- a place of a short list of integers -/
theorem atInt {zs : List Int} {i : Int} (h0 : 0 ≤ i) (h1 : i < zs.length) : ∃ z ∈ zs, atI (zs.map PyData.int) i = some (.int z) := by
  obtain ⟨z, hz, h⟩ := atI_map PyData.int zs h0 h1
  exact ⟨z, hz, h⟩
theorem moved_b0 (C : Orc) (hD : DrawS C) {t : List D} (ht : TapeOk t) (fd : D) (sign share : Int) (hs : sign = 1 ∨ sign = -1) (hsh : share.natAbs < 2 ^ 64) (v : Var) (hv : ∀ p, v.price = some p → p.natAbs ≤ 1000000000) (rows : List D) (hr : rows.length < 16777216) (x6 x7 : Option W) :
    Wp (M61b0 C [some (.l t), some (.d fd), some (.d (.int sign)), some (.l rows), some (.d (.int share)), some (.d v.dat), x6, x7]) fun o e => o = .nx ∧
      ∃ (t' : List D) (u : Var) (x6 x7 : Option W), e = [some (.l t'), some (.d fd), some (.d (.int sign)), some (.l (rows ++ [u.dat])), some (.d (.int share)), some (.d v.dat), x6, x7] ∧ TapeOk t' ∧ u.sh = v.sh ∧ ∀ p, u.price = some p → p.natAbs ≤ 2000000000 := by
  unfold M61b0
  push_cast [Var.ix2]
  cases hp : v.price with
  | none =>
    push_cast [priceD_none, Var.ix0, Var.ix1]
    exact ⟨by trivial, t, ⟨v.plug, v.slots, none⟩, _, _, rfl, ht, by simp [Var.sh, hp], fun p h => by cases h⟩
  | some p =>
    have hpb := hv p hp
    push_cast [priceD_some]
    obtain ⟨k, t1, h1, ht1, hk0, hk1⟩ := hD t ht share (log_small hsh)
    push_cast [h1]
    by_cases hk : k = 0
    · subst hk
      push_cast []
      obtain ⟨m, t2, h2, ht2, hm0, hm1⟩ := hD t1 ht1 3 (by decide)
      push_cast [fPow9, h2]
      obtain ⟨z, hz, hat⟩ := atInt (zs := [2, 10, 1000000000]) hm0 (by simp; omega)
      simp only [List.map_cons, List.map_nil] at hat
      have hz0 : 0 < z ∧ z ≤ 1000000000 := by
        simp only [List.mem_cons, List.not_mem_nil, or_false] at hz
        omega
      obtain ⟨c, t3, h3, ht3, hc0, hc1⟩ := hD t2 ht2 z (log_small (by omega))
      push_cast [hat, h3]
      have hm : ∀ c : Int, fMul (.int sign) (.int c) = some (.d (.int (sign * c))) := fun c => fMul_l (by omega)
      by_cases h0 : 0 ≤ p
      · rw [decide_eq_true h0]
        rcases hs with rfl | rfl
        · push_cast [bMin_i, hm, Var.ix0, Var.ix1]
          refine ⟨by trivial, t3, ⟨v.plug, v.slots, some (p - 1 * (if p < c then p else c))⟩, _, _, rfl, ht3, by simp [Var.sh, hp], fun q h => ?_⟩
          cases h
          split <;> omega
        · push_cast [show ((-1 : Int) == 1) = false from rfl, hm, Var.ix0, Var.ix1]
          refine ⟨by trivial, t3, ⟨v.plug, v.slots, some (p - (-1) * c)⟩, _, _, rfl, ht3, by simp [Var.sh, hp], fun q h => ?_⟩
          cases h
          omega
      · rw [decide_eq_false h0]
        push_cast [hm, Var.ix0, Var.ix1]
        refine ⟨by trivial, t3, ⟨v.plug, v.slots, some (p - sign * c)⟩, _, _, rfl, ht3, by simp [Var.sh, hp], fun q h => ?_⟩
        cases h
        rcases hs with rfl | rfl <;> omega
    · push_cast [show (k == 0) = false by simpa using hk, Var.ix0, Var.ix1]
      exact ⟨by trivial, t1, ⟨v.plug, v.slots, some p⟩, _, _, rfl, ht1, by simp [Var.sh, hp], fun q h => by cases h; omega⟩
theorem moved_ok (C : Orc) (hD : DrawS C) {t : List D} (ht : TapeOk t) (f : Fam) (sign : Int) (hs : sign = 1 ∨ sign = -1) (hp : f.Pr 1000000000) (hz : f.vars.length ≤ 100000) :
    ∃ (g : Fam) (t' : List D), F61 C [.l t, .d f.dat, .d (.int sign)] = .ok (.d g.dat) [.l t'] ∧ TapeOk t' ∧ g.like f ∧ g.Pr 2000000000 := by
  have run : WpC (F61 C [.l t, .d f.dat, .d (.int sign)]) fun w o => ∃ (g : Fam) (t' : List D), w = .d g.dat ∧ o = [.l t'] ∧ TapeOk t' ∧ g.like f ∧ g.Pr 2000000000 := by
    refine wpC_run (m := M61 C) rfl rfl rfl ?_
    simp only [List.map_cons, List.map_nil, List.cons_append, List.nil_append, List.replicate]
    unfold M61
    push_cast []
    obtain ⟨m, t1, h1, ht1, hm0, hm1⟩ := hD t ht 3 (by decide)
    obtain ⟨z, hz3, hat⟩ := atInt (zs := [1, 2, 4]) hm0 (by simp; omega)
    simp only [List.map_cons, List.map_nil] at hat
    have hz0 : 0 < z ∧ z ≤ 4 := by
      simp only [List.mem_cons, List.not_mem_nil, or_false] at hz3
      omega
    push_cast [h1, hat, Fam.ix2]
    obtain ⟨e', h2, t2, us, x5, x6, x7, rfl, ht2, hus, hup⟩ := forT_inv (dat := Var.dat) (tg := tgN 5) (b := M61b0 C) (xs := f.vars)
      (fun pre e => ∃ (t : List D) (us : List Var) (x5 x6 x7 : Option W), e = [some (.l t), some (.d f.dat), some (.d (.int sign)), some (.l (us.map Var.dat)), some (.d (.int z)), x5, x6, x7] ∧ TapeOk t ∧ us.map Var.sh = pre.map Var.sh ∧ ∀ v ∈ us, ∀ p, v.price = some p → p.natAbs ≤ 2000000000)
      (e := [some (.l t1), some (.d f.dat), some (.d (.int sign)), some (.l []), some (.d (.int z)), none, none, none]) ⟨t1, [], _, _, _, rfl, ht1, rfl, by simp⟩ (fun pre v post e hx hI => by
        obtain ⟨t, us, x5, x6, x7, rfl, ht, hus, hup⟩ := hI
        refine ⟨_, rfl, ?_⟩
        have hl : us.length = pre.length := by simpa using congrArg List.length hus
        have hl2 : pre.length ≤ f.vars.length := by rw [hx]; simp
        refine (moved_b0 C hD ht f.dat sign z hs (by omega) v (hp v (by rw [hx]; simp)) (us.map Var.dat) (by simp; omega) x6 x7).mono fun o e q => ?_
        obtain ⟨rfl, t', u, x6, x7, rfl, ht', hu, hub⟩ := q
        refine ⟨.inl rfl, t', us ++ [u], _, x6, x7, by rw [List.map_append]; rfl, ht', by simp [hus, hu], fun w hw => ?_⟩
        rcases List.mem_append.mp hw with hw | hw
        · exact hup w hw
        · rw [List.mem_singleton.mp hw]; exact hub)
    rw [h2]
    push_cast [Fam.ix0, Fam.ix1]
    exact ⟨⟨f.count, f.roots, us⟩, t2, rfl, by trivial, ht2, ⟨rfl, rfl, hus⟩, hup⟩
  obtain ⟨w, o, h, g, t', rfl, rfl, h1⟩ := run
  exact ⟨g, t', h, h1⟩
/-! ### drawn tables -/
def RowM (m : Nat) (ts : Row) : Prop := ∀ x : Int, some x ∈ ts → x.natAbs ≤ m
def bigT : Nat := 2 ^ 200 * 2 ^ 200 * 2 ^ 200 * 2 ^ 200 * 2 ^ 100
theorem bigT_ge : 10 ^ 100 ≤ bigT := by unfold bigT; decide
theorem RowM.of {m : Nat} {B : Nat → Nat} {ts : Row} (h : RowB B ts) (hb : ∀ s, s < ts.length → B s ≤ m) : RowM m ts := fun x hx => by
  obtain ⟨i, hi, he⟩ := List.getElem_of_mem hx
  refine Nat.le_trans (h i x ?_) (hb i hi)
  rw [List.getD_eq_getElem?_getD, List.getElem?_eq_getElem hi, he]; rfl
theorem RowM.mono {m n : Nat} {ts : Row} (h : RowM m ts) (hl : m ≤ n) : RowM n ts := fun x hx => Nat.le_trans (h x hx) hl
theorem RowM.set {m : Nat} {ts : Row} (h : RowM m ts) {i : Nat} {z : Option Int} (hz : ∀ x, z = some x → x.natAbs ≤ m) : RowM m (ts.set i z) := fun x hx => by
  rcases List.mem_or_eq_of_mem_set hx with hx | hx
  · exact h x hx
  · exact hz x hx.symm
theorem RowM.app {m : Nat} {ts : Row} (h : RowM m ts) {z : Option Int} (hz : ∀ x, z = some x → x.natAbs ≤ m) : RowM m (ts ++ [z]) := fun x hx => by
  rcases List.mem_append.mp hx with hx | hx
  · exact h x hx
  · exact hz x (List.mem_singleton.mp hx).symm
theorem RowM.nil {m : Nat} : RowM m [] := fun x hx => by cases hx
theorem big89 : fMul (.int (10 ^ 60)) (.int (10 ^ 29)) = some (.d (.int (10 ^ 89))) := by
  have h : ((10 ^ 60 : Int).natAbs < 18446744073709551616 ∨ (10 ^ 29 : Int).natAbs < 18446744073709551616 ∨ (10 ^ 60 : Int).natAbs.log2 + (10 ^ 29 : Int).natAbs.log2 < 1000000) := .inr (.inr (by decide +kernel))
  have h2 : fMul (.int (10 ^ 60)) (.int (10 ^ 29)) = some (.d (.int (10 ^ 60 * 10 ^ 29))) := by
    unfold fMul
    exact if_pos h
  rw [h2]
  congr 3
/-- the factor of a drawn price -/
def Fac (z : Int) : Prop := z = 1 ∨ z = 10 ^ 89
theorem fac_mul {d z : Int} (hz : Fac z) (h0 : -1000000000 ≤ d) (h1 : d ≤ 1000000000) : fMul (.int d) (.int z) = some (.d (.int (d * z))) ∧ (d * z).natAbs ≤ bigT := by
  have hb := bigT_ge
  refine ⟨fMul_l (by omega), ?_⟩
  rcases hz with rfl | rfl
  · rw [Int.mul_one]
    have : (10 : Nat) ^ 100 = 10 ^ 91 * 1000000000 := by decide
    have h9 : 1000000000 ≤ (10 : Nat) ^ 91 * 1000000000 := Nat.le_mul_of_pos_left _ (by decide)
    omega
  · rw [Int.natAbs_mul]
    have h3 : d.natAbs * (10 ^ 89 : Int).natAbs ≤ 1000000000 * 10 ^ 89 := Nat.mul_le_mul (by omega) (by decide)
    exact Nat.le_trans h3 (Nat.le_trans (by decide) hb)
theorem pt_b0 (C : Orc) (hD : DrawS C) {t : List D} (ht : TapeOk t) (fd sg ch : D) (top fac : Int) (h0 : 0 < top) (h1 : top ≤ 1000000000) (hf : Fac fac) (ts : Row) (hl : ts.length ≤ 100000) (hb : RowM bigT ts) (x7 x8 x9 : Option W) :
    Wp (M62b0 C [some (.l t), some (.d fd), some (.d sg), some (.d ch), some (.d (.int top)), some (.d (.int fac)), some (.l (ts.map priceD)), x7, x8, x9]) fun o e => o = .nx ∧
      ∃ (t' : List D) (z : Option Int) (x8' : Option W), e = [some (.l t'), some (.d fd), some (.d sg), some (.d ch), some (.d (.int top)), some (.d (.int fac)), some (.l ((ts ++ [z]).map priceD)), x7, x8', x9] ∧ TapeOk t' ∧ RowM bigT (ts ++ [z]) := by
  unfold M62b0
  obtain ⟨a, t1, h2, ht1, ha0, ha1⟩ := hD t ht top (log_small (by omega))
  obtain ⟨b, t2, h3, ht2, hb0, hb1⟩ := hD t1 ht1 top (log_small (by omega))
  obtain ⟨c, t3, h4, ht3, hc0, hc1⟩ := hD t2 ht2 4 (by decide)
  obtain ⟨hm, hbd⟩ := fac_mul (d := a - b) hf (by omega) (by omega)
  obtain ⟨z, hz, hat⟩ : ∃ z : Option Int, (z = none ∨ z = some ((a - b) * fac)) ∧ atI [PyData.int ((a - b) * fac), .int ((a - b) * fac), .int ((a - b) * fac), .none] c = some (priceD z) := by
    rcases at4 (x := PyData.int ((a - b) * fac)) (y := .int ((a - b) * fac)) (z := .int ((a - b) * fac)) (u := .none) hc0 (show c < 4 by omega) with ⟨_, h⟩ | ⟨_, h⟩ | ⟨_, h⟩ | ⟨_, h⟩
    · exact ⟨some _, .inr rfl, h⟩
    · exact ⟨some _, .inr rfl, h⟩
    · exact ⟨some _, .inr rfl, h⟩
    · exact ⟨none, .inl rfl, h⟩
  push_cast [h2, h3, hm, h4, hat]
  refine ⟨by trivial, t3, z, _, by rw [List.map_append]; rfl, ht3, hb.app fun x hx => ?_⟩
  rcases hz with rfl | rfl
  · cases hx
  · cases hx; exact hbd
def M62t2 (C : Orc) : MS :=
 (sSeq (sIf (tO2 cEq (.vr 3) (.ex (eC (.int 1))))
 (sSeq (sSet 9 (eCall C 5 [.rf 0, .vl (eO2 fIx (.vr 1) (.ex (eC (.int 0))))]))
 (sIf (tO2 cIs (.ex (eO2 fIx (.vr 6) (.vr 9))) (.ex (eC .none)))
 (sPut 6 (eV 9) (eCall C 5 [.rf 0, .vl (eV 4)]))
 (sPut 6 (eV 9) (eO2 fIx (.ex (eLst [(eO2 fAddI (.ex (eO2 fIx (.vr 6) (.vr 9))) (.ex (eC (.int 1)))), (eO2 fSub (.ex (eO2 fIx (.vr 6) (.vr 9))) (.ex (eC (.int 1)))), (eO2 fAdd (.ex (eO2 fIx (.vr 6) (.vr 9))) (.ex (eO2 fMul (.vr 2) (.vr 4)))), (eC .none)])) (.ex (eCall C 5 [.rf 0, .vl (eC (.int 4))]))))))
 sNx)
 (sRet (eB bTuple [(.vr 6)])))
def M62t1 (C : Orc) : MS :=
 (sSeq (sIf (tO2 cIs (.vr 6) (.ex (eC .none)))
 (sSeq (sSet 6 (eLst []))
 (sFor (iR1 (eO2 fIx (.vr 1) (.ex (eC (.int 0))))) (tgN 7)
 (M62b0 C)))
 sNx)
 (M62t2 C))
theorem M62_eq (C : Orc) : M62 C = (sSeq (sSet 3 (eCall C 5 [.rf 0, .vl (eC (.int 3))]))
 (sSeq (sSet 4 (eO2 fIx (.ex (eLst [(eC (.int 3)), (eC (.int 10)), (eO2 fPow (.ex (eC (.int 10))) (.ex (eC (.int 9))))])) (.ex (eCall C 5 [.rf 0, .vl (eC (.int 3))]))))
 (sSeq (sSet 5 (eO2 fIx (.ex (eLst [(eC (.int 1)), (eC (.int 1)), (eC (.int 1)), (eO2 fMul (.ex (eO2 fPow (.ex (eC (.int 10))) (.ex (eC (.int 60))))) (.ex (eO2 fPow (.ex (eC (.int 10))) (.ex (eC (.int 29))))))])) (.ex (eCall C 5 [.rf 0, .vl (eC (.int 4))]))))
 (sSeq (sSet 6 (eC .none))
 (sSeq (sIf (tO2 cLt (.vr 3) (.ex (eC (.int 2))))
 (sSet 6 (eCall C 60 [.vl (eCall C 61 [.rf 0, .vl (eV 1), .vl (eV 2)]), .vl (eV 2)]))
 sNx)
 (M62t1 C)))))) := rfl
theorem pd_app (ts : Row) (z : Option Int) : ts.map priceD ++ [priceD z] = (ts ++ [z]).map priceD := by rw [List.map_append]; rfl
theorem pt_t2 (C : Orc) (hD : DrawS C) {t : List D} (ht : TapeOk t) (f : Fam) (sign : Int) (hs : sign = 1 ∨ sign = -1) (hc0 : 0 < f.count) (hc : f.count ≤ 1000) (k top fac : Int) (h0 : 0 < top) (h1 : top ≤ 1000000000) (ts : Row) (hl : ts.length = f.count) (hb : RowM bigT ts) (x7 x8 : Option W) :
    Wp (M62t2 C [some (.l t), some (.d f.dat), some (.d (.int sign)), some (.d (.int k)), some (.d (.int top)), some (.d (.int fac)), some (.l (ts.map priceD)), x7, x8, none]) fun o e => ∃ (ts : Row) (t' : List D) (e' : Env), o = .rt (.d (.tuple (ts.map priceD))) ∧ e = some (.l t') :: e' ∧ TapeOk t' ∧ ts.length = f.count ∧ RowM (2 * bigT) ts := by
  have hbig := bigT_ge
  have hbig2 : 1000000000 ≤ bigT := Nat.le_trans (by decide) hbig
  have hb2 : RowM (2 * bigT) ts := hb.mono (by omega)
  unfold M62t2
  push_cast []
  by_cases hk : k = 1
  · subst hk
    obtain ⟨p, t1, h2, ht1, hp0, hp1⟩ := hD t ht f.count (log_small (by omega))
    obtain ⟨n, rfl⟩ : ∃ n : Nat, p = (n : Int) := ⟨p.toNat, by omega⟩
    have hn : n < ts.length := by omega
    push_cast [Fam.ix0, h2, row_at hn, Option.map_some]
    cases hq : ts.getD n none with
    | none =>
      obtain ⟨z, t2, h3, ht2, hz0, hz1⟩ := hD t1 ht1 top (log_small (by omega))
      push_cast [priceD_none, h3]
      exact ⟨ts.set n (some z), t2, _, by rw [List.map_set]; rfl, rfl, ht2, by simp [hl], hb2.set fun x hx => by cases hx; omega⟩
    | some w =>
      have hwb : w.natAbs ≤ bigT := hb w (by
        rw [List.getD_eq_getElem?_getD, List.getElem?_eq_getElem hn] at hq
        rw [← show ts[n] = some w from hq]
        exact List.getElem_mem hn)
      obtain ⟨z, t2, h3, ht2, hz0, hz1⟩ := hD t1 ht1 4 (by decide)
      push_cast [priceD_some, row_at hn, hq, Option.map_some, fMul_l (show sign.natAbs < 18446744073709551616 by omega), h3]
      obtain ⟨y, hy, hat⟩ : ∃ y : Option Int, (∀ x, y = some x → x.natAbs ≤ 2 * bigT) ∧ atI [PyData.int (w + 1), .int (w - 1), .int (w + sign * top), .none] z = some (priceD y) := by
        rcases at4 (x := PyData.int (w + 1)) (y := .int (w - 1)) (z := .int (w + sign * top)) (u := .none) hz0 (show z < 4 by omega) with ⟨_, h⟩ | ⟨_, h⟩ | ⟨_, h⟩ | ⟨_, h⟩
        · exact ⟨some _, fun x hx => by cases hx; omega, h⟩
        · exact ⟨some _, fun x hx => by cases hx; omega, h⟩
        · exact ⟨some _, fun x hx => by cases hx; rcases hs with rfl | rfl <;> omega, h⟩
        · exact ⟨none, (fun x hx => by cases hx), h⟩
      push_cast [hat]
      exact ⟨ts.set n y, t2, _, by rw [List.map_set], rfl, ht2, by simp [hl], hb2.set hy⟩
  · push_cast [show (k == 1) = false by simpa using hk]
    exact ⟨ts, t, _, rfl, rfl, ht, hl, hb2⟩
theorem pt_t1 (C : Orc) (hD : DrawS C) {t : List D} (ht : TapeOk t) (f : Fam) (sign : Int) (hs : sign = 1 ∨ sign = -1) (hc0 : 0 < f.count) (hc : f.count ≤ 1000) (k top fac : Int) (h0 : 0 < top) (h1 : top ≤ 1000000000) (hF : Fac fac) (r : Option Row) (hr : ∀ ts, r = some ts → ts.length = f.count ∧ RowM bigT ts) :
    Wp (M62t1 C [some (.l t), some (.d f.dat), some (.d (.int sign)), some (.d (.int k)), some (.d (.int top)), some (.d (.int fac)), some (rowW r), none, none, none]) fun o e => ∃ (ts : Row) (t' : List D) (e' : Env), o = .rt (.d (.tuple (ts.map priceD))) ∧ e = some (.l t') :: e' ∧ TapeOk t' ∧ ts.length = f.count ∧ RowM (2 * bigT) ts := by
  unfold M62t1
  cases r with
  | some ts =>
    obtain ⟨hl, hb⟩ := hr ts rfl
    rw [show rowW (some ts) = .l (ts.map priceD) from rfl]
    push_cast []
    exact pt_t2 C hD ht f sign hs hc0 hc k top fac h0 h1 ts hl hb _ _
  | none =>
    rw [show rowW none = .d .none from rfl]
    push_cast [Fam.ix0]
    obtain ⟨e', h2, t', ts, x7, x8, rfl, ht', hl, hb⟩ := forN_inv (tg := tgN 7) (b := M62b0 C) (n := f.count)
      (fun i e => ∃ (t : List D) (ts : Row) (x7 x8 : Option W), e = [some (.l t), some (.d f.dat), some (.d (.int sign)), some (.d (.int k)), some (.d (.int top)), some (.d (.int fac)), some (.l (ts.map priceD)), x7, x8, none] ∧ TapeOk t ∧ ts.length = i ∧ RowM bigT ts)
      (e := [some (.l t), some (.d f.dat), some (.d (.int sign)), some (.d (.int k)), some (.d (.int top)), some (.d (.int fac)), some (.l []), none, none, none])
      ⟨t, [], _, _, rfl, ht, rfl, RowM.nil⟩ (fun i e hi hI => by
        obtain ⟨t, ts, x7, x8, rfl, ht, hl, hb⟩ := hI
        refine ⟨_, rfl, (pt_b0 C hD ht f.dat (.int sign) (.int k) top fac h0 h1 hF ts (by omega) hb _ x8 none).mono fun o e q => ?_⟩
        obtain ⟨rfl, t', z, x8', rfl, ht', hb'⟩ := q
        exact ⟨.inl rfl, t', ts ++ [z], _, _, rfl, ht', by simp [hl], hb'⟩)
    rw [h2]
    push_cast []
    exact pt_t2 C hD ht' f sign hs hc0 hc k top fac h0 h1 ts hl hb _ _
theorem price_table_ok (C : Orc) (hD : DrawS C) {t : List D} (ht : TapeOk t) (f : Fam) (sign : Int) (hs : sign = 1 ∨ sign = -1) (hc0 : 0 < f.count) (hc : f.count ≤ 1000)
    (h61 : ∀ t, TapeOk t → ∃ (g : Fam) (t' : List D), C 61 [.l t, .d f.dat, .d (.int sign)] = .ok (.d g.dat) [.l t'] ∧ TapeOk t' ∧ g.like f ∧ g.Pr 2000000000)
    (h60 : ∀ g : Fam, g.like f → g.Pr 2000000000 → ∃ r : Option Row, C 60 [.d g.dat, .d (.int sign)] = .ok (rowW r) [] ∧ ∀ ts, r = some ts → ts.length = f.count ∧ RowM bigT ts) :
    ∃ (ts : Row) (t' : List D), F62 C [.l t, .d f.dat, .d (.int sign)] = .ok (.d (.tuple (ts.map priceD))) [.l t'] ∧ TapeOk t' ∧ ts.length = f.count ∧ RowM (2 * bigT) ts := by
  have run : WpC (F62 C [.l t, .d f.dat, .d (.int sign)]) fun w o => ∃ (ts : Row) (t' : List D), w = .d (.tuple (ts.map priceD)) ∧ o = [.l t'] ∧ TapeOk t' ∧ ts.length = f.count ∧ RowM (2 * bigT) ts := by
    refine wpC_run (m := M62 C) rfl rfl rfl ?_
    simp only [List.map_cons, List.map_nil, List.cons_append, List.nil_append, List.replicate]
    rw [M62_eq]
    obtain ⟨k, t1, h1, ht1, hk0, hk1⟩ := hD t ht 3 (by decide)
    obtain ⟨m, t2, h2, ht2, hm0, hm1⟩ := hD t1 ht1 3 (by decide)
    obtain ⟨l, t3, h3, ht3, hl0, hl1⟩ := hD t2 ht2 4 (by decide)
    obtain ⟨top, htop, hat⟩ := atInt (zs := [3, 10, 1000000000]) hm0 (by simp; omega)
    obtain ⟨fac, hfac, haf⟩ := atInt (zs := [1, 1, 1, 10 ^ 89]) hl0 (by simp; omega)
    simp only [List.map_cons, List.map_nil] at hat haf
    have htop0 : 0 < top ∧ top ≤ 1000000000 := by
      simp only [List.mem_cons, List.not_mem_nil, or_false] at htop
      omega
    have hF : Fac fac := by
      simp only [List.mem_cons, List.not_mem_nil, or_false] at hfac
      rcases hfac with h | h | h | h
      · exact .inl h
      · exact .inl h
      · exact .inl h
      · exact .inr h
    push_cast [h1, h2, h3, fPow9, fPow_p (i := 10) (j := 60) (by decide), fPow_p (i := 10) (j := 29) (by decide), big89, hat, haf]
    have fin : ∀ t4, TapeOk t4 → ∀ r : Option Row, (∀ ts, r = some ts → ts.length = f.count ∧ RowM bigT ts) → WpC (kF [0] (M62t1 C [some (.l t4), some (.d f.dat), some (.d (.int sign)), some (.d (.int k)), some (.d (.int top)), some (.d (.int fac)), some (rowW r), none, none, none])) fun w o => ∃ (ts : Row) (t' : List D), w = .d (.tuple (ts.map priceD)) ∧ o = [.l t'] ∧ TapeOk t' ∧ ts.length = f.count ∧ RowM (2 * bigT) ts := fun t4 ht4 r hr => by
      obtain ⟨o, e, he, ts, t', e', rfl, rfl, q⟩ := pt_t1 C hD ht4 f sign hs hc0 hc k top fac htop0.1 htop0.2 hF r hr
      rw [he]
      push_cast []
      exact ⟨ts, t', rfl, by trivial, q⟩
    by_cases hk : k < 2
    · rw [decide_eq_true hk]
      obtain ⟨g, t4, h4, ht4, hg, hgp⟩ := h61 t3 ht3
      obtain ⟨r, h5, hr⟩ := h60 g hg hgp
      push_cast [h4, h5]
      exact fin t4 ht4 r hr
    · rw [decide_eq_false hk]
      push_cast []
      exact fin t3 ht3 none fun ts h => by cases h
  obtain ⟨w, o, h, ts, t', rfl, rfl, h1⟩ := run
  exact ⟨ts, t', h, h1⟩
/-! ### families whose extreme tables stay small -/
theorem sum_le {B : Nat → Nat} {m : Nat} : ∀ {sl : List Nat}, (∀ s ∈ sl, B s ≤ m) → (sl.map B).sum ≤ sl.length * m
  | [], _ => by simp
  | s :: sl, h => by
    have := sum_le fun x hx => h x (List.mem_cons_of_mem s hx)
    have := h s List.mem_cons_self
    rw [List.map_cons, List.sum_cons, List.length_cons, Nat.succ_mul]
    omega
/-- a bound for all families of this shape -/
structure Fam.Tame (f : Fam) : Prop where
  pos : 0 < f.count
  count : f.count ≤ 1000
  inn : f.In f.count
  len : f.vars.length ≤ 1000
  grow : ∀ g : Fam, g.like f → g.Pr 2000000000 → ∃ B, g.Grow B ∧ ∀ s, s < f.count → B ((f.count + 1) * f.vars.length) s ≤ bigT
theorem like_len {g f : Fam} (h : g.like f) : g.vars.length = f.vars.length := by simpa using congrArg List.length h.vars
theorem like_mem {g f : Fam} (h : g.like f) {v : Var} (hv : v ∈ g.vars) : ∃ u ∈ f.vars, u.plug = v.plug ∧ u.slots = v.slots := by
  have : v.sh ∈ f.vars.map Var.sh := by rw [← h.vars]; exact List.mem_map.mpr ⟨v, hv, rfl⟩
  obtain ⟨u, hu, e⟩ := List.mem_map.mp this
  simp only [Var.sh, Prod.mk.injEq] at e
  exact ⟨u, hu, e.1, e.2.1⟩
theorem like_in {g f : Fam} (h : g.like f) {n : Nat} (hf : f.In n) : g.In n := by
  refine ⟨fun v hv => ?_, fun v hv s hs => ?_⟩
  · obtain ⟨u, hu, e1, _⟩ := like_mem h hv
    rw [← e1]; exact hf.plug u hu
  · obtain ⟨u, hu, _, e2⟩ := like_mem h hv
    rw [← e2] at hs; exact hf.slots u hu s hs
theorem like_trans {g f e : Fam} (h : g.like f) (h' : f.like e) : g.like e := ⟨h.count.trans h'.count, h.roots.trans h'.roots, h.vars.trans h'.vars⟩
theorem like_refl (f : Fam) : f.like f := ⟨rfl, rfl, rfl⟩
theorem tame_like {g f : Fam} (h : g.like f) (hf : f.Tame) : g.Tame := by
  have e1 := h.count
  have e2 := like_len h
  exact ⟨by rw [e1]; exact hf.pos, by rw [e1]; exact hf.count, by rw [e1]; exact like_in h hf.inn, by rw [e2]; exact hf.len, fun k hk hp => by rw [e1, e2]; exact hf.grow k (like_trans hk h) hp⟩
theorem shp_in {a b : Nat} {f : Fam} (h : f.Shp a b) : f.In f.count := ⟨fun v hv => (h.vars v hv).plug, fun v hv => (h.vars v hv).slots⟩
theorem four {q k m : Nat} (hq : q ≤ 2000000000) (hk : k ≤ 3) (hm : 2000000000 ≤ m) : q + k * m ≤ m * 4 := by
  have : k * m ≤ 3 * m := Nat.mul_le_mul_right m hk
  omega
theorem tame_small {f : Fam} (hf : f.Shp 6 10) : f.Tame := by
  have hc := hf.count
  have hl := hf.len
  refine ⟨hf.pos, by omega, shp_in hf, by omega, fun g hg hp => ⟨fun i _ => 2000000000 * 4 ^ i, ⟨fun i s => ?_, fun v hv p hpr i => ?_⟩, fun s _ => ?_⟩⟩
  · rw [Nat.pow_succ]; omega
  · have hq := hp v hv p hpr
    obtain ⟨u, hu, _, e2⟩ := like_mem hg hv
    have h3 := (hf.vars u hu).len
    rw [e2] at h3
    have h1 : 0 < 4 ^ i := Nat.pow_pos (by decide)
    have := sum_le (B := fun _ => 2000000000 * 4 ^ i) (m := 2000000000 * 4 ^ i) (sl := v.slots) fun _ _ => Nat.le_refl _
    have := four hq h3 (show 2000000000 ≤ 2000000000 * 4 ^ i by omega)
    rw [Nat.pow_succ, ← Nat.mul_assoc]
    omega
  · have : (f.count + 1) * f.vars.length ≤ 7 * 16 := Nat.mul_le_mul (by omega) (by omega)
    have h4 : 4 ^ ((f.count + 1) * f.vars.length) ≤ 4 ^ (7 * 16) := Nat.pow_le_pow_right (by decide) this
    refine Nat.le_trans (Nat.mul_le_mul_left _ h4) ?_
    unfold bigT; decide
theorem tame_lev {f : Fam} (hf : f.Shp 40 100) (hv : f.Lev) : f.Tame := by
  have hc := hf.count
  have hl := hf.len
  refine ⟨hf.pos, by omega, shp_in hf, by omega, fun g hg hp => ⟨fun _ s => 2000000000 * 4 ^ (f.count - s), ⟨fun i s => Nat.le_refl _, fun v hv' p hpr i => ?_⟩, fun s _ => ?_⟩⟩
  · have hq := hp v hv' p hpr
    obtain ⟨u, hu, e1, e2⟩ := like_mem hg hv'
    have h3 := (hf.vars u hu).len
    have hup := hv u hu
    have hpl := (hf.vars u hu).plug
    rw [e1] at hpl
    rw [Var.Up, e1, e2] at hup
    rw [e2] at h3
    have h1 : 0 < 4 ^ (f.count - v.plug - 1) := Nat.pow_pos (by decide)
    have := sum_le (B := fun s => 2000000000 * 4 ^ (f.count - s)) (m := 2000000000 * 4 ^ (f.count - v.plug - 1)) (sl := v.slots) fun s hs => by
      have := hup s hs
      exact Nat.mul_le_mul_left _ (Nat.pow_le_pow_right (by decide) (by omega))
    have := four hq h3 (show 2000000000 ≤ 2000000000 * 4 ^ (f.count - v.plug - 1) by omega)
    rw [show f.count - v.plug = (f.count - v.plug - 1) + 1 by omega, Nat.pow_succ, ← Nat.mul_assoc]
    omega
  · have h4 : 4 ^ (f.count - s) ≤ 4 ^ 40 := Nat.pow_le_pow_right (by decide) (by omega)
    refine Nat.le_trans (Nat.mul_le_mul_left _ h4) ?_
    unfold bigT; decide
end Mi
set_option Elab.async false
set_option linter.all false
set_option maxRecDepth 100000
set_option maxHeartbeats 4000000
namespace Mi
open PySem L2
local macro_rules | `(tactic| push_cast [$hs,*]) => `(tactic| simp -implicitDefEqProofs (disch := first | omega | (simp only [rng_len, List.length_map, List.length_append, List.length_range, List.length_replicate, List.length_cons, List.length_nil, List.length_set]; omega)) only [ev_seq, ev_if, ev_ifE, ev_nx, ev_bk, ev_ct, ev_E, ev_set, ev_tg, ev_ret, ev_retO, ev_retN, ev_put, ev_for, ev_C, ev_V, ev_vr, ev_ex, ev_o1, ev_o2, ev_t2, ev_tru, ev_and, ev_or, ev_not, ev_yes, ev_andE, ev_orE, ev_notE, ev_LN, ev_LC, ev_B, ev_TN, ev_TC, ev_tup, ev_lst, ev_GN, ev_GV, ev_GR, ev_call, ev_mu, ev_lc, ev_any, ev_r1, ev_r2, ev_rep, kS_nx, kS_bk, kS_ct, kS_rt, kIf_t, kIf_f, kM_ok, kSet_ok, kAnd_t, kAnd_f, kOr_t, kOr_f, kAndE_t, kAndE_f, kOrE_t, kOrE_f, kNotE_b, oVr_s, kO2_ok, kO2'_ok, g2_ss, gv_l, gv_r, kL_ok, kL'_ok, kB_ok, gB_s, gvL_n, gvL_c, kV_ss, kT_ok, kT'_ok, kG_ok, kG'_ok, gG_l, gG_t, gG_d, kC_ok, kC1_s, kC2_ok, kP_s, take_n, take_l, take_r, put_n, put_l, put_r, pt1_s, kPut1_ok, kPut2_ok, isL_l, kMu_ok, kFor_ok, kSeqI_l, kSeqI_l', kSeqI_t, kR2_ok, kRep_ok, rV_d, rV_l, cont_n, cont_c, ct1_s, wp_ok, wpC_ok, atI_0, atI_1, atI_2, atI_3, fIx_l, fIx_t, List.length_cons, List.length_nil, Nat.zero_add, Nat.reduceAdd, Int.reduceLT, Int.reduceLE, Int.reduceAdd, Int.reduceMul, Int.reduceToNat, Int.reduceNeg, Int.reduceSub, Nat.reduceLT, Nat.reduceLeDiff, Nat.reduceMul, gt_iff_lt, ge_iff_le, ixN_4_0, ixN_4_1, ixN_4_2, ixN_4_3, wipe_n, wipe_c, tgN_r, tgT_r, tgL_n, tgL_c, ofO_some, vw_d, vw_l, fAddI_int, fSub_int, fNeg_int, fMod_p, fMul_31, fMul_48271, fMul_69621, fPow18, fPow9, cCmp_int, cEq_int, cNe_int, cEq_str, cNe_str, cOrd_int, ev_aug, kAug_ok, ev_en, kEn_t, fIs_int, fIs_bool, fIs_none, fIs_str, fIs_list, fIs_tuple, isTy_int_int, isTy_int_bool, isTy_tuple_tuple, cIs_none, cIsNot_none, isNone_none, isNone_int, isNone_str, isNone_tuple, isNone_list, isNone_bool, truD_l, truD_t, truD_b, truD_n, bLen_l, bLen_t, bAbs_int, bInt_int, bMax_int, bMin_int, bList_l, bList_t, bTuple_l, bTuple_t, Option.map_some, Option.bind_some, List.getD_cons_zero, List.getD_cons_succ, List.set_cons_zero, List.set_cons_succ, if_true, if_false, lB, ↓reduceIte, Bool.not_true, Bool.not_false, kO1_ok, g1_s, kTru_ok, vf_d, vf_l, tk1_s, tkW_s, isO_l, isO_t, kF_ok, endF_r, endF_n, kF_ex, endX_s, rV_t, lpos_n, lpos_l, lpos_t, lpos_d, fAdd_int, ev_pN, ev_pS, kP1_i, ev_sl, kSl_ok, kSl2_ok, kSl3_ok, fSl_l, fSl_t, fRev_l, fRev_t, kR1_c, kR1_n, kR2_c, kLc_c, kRep2_n, gPut_n, gPut_c, gMu_app, rep_n, vw_d, List.length_map, List.length_range, rng_len, Int.toNat_natCast, beq_self_eq_true, Bool.not_true, Bool.not_false, Option.isNone_none, Option.isNone_some, decide_true, decide_false, ev_forN, kTg_2, kTg_3, ev_mv, gMv_s, ev_rvA, kRvA_t, kRvA_d, kRvA_l, ev_g1, kg1_i, ev_g2, kg2a_i, kg2_i, ev_tupR, ev_lstR, kTupR_s, kLstR_s, ev_rvR, kRvR_s, $hs,*])
/-! ### least prices by rounds in place -/
def ole : Option Int → Option Int → Prop
  | _, none => True
  | none, some _ => False
  | some a, some b => a ≤ b
theorem ole_none {x : Option Int} : ole x none := by cases x <;> trivial
theorem ole_ss {a b : Int} : ole (some a) (some b) ↔ a ≤ b := Iff.rfl
theorem ole_refl (x : Option Int) : ole x x := by cases x with
  | none => trivial
  | some a => exact Int.le_refl a
theorem ole_trans {x y z : Option Int} (h : ole x y) (g : ole y z) : ole x z := by
  cases z with
  | none => exact ole_none
  | some c =>
    cases y with
    | none => exact g.elim
    | some b =>
      cases x with
      | none => exact h.elim
      | some a => exact Int.le_trans h g
theorem ole_antisymm {x y : Option Int} (h : ole x y) (g : ole y x) : x = y := by
  cases x <;> cases y
  · rfl
  · exact h.elim
  · exact g.elim
  · exact congrArg some (Int.le_antisymm h g)
def oleR (S T : Row) : Prop := ∀ s, ole (S.getD s none) (T.getD s none)
theorem oleR_refl (S : Row) : oleR S S := fun s => ole_refl _
theorem oleR_trans {S T U : Row} (h : oleR S T) (g : oleR T U) : oleR S U := fun s => ole_trans (h s) (g s)
theorem cst_mono {S T : Row} (h : oleR S T) : ∀ (sl : List Nat) (x y : Option Int), ole x y → ole (cst S x sl) (cst T y sl)
  | sl, x, none, _ => by rw [cst_none]; exact ole_none
  | sl, none, some y, g => g.elim
  | [], some x, some y, g => g
  | s :: sl, some x, some y, g => by
    have hs := h s
    cases hT : T.getD s none with
    | none => rw [cst_no hT]; exact ole_none
    | some t =>
      rw [hT] at hs
      cases hS : S.getD s none with
      | none => rw [hS] at hs; exact hs.elim
      | some u =>
        rw [hS] at hs
        rw [cst_some hS, cst_some hT]
        refine cst_mono h sl _ _ ?_
        have g' : x ≤ y := g
        have hs' : u ≤ t := hs
        show x + u ≤ y + t
        omega
theorem cost_mono {S T : Row} (h : oleR S T) (v : Var) : ole (v.cost S) (v.cost T) := cst_mono h _ _ _ (ole_refl _)
/-- the prices of weights -/
def prs (ws : List Wt) : Row := ws.map (·.map Prod.fst)
theorem prs_get (ws : List Wt) (s : Nat) : (prs ws).getD s none = (ws.getD s none).map Prod.fst := by
  simp only [prs, List.getD_eq_getElem?_getD, List.getElem?_map]
  cases ws[s]? <;> rfl
theorem cst_wsum (ws : List Wt) : ∀ (sl : List Nat) (p n : Int), cst (prs ws) (some p) sl = (wsum ws sl p n).map Prod.fst
  | [], p, n => rfl
  | s :: sl, p, n => by
    cases h : ws.getD s none with
    | none =>
      rw [cst_no (by rw [prs_get, h]; rfl)]
      simp only [wsum, h, Option.map_none]
    | some q =>
      rw [cst_some (q := q.1) (by rw [prs_get, h]; rfl), cst_wsum ws sl (p + q.1) (n + q.2)]
      simp only [wsum, h]
theorem cost_prs (v : Var) (ws : List Wt) : v.cost (prs ws) = (weight v ws).map Prod.fst := by
  unfold Var.cost weight
  cases v.price with
  | none => rw [cst_none]; rfl
  | some p => exact cst_wsum ws _ p 1
theorem wle_ole {x y : Wt} (h : wle x y) : ole (x.map Prod.fst) (y.map Prod.fst) := by
  cases y with
  | none => exact ole_none
  | some b =>
    cases x with
    | none => exact absurd wlt_sn h
    | some a =>
      have := wle_ss.mp h
      show a.1 ≤ b.1
      omega
/-- one variant of a round -/
def stepE (ts : Row) (v : Var) : Row := match v.cost ts with
  | none => ts
  | some c => match ts.getD v.plug none with
    | none => ts.set v.plug (some c)
    | some w => if c < w then ts.set v.plug (some c) else ts
theorem setR {ts : Row} {i : Nat} {x : Option Int} (h : i < ts.length) (s : Nat) : (ts.set i x).getD s none = if s = i then x else ts.getD s none := by
  rw [List.getD_eq_getElem?_getD, List.getElem?_set, List.getD_eq_getElem?_getD]
  by_cases e : i = s
  · subst e
    rw [if_pos rfl, if_pos h, if_pos rfl]; rfl
  · rw [if_neg e, if_neg fun z => e z.symm]
theorem stepE_len {ts : Row} {v : Var} : (stepE ts v).length = ts.length := by
  unfold stepE
  split
  · rfl
  · split
    · simp
    · split <;> simp
/-- a step makes a price smaller, or does nothing -/
theorem stepE_cases {ts : Row} {v : Var} (h : v.plug < ts.length) : (stepE ts v = ts ∧ ole (ts.getD v.plug none) (v.cost ts)) ∨ (∃ c, v.cost ts = some c ∧ stepE ts v = ts.set v.plug (some c) ∧ ole (some c) (ts.getD v.plug none) ∧ ts.getD v.plug none ≠ some c) := by
  unfold stepE
  cases hc : v.cost ts with
  | none => exact .inl ⟨rfl, ole_none⟩
  | some c =>
    cases hq : ts.getD v.plug none with
    | none => exact .inr ⟨c, rfl, rfl, ole_none, by simp⟩
    | some w =>
      by_cases hlt : c < w
      · refine .inr ⟨c, rfl, ?_, Int.le_of_lt hlt, fun z => by cases z; omega⟩
        simp only [if_pos hlt]
      · refine .inl ⟨?_, ?_⟩
        · simp only [if_neg hlt]
        · show w ≤ c
          omega
theorem stepE_dec {ts : Row} {v : Var} (h : v.plug < ts.length) : oleR (stepE ts v) ts := fun s => by
  rcases stepE_cases h with ⟨e, _⟩ | ⟨c, _, e, g, _⟩
  · rw [e]; exact ole_refl _
  · rw [e, setR h]
    split
    · rename_i z; rw [z]; exact g
    · exact ole_refl _
theorem stepE_le {ts : Row} {v : Var} (h : v.plug < ts.length) : ole ((stepE ts v).getD v.plug none) (v.cost ts) := by
  rcases stepE_cases h with ⟨e, g⟩ | ⟨c, hc, e, _, _⟩
  · rw [e]; exact g
  · rw [e, setR h, if_pos rfl, hc]; exact ole_refl _
theorem fold_len : ∀ (vs : List Var) (ts : Row), (vs.foldl stepE ts).length = ts.length
  | [], _ => rfl
  | v :: vs, ts => by rw [List.foldl_cons, fold_len vs, stepE_len]
theorem fold_dec : ∀ (vs : List Var) (ts : Row), (∀ v ∈ vs, v.plug < ts.length) → oleR (vs.foldl stepE ts) ts
  | [], ts, _ => oleR_refl ts
  | v :: vs, ts, h => by
    rw [List.foldl_cons]
    exact oleR_trans (fold_dec vs _ fun u hu => by rw [stepE_len]; exact h u (List.mem_cons_of_mem _ hu)) (stepE_dec (h v List.mem_cons_self))
theorem fold_le : ∀ (vs : List Var) (ts T : Row), (∀ v ∈ vs, v.plug < ts.length) → oleR ts T → ∀ v ∈ vs, ole ((vs.foldl stepE ts).getD v.plug none) (v.cost T)
  | [], _, _, _, _, v, hv => by cases hv
  | u :: vs, ts, T, h, g, v, hv => by
    have hu := h u List.mem_cons_self
    have h' : ∀ v ∈ vs, v.plug < (stepE ts u).length := fun x hx => by rw [stepE_len]; exact h x (List.mem_cons_of_mem _ hx)
    rw [List.foldl_cons]
    rcases List.mem_cons.mp hv with rfl | hv
    · exact ole_trans (fold_dec vs _ h' _) (ole_trans (stepE_le hu) (cost_mono g v))
    · exact fold_le vs _ T h' (oleR_trans (stepE_dec hu) g) v hv
/-- a floor of the family -/
def Fam.Flo (f : Fam) (L : Row) : Prop := ∀ v ∈ f.vars, ole (L.getD v.plug none) (v.cost L)
theorem fold_ge {f : Fam} {L : Row} (hL : f.Flo L) : ∀ (vs : List Var) (ts : Row), (∀ v ∈ vs, v ∈ f.vars ∧ v.plug < ts.length) → oleR L ts → oleR L (vs.foldl stepE ts)
  | [], ts, _, g => g
  | v :: vs, ts, h, g => by
    obtain ⟨hv, hp⟩ := h v List.mem_cons_self
    rw [List.foldl_cons]
    refine fold_ge hL vs _ (fun u hu => ⟨(h u (List.mem_cons_of_mem _ hu)).1, by rw [stepE_len]; exact (h u (List.mem_cons_of_mem _ hu)).2⟩) fun s => ?_
    rcases stepE_cases hp with ⟨e, _⟩ | ⟨c, hc, e, _, _⟩
    · rw [e]; exact g s
    · rw [e, setR hp]
      split
      · rename_i z
        rw [z, ← hc]
        exact ole_trans (hL v hv) (cost_mono g v)
      · exact g s
/-- a floor stays -/
theorem stepE_floor {f : Fam} {L : Row} (hL : f.Flo L) {v : Var} (hv : v ∈ f.vars) (hp : v.plug < L.length) : stepE L v = L := by
  rcases stepE_cases hp with ⟨e, _⟩ | ⟨c, hc, e, g, ne⟩
  · exact e
  · have := hL v hv
    rw [hc] at this
    exact absurd (ole_antisymm this g) ne
def turnE (f : Fam) (ts : Row) : Row := f.vars.foldl stepE ts
def SE (f : Fam) : Nat → Row
  | 0 => List.replicate f.count none
  | k + 1 => turnE f (SE f k)
def Fam.lp (f : Fam) : Row := prs f.lw
section
variable {f : Fam} (hf : f.Plain)
include hf
theorem SE_len (k : Nat) : (SE f k).length = f.count := by
  induction k with
  | zero => simp [SE]
  | succ k ih => show (turnE f (SE f k)).length = _; unfold turnE; rw [fold_len, ih]
theorem lw_fix : wRound f f.lw = f.lw := it_fix hf
theorem lp_len : f.lp.length = f.count := by unfold Fam.lp prs Fam.lw; rw [List.length_map, it_len hf]
theorem lp_flo : f.Flo f.lp := fun v hv => by
  unfold Fam.lp
  rw [prs_get, cost_prs]
  have := round_le (ws := f.lw) hf.plug hv
  rw [lw_fix hf] at this
  exact wle_ole this
theorem lp_met {s : Nat} {l : Int} (h : f.lp.getD s none = some l) : ∃ v ∈ f.vars, v.plug = s ∧ v.cost f.lp = some l := by
  unfold Fam.lp at h ⊢
  rw [prs_get] at h
  obtain ⟨q, hq, rfl⟩ := Option.map_eq_some_iff.mp h
  rw [← lw_fix hf] at hq
  obtain ⟨v, hv, hp, hw⟩ := round_is hf.plug hq
  exact ⟨v, hv, hp, by rw [cost_prs, hw]; rfl⟩
theorem SE_ge (k : Nat) : oleR f.lp (SE f k) := by
  induction k with
  | zero =>
    intro s
    show ole _ ((List.replicate f.count (none : Option Int)).getD s none)
    have : (List.replicate f.count (none : Option Int)).getD s none = none := by
      rw [List.getD_eq_getElem?_getD, List.getElem?_replicate]
      split <;> rfl
    rw [this]
    exact ole_none
  | succ k ih => exact fold_ge (lp_flo hf) f.vars _ (fun v hv => ⟨hv, by rw [SE_len hf]; exact hf.plug v hv⟩) ih
theorem SE_le (k : Nat) : oleR (SE f k) (prs (wIt f k)) := by
  induction k with
  | zero =>
    intro s
    rw [prs_get]
    show ole _ (((List.replicate f.count (none : Wt)).getD s none).map _)
    rw [none_get]
    exact ole_none
  | succ k ih =>
    intro s
    rw [prs_get]
    cases h : (wIt f (k + 1)).getD s none with
    | none => exact ole_none
    | some q =>
      obtain ⟨v, hv, hp, hw⟩ := round_is hf.plug h
      have := fold_le f.vars (SE f k) (prs (wIt f k)) (fun v hv => by rw [SE_len hf]; exact hf.plug v hv) ih v hv
      rw [cost_prs, hw, hp] at this
      exact this
theorem SE_end : SE f f.count = f.lp := by
  refine List.ext_getElem ((SE_len hf _).trans (lp_len hf).symm) fun i h1 h2 => ?_
  have a := SE_ge hf f.count i
  have b := SE_le hf f.count i
  have := ole_antisymm b a
  change (SE f f.count).getD i none = f.lp.getD i none at this
  rw [List.getD_eq_getElem?_getD, List.getD_eq_getElem?_getD, List.getElem?_eq_getElem h1, List.getElem?_eq_getElem h2] at this
  exact this
theorem SE_stay {k : Nat} (h : turnE f (SE f k) = SE f k) : ∀ j, k ≤ j → SE f j = SE f k := fun j hj => by
  induction j with
  | zero => rw [show k = 0 by omega]
  | succ j ih =>
    rcases Nat.lt_or_ge j k with hk | hk
    · rw [show k = j + 1 by omega]
    · show turnE f (SE f j) = _
      rw [ih hk, h]
theorem SE_done {k : Nat} (hk : k ≤ f.count) (h : turnE f (SE f k) = SE f k) : SE f k = f.lp := by
  rw [← SE_end hf, SE_stay hf h _ hk]
end
end Mi
set_option Elab.async false
set_option linter.all false
set_option maxRecDepth 100000
set_option maxHeartbeats 4000000
namespace Mi
open PySem L2
local macro_rules | `(tactic| push_cast [$hs,*]) => `(tactic| simp -implicitDefEqProofs (disch := first | omega | (simp only [rng_len, List.length_map, List.length_append, List.length_range, List.length_replicate, List.length_cons, List.length_nil, List.length_set, List.length_reverse, List.length_zipIdx]; omega)) only [ev_seq, ev_if, ev_ifE, ev_nx, ev_bk, ev_ct, ev_E, ev_set, ev_tg, ev_ret, ev_retO, ev_retN, ev_put, ev_for, ev_C, ev_V, ev_vr, ev_ex, ev_o1, ev_o2, ev_t2, ev_tru, ev_and, ev_or, ev_not, ev_yes, ev_andE, ev_orE, ev_notE, ev_LN, ev_LC, ev_B, ev_TN, ev_TC, ev_tup, ev_lst, ev_GN, ev_GV, ev_GR, ev_call, ev_mu, ev_lc, ev_any, ev_r1, ev_r2, ev_rep, kS_nx, kS_bk, kS_ct, kS_rt, kIf_t, kIf_f, kM_ok, kSet_ok, kAnd_t, kAnd_f, kOr_t, kOr_f, kAndE_t, kAndE_f, kOrE_t, kOrE_f, kNotE_b, oVr_s, kO2_ok, kO2'_ok, g2_ss, gv_l, gv_r, kL_ok, kL'_ok, kB_ok, gB_s, gvL_n, gvL_c, kV_ss, kT_ok, kT'_ok, kG_ok, kG'_ok, gG_l, gG_t, gG_d, kC_ok, kC1_s, kC2_ok, kP_s, take_n, take_l, take_r, put_n, put_l, put_r, pt1_s, kPut1_ok, kPut2_ok, isL_l, kMu_ok, kFor_ok, kSeqI_l, kSeqI_l', kSeqI_t, kR2_ok, kRep_ok, rV_d, rV_l, cont_n, cont_c, ct1_s, wp_ok, wpC_ok, atI_0, atI_1, atI_2, atI_3, fIx_l, fIx_t, List.length_cons, List.length_nil, Nat.zero_add, Nat.reduceAdd, Int.reduceLT, Int.reduceLE, Int.reduceAdd, Int.reduceMul, Int.reduceToNat, Int.reduceNeg, Int.reduceSub, Nat.reduceLT, Nat.reduceLeDiff, Nat.reduceMul, gt_iff_lt, ge_iff_le, ixN_4_0, ixN_4_1, ixN_4_2, ixN_4_3, wipe_n, wipe_c, tgN_r, tgT_r, tgL_n, tgL_c, ofO_some, vw_d, vw_l, fAddI_int, fSub_int, fNeg_int, fMod_p, fMul_31, fMul_48271, fMul_69621, fPow18, fPow9, cCmp_int, cEq_int, cNe_int, cEq_str, cNe_str, cOrd_int, ev_aug, kAug_ok, ev_en, kEn_t, fIs_int, fIs_bool, fIs_none, fIs_str, fIs_list, fIs_tuple, isTy_int_int, isTy_int_bool, isTy_tuple_tuple, cIs_none, cIsNot_none, isNone_none, isNone_int, isNone_str, isNone_tuple, isNone_list, isNone_bool, truD_l, truD_t, truD_b, truD_n, bLen_l, bLen_t, bAbs_int, bInt_int, bMax_int, bMin_int, bList_l, bList_t, bTuple_l, bTuple_t, Option.map_some, Option.bind_some, List.getD_cons_zero, List.getD_cons_succ, List.set_cons_zero, List.set_cons_succ, if_true, if_false, lB, ↓reduceIte, Bool.not_true, Bool.not_false, kO1_ok, g1_s, kTru_ok, vf_d, vf_l, tk1_s, tkW_s, isO_l, isO_t, kF_ok, endF_r, endF_n, kF_ex, endX_s, rV_t, lpos_n, lpos_l, lpos_t, lpos_d, fAdd_int, ev_pN, ev_pS, kP1_i, ev_sl, kSl_ok, kSl2_ok, kSl3_ok, fSl_l, fSl_t, fRev_l, fRev_t, kR1_c, kR1_n, kR2_c, kLc_c, kRep2_n, gPut_n, gPut_c, gMu_app, rep_n, vw_d, List.length_map, List.length_range, rng_len, Int.toNat_natCast, beq_self_eq_true, Bool.not_true, Bool.not_false, Option.isNone_none, Option.isNone_some, decide_true, decide_false, ev_forN, List.isEmpty_nil, List.isEmpty_cons, kTg_2, kTg_3, ev_mv, gMv_s, ev_rvA, kRvA_t, kRvA_d, kRvA_l, ev_g1, kg1_i, ev_g2, kg2a_i, kg2_i, fNotT_l, fNotT_b, ev_tupR, ev_lstR, kTupR_s, kLstR_s, ev_rvR, kRvR_s, $hs,*])
def M27b0 (C : Orc) : MS :=
 (sSeq (sIf (tO2 cIs (.ex (eO2 fIx (.vr 1) (.vr 3))) (.ex (eC .none)))
 (sRet (eC .none))
 sNx)
 (sSet 2 (eO2 fAdd (.vr 2) (.ex (eO2 fIx (.vr 1) (.vr 3))))))
/-- _law_size -/
def M27 (C : Orc) : MS :=
 (sSeq (sIf (tO2 cIs (.ex (eO2 fIx (.vr 0) (.ex (eC (.int 2))))) (.ex (eC .none)))
 (sRet (eC .none))
 sNx)
 (sSeq (sSet 2 (eC (.int 1)))
 (sSeq (sFor (iAny (eO2 fIx (.vr 0) (.ex (eC (.int 1))))) (tgN 3)
 (M27b0 C))
 (sRet (eV 2)))))
def F27 (C : Orc) : List W → CRes := runF 2 4 [[], [1]] (M27 C)
def M28b0 (C : Orc) : MS :=
 (sSeq (sSet 5 (eCall C 27 [.vl (eV 4), .rf 1]))
 (sIf (tAnd' (tO2 cIsNot (.vr 5) (.ex (eC .none))) (tOr' (tO2 cIs (.ex (eO2 fIx (.vr 1) (.ex (eO2 fIx (.vr 4) (.ex (eC (.int 0))))))) (.ex (eC .none))) (tO2 cLt (.vr 5) (.ex (eO2 fIx (.vr 1) (.ex (eO2 fIx (.vr 4) (.ex (eC (.int 0))))))))))
 (sSeq (sPut 1 (eO2 fIx (.vr 4) (.ex (eC (.int 0)))) (eV 5))
 (sSet 3 (eC (.bool true))))
 sNx))
def M28b1 (C : Orc) : MS :=
 (sSeq (sSet 3 (eC (.bool false)))
 (sSeq (sFor (iAny (eO2 fIx (.vr 0) (.ex (eC (.int 2))))) (tgN 4)
 (M28b0 C))
 (sIf (tNot' (tTru (.vr 3)))
 sBk
 sNx)))
/-- _law_sizes -/
def M28 (C : Orc) : MS :=
 (sSeq (sSet 1 (eLc (iR1 (eO2 fIx (.vr 0) (.ex (eC (.int 0))))) (tgN 6) mYes (eC .none) [6]))
 (sSeq (sFor (iR1 (eO2 fAddI (.ex (eO2 fIx (.vr 0) (.ex (eC (.int 0))))) (.ex (eC (.int 1))))) (tgN 2)
 (M28b1 C))
 (sRet (eV 1))))
def F28 (C : Orc) : List W → CRes := runF 1 7 [[]] (M28 C)
def M30b0 (C : Orc) : MS :=
 (sSeq (sSet 12 (eCall C 27 [.vl (eO2 fIx (.ex (eO2 fIx (.vr 1) (.ex (eC (.int 2))))) (.vr 11)), .vl (eV 2)]))
 (sIf (tAnd' (tO2 cEq (.ex (eO2 fIx (.ex (eO2 fIx (.ex (eO2 fIx (.vr 1) (.ex (eC (.int 2))))) (.vr 11))) (.ex (eC (.int 0))))) (.vr 9)) (tO2 cIsNot (.vr 12) (.ex (eC .none))))
 (sIf (tOr' (tO2 cEq (.vr 12) (.ex (eO2 fIx (.vr 2) (.vr 9)))) (tO2 cLe (.ex (eO2 fAddI (.ex (eO2 fAddI (.ex (eB bLen [(.vr 7)])) (.vr 6))) (.vr 12))) (.vr 4)))
 (sE (eMu mApp 10 [(eV 11)]))
 sNx)
 sNx))
def M30b1 (C : Orc) : MS :=
 (sE (eMu mApp 5 [(eV 13)]))
def M30b2 (C : Orc) : MS :=
 (sSeq (sIf (tNot' (tTru (.vr 5)))
 sBk
 sNx)
 (sSeq (sSet 9 (eMu mPop 5 []))
 (sSeq (sSet 6 (eO2 fSub (.vr 6) (.ex (eO2 fIx (.vr 2) (.vr 9)))))
 (sSeq (sSet 10 (eLst []))
 (sSeq (sFor (iR1 (eB bLen [(.ex (eO2 fIx (.vr 1) (.ex (eC (.int 2)))))])) (tgN 11)
 (M30b0 C))
 (sSeq (sSet 11 (eO2 fIx (.vr 10) (.ex (eCall C 5 [.rf 0, .vl (eB bLen [(.vr 10)])]))))
 (sSeq (sE (eMu mApp 7 [(eV 11)]))
 (sSeq (sSet 6 (eO2 fSub (.ex (eO2 fAdd (.vr 6) (.ex (eCall C 27 [.vl (eO2 fIx (.ex (eO2 fIx (.vr 1) (.ex (eC (.int 2))))) (.vr 11)), .vl (eV 2)])))) (.ex (eC (.int 1)))))
 (sFor (iRvA (eO2 fIx (.ex (eO2 fIx (.ex (eO2 fIx (.vr 1) (.ex (eC (.int 2))))) (.vr 11))) (.ex (eC (.int 1))))) (tgN 13)
 (M30b1 C))))))))))
/-- _law_tree -/
def M30 (C : Orc) : MS :=
 (sSeq (sSet 5 (eLst [(eV 3)]))
 (sSeq (sSet 6 (eO2 fIx (.vr 2) (.vr 3)))
 (sSeq (sSet 7 (eLst []))
 (sSeq (sFor (iR1 (eB bMax [(.vr 4), (.ex (eO2 fIx (.vr 2) (.vr 3)))])) (tgN 8)
 (M30b2 C))
 (sRet (eB bTuple [(.vr 7)]))))))
def F30 (C : Orc) : List W → CRes := runF 5 14 [[0]] (M30 C)
/-- _law_filled -/
def M31 (C : Orc) : MS :=
 (sSeq (sSet 1 (eCall C 28 [.vl (eV 0)]))
 (sRet (eLc (iR1 (eO2 fIx (.vr 0) (.ex (eC (.int 0))))) (tgN 2) (tO2 cIsNot (.ex (eO2 fIx (.vr 1) (.vr 2))) (.ex (eC .none))) (eV 2) [2])))
def F31 (C : Orc) : List W → CRes := runF 1 3 [[]] (M31 C)
/-- _law_some_tree -/
def M32 (C : Orc) : MS :=
 (sSeq (sSet 3 (eCall C 28 [.vl (eV 1)]))
 (sSeq (sSet 4 (eLc (iR1 (eO2 fIx (.vr 1) (.ex (eC (.int 0))))) (tgN 5) (tAnd' (tO2 cIsNot (.ex (eO2 fIx (.vr 3) (.vr 5))) (.ex (eC .none))) (tO2 cLe (.ex (eO2 fIx (.vr 3) (.vr 5))) (.ex (eC (.int 100))))) (eV 5) [5]))
 (sSeq (sIf (tNot' (tTru (.vr 4)))
 (sRet (eTup [(eC (.int 0)), (eTup [])]))
 sNx)
 (sSeq (sSet 5 (eO2 fIx (.vr 4) (.ex (eCall C 5 [.rf 0, .vl (eB bLen [(.vr 4)])]))))
 (sRet (eTup [(eV 5), (eCall C 30 [.rf 0, .vl (eV 1), .vl (eV 3), .vl (eV 5), .vl (eV 2)])]))))))
def F32 (C : Orc) : List W → CRes := runF 3 6 [[0]] (M32 C)
/-! ### loops that may be broken off -/
theorem forT_bk {α : Type} {dat : α → D} {tg : Tg} {b : MS} {xs : List α} (Inv : List α → Env → Prop) (B : Env → Prop) (R : W → Env → Prop) {e : Env} (h0 : Inv [] e)
    (step : ∀ pre x post e, xs = pre ++ x :: post → Inv pre e → ∃ e0, tg (dat x) e = some e0 ∧ Wp (b e0) fun o e1 => ((o = .nx ∨ o = .ct) ∧ Inv (pre ++ [x]) e1) ∨ (o = .bk ∧ B e1) ∨ ∃ w, o = .rt w ∧ R w e1) :
    (∃ e', forL tg b (xs.map dat) e = .ok .nx e' ∧ (Inv xs e' ∨ B e')) ∨ ∃ w e', forL tg b (xs.map dat) e = .ok (.rt w) e' ∧ R w e' := by
  have main : ∀ (post pre : List α) (e : Env), xs = pre ++ post → Inv pre e → (∃ e', forL tg b (post.map dat) e = .ok .nx e' ∧ (Inv xs e' ∨ B e')) ∨ ∃ w e', forL tg b (post.map dat) e = .ok (.rt w) e' ∧ R w e' := by
    intro post
    induction post with
    | nil => intro pre e h i; rw [List.append_nil] at h; subst h; exact .inl ⟨e, rfl, .inl i⟩
    | cons x post ih =>
      intro pre e h i
      obtain ⟨e0, h1, o, e1, h2, ho⟩ := step pre x post e h i
      rw [List.map_cons, ev_forC, h1]
      show (∃ e', kFor1 tg b (post.map dat) (b e0) = _ ∧ _) ∨ ∃ w e', kFor1 tg b (post.map dat) (b e0) = _ ∧ _
      rw [h2]
      rcases ho with ⟨ho, i1⟩ | ⟨rfl, q⟩ | ⟨w, rfl, r⟩
      · have := ih (pre ++ [x]) e1 (by rw [h]; simp) i1
        rcases ho with rfl | rfl
        · exact this
        · exact this
      · exact .inl ⟨e1, rfl, .inr q⟩
      · exact .inr ⟨w, e1, rfl, r⟩
  exact main xs [] e rfl h0
theorem forN_bk {tg : Tg} {b : MS} {n : Nat} (Inv : Nat → Env → Prop) (B : Env → Prop) {e : Env} (h0 : Inv 0 e)
    (step : ∀ i e, i < n → Inv i e → ∃ e0, tg (.int (i : Int)) e = some e0 ∧ Wp (b e0) fun o e1 => ((o = .nx ∨ o = .ct) ∧ Inv (i + 1) e1) ∨ (o = .bk ∧ B e1)) :
    ∃ e', forL tg b (rng 0 n) e = .ok .nx e' ∧ (Inv n e' ∨ B e') := by
  have := forT_bk (dat := fun i : Nat => PyData.int (i : Int)) (tg := tg) (b := b) (xs := List.range n) (fun pre e => Inv pre.length e) B (fun _ _ => False) (e := e) h0 fun pre x post e he hi => by
    have hl : pre.length < n := by
      have := congrArg List.length he
      rw [List.length_range, List.length_append, List.length_cons] at this
      omega
    have hx : x = pre.length := by
      have h1 : (List.range n)[pre.length]? = some pre.length := List.getElem?_range hl
      rw [he, List.getElem?_append_right (Nat.le_refl _)] at h1
      simpa using h1
    subst hx
    obtain ⟨e0, h1, h2⟩ := step pre.length e hl hi
    refine ⟨e0, h1, h2.mono fun o e1 q => ?_⟩
    rw [List.length_append]
    rcases q with q | q
    · exact .inl q
    · exact .inr (.inl q)
  rw [rng_nat]
  rw [List.length_range] at this
  rcases this with h | ⟨_, _, _, h⟩
  · exact h
  · exact h.elim
/-! ### sizes -/
def Var.one (v : Var) : Var := ⟨v.plug, v.slots, v.price.map fun _ => 1⟩
def Fam.one (f : Fam) : Fam := ⟨f.count, f.roots, f.vars.map Var.one⟩
def Var.size (v : Var) (ts : Row) : Option Int := v.one.cost ts
def Fam.sz (f : Fam) : Row := f.one.lp
theorem size_none {v : Var} {ts : Row} (h : v.price = none) : v.size ts = none := by
  unfold Var.size Var.cost Var.one
  rw [h]; exact cst_none _ _
theorem size_some {v : Var} {ts : Row} {p : Int} (h : v.price = some p) : v.size ts = cst ts (some 1) v.slots := by
  unfold Var.size Var.cost Var.one
  rw [h]; rfl
theorem size_ok (C : Orc) (v : Var) (ts : Row) (k : Bool) (hs : ∀ s ∈ v.slots, s < ts.length) : F27 C [.d v.dat, .d (tabD k ts)] = .ok (.d (priceD (v.size ts))) [] := by
  have run : WpC (F27 C [.d v.dat, .d (tabD k ts)]) fun w o => w = .d (priceD (v.size ts)) ∧ o = [] := by
    refine wpC_run (m := M27 C) rfl rfl rfl ?_
    simp only [List.map_cons, List.map_nil, List.cons_append, List.nil_append, List.replicate]
    unfold M27
    push_cast [Var.ix1, Var.ix2]
    cases hpr : v.price with
    | none =>
      push_cast [priceD_none]
      exact ⟨by rw [size_none hpr]; rfl, by trivial⟩
    | some p0 =>
    push_cast [priceD_some, Var.ix1]
    rcases forT_rt (dat := natD) (tg := tgN 3) (b := M27b0 C) (xs := v.slots)
      (fun pre e => ∃ a x3, e = [some (.d v.dat), some (.d (tabD k ts)), some (.d (.int a)), x3] ∧ ∀ post, v.slots = pre ++ post → v.size ts = cst ts (some a) post)
      (fun w e => w = .d (priceD (v.size ts)) ∧ ∃ x2 x3, e = [some (.d v.dat), some (.d (tabD k ts)), x2, x3])
      (e := [some (.d v.dat), some (.d (tabD k ts)), some (.d (.int 1)), none]) ⟨_, _, rfl, fun post h => by
        rw [size_some hpr, h]; rfl⟩ (fun pre s post e hx hI => by
        obtain ⟨p, x3, rfl, ha⟩ := hI
        refine ⟨_, rfl, ?_⟩
        have hlt : s < ts.length := hs s (by rw [hx]; simp)
        have hc := ha _ hx
        unfold M27b0
        cases hq : ts.getD s none with
        | none =>
          push_cast [priceD_none, priceD_some, natD_eq, tab_ix hlt, hq]
          exact .inr ⟨_, rfl, by rw [hc, cst_no hq]; rfl, _, _, rfl⟩
        | some q =>
          push_cast [priceD_none, priceD_some, natD_eq, tab_ix hlt, hq]
          exact .inl ⟨by simp, p + q, _, rfl, fun post' h' => by
            rw [hc, cst_some hq]
            rw [hx, List.append_assoc, List.append_cancel_left_eq] at h'
            cases h'; rfl⟩) with ⟨e', h1, a, x3, rfl, ha⟩ | ⟨w, e', h1, rfl, x2, x3, rfl⟩
    · rw [h1]
      push_cast []
      refine ⟨?_, by trivial⟩
      rw [ha [] (by simp), cst_nil]; rfl
    · rw [h1]
      push_cast []
      trivial
  obtain ⟨w, o, h, rfl, rfl⟩ := run
  exact h
theorem size_lok (C : Orc) (v : Var) (ts : Row) (hs : ∀ s ∈ v.slots, s < ts.length) : F27 C [.d v.dat, .l (ts.map priceD)] = .ok (.d (priceD (v.size ts))) [.l (ts.map priceD)] := by
  have run : WpC (F27 C [.d v.dat, .l (ts.map priceD)]) fun w o => w = .d (priceD (v.size ts)) ∧ o = [.l (ts.map priceD)] := by
    refine wpC_run (m := M27 C) rfl rfl rfl ?_
    simp only [List.map_cons, List.map_nil, List.cons_append, List.nil_append, List.replicate]
    unfold M27
    push_cast [Var.ix1, Var.ix2]
    cases hpr : v.price with
    | none =>
      push_cast [priceD_none]
      exact ⟨by rw [size_none hpr]; rfl, by trivial⟩
    | some p0 =>
    push_cast [priceD_some, Var.ix1]
    rcases forT_rt (dat := natD) (tg := tgN 3) (b := M27b0 C) (xs := v.slots)
      (fun pre e => ∃ a x3, e = [some (.d v.dat), some (.l (ts.map priceD)), some (.d (.int a)), x3] ∧ ∀ post, v.slots = pre ++ post → v.size ts = cst ts (some a) post)
      (fun w e => w = .d (priceD (v.size ts)) ∧ ∃ x2 x3, e = [some (.d v.dat), some (.l (ts.map priceD)), x2, x3])
      (e := [some (.d v.dat), some (.l (ts.map priceD)), some (.d (.int 1)), none]) ⟨_, _, rfl, fun post h => by
        rw [size_some hpr, h]; rfl⟩ (fun pre s post e hx hI => by
        obtain ⟨p, x3, rfl, ha⟩ := hI
        refine ⟨_, rfl, ?_⟩
        have hlt : s < ts.length := hs s (by rw [hx]; simp)
        have hc := ha _ hx
        unfold M27b0
        cases hq : ts.getD s none with
        | none =>
          push_cast [priceD_none, priceD_some, natD_eq, row_at hlt, hq, Option.map_some]
          exact .inr ⟨_, rfl, by rw [hc, cst_no hq]; rfl, _, _, rfl⟩
        | some q =>
          push_cast [priceD_none, priceD_some, natD_eq, row_at hlt, hq, Option.map_some]
          exact .inl ⟨by simp, p + q, _, rfl, fun post' h' => by
            rw [hc, cst_some hq]
            rw [hx, List.append_assoc, List.append_cancel_left_eq] at h'
            cases h'; rfl⟩) with ⟨e', h1, a, x3, rfl, ha⟩ | ⟨w, e', h1, rfl, x2, x3, rfl⟩
    · rw [h1]
      push_cast []
      refine ⟨?_, by trivial⟩
      rw [ha [] (by simp), cst_nil]; rfl
    · rw [h1]
      push_cast []
      trivial
  obtain ⟨w, o, h, rfl, rfl⟩ := run
  exact h
def SizeS (C : Orc) : Prop := ∀ (v : Var) (ts : Row) (k : Bool), (∀ s ∈ v.slots, s < ts.length) → C 27 [.d v.dat, .d (tabD k ts)] = .ok (.d (priceD (v.size ts))) []
def SizeL (C : Orc) : Prop := ∀ (v : Var) (ts : Row), (∀ s ∈ v.slots, s < ts.length) → C 27 [.d v.dat, .l (ts.map priceD)] = .ok (.d (priceD (v.size ts))) [.l (ts.map priceD)]
theorem one_plain {f : Fam} (hf : f.In f.count) : f.one.Plain := by
  refine ⟨fun v hv => ?_, fun v hv => ?_, fun v hv p hp => ?_⟩
  all_goals obtain ⟨u, hu, rfl⟩ := List.mem_map.mp hv
  · exact hf.plug u hu
  · exact hf.slots u hu
  · obtain ⟨q, _, rfl⟩ := Option.map_eq_some_iff.mp hp
    decide
theorem sz_len {f : Fam} (hf : f.In f.count) : f.sz.length = f.count := lp_len (one_plain hf)
theorem sz_flo {f : Fam} (hf : f.In f.count) {v : Var} (hv : v ∈ f.vars) : ole (f.sz.getD v.plug none) (v.size f.sz) := lp_flo (one_plain hf) v.one (List.mem_map.mpr ⟨v, hv, rfl⟩)
theorem sz_met {f : Fam} (hf : f.In f.count) {s : Nat} {l : Int} (h : f.sz.getD s none = some l) : ∃ v ∈ f.vars, v.plug = s ∧ v.size f.sz = some l := by
  obtain ⟨u, hu, hp, hc⟩ := lp_met (one_plain hf) h
  obtain ⟨v, hv, rfl⟩ := List.mem_map.mp hu
  exact ⟨v, hv, hp, hc⟩
/-- one variant: .. and whether it changed anything -/
theorem sizes_b0 (C : Orc) (h27 : SizeL C) (f : Fam) (hf : f.In f.count) (v : Var) (hv : v ∈ f.vars) (ts : Row) (hl : ts.length = f.count) (b : Bool) (x2 x5 : Option W) :
    Wp (M28b0 C [some (.d f.dat), some (.l (ts.map priceD)), x2, some (.d (.bool b)), some (.d v.dat), x5, none]) fun o e => o = .nx ∧
      ∃ (b' : Bool) (x5' : Option W), e = [some (.d f.dat), some (.l ((stepE ts v.one).map priceD)), x2, some (.d (.bool b')), some (.d v.dat), x5', none] ∧ (b' = false → b = false ∧ stepE ts v.one = ts) := by
  have hp : v.plug < ts.length := by rw [hl]; exact hf.plug v hv
  unfold M28b0
  push_cast [h27 v ts (by rw [hl]; exact hf.slots v hv)]
  unfold stepE
  rw [show v.one.cost ts = v.size ts from rfl, show v.one.plug = v.plug from rfl]
  cases hc : v.size ts with
  | none =>
    push_cast [priceD_none]
    exact ⟨by trivial, b, _, rfl, fun h => ⟨h, by trivial⟩⟩
  | some c =>
    cases hq : ts.getD v.plug none with
    | none =>
      push_cast [priceD_none, priceD_some, Var.ix0, row_at hp, hq, Option.map_some]
      refine ⟨by trivial, true, some (.d (priceD (some c))), ?_, fun h => by cases h⟩
      rw [← set_map]
      rfl
    | some w =>
      push_cast [priceD_none, priceD_some, Var.ix0, row_at hp, hq, Option.map_some]
      by_cases hn : c < w
      · rw [decide_eq_true hn]
        push_cast [Var.ix0]
        refine ⟨by trivial, true, some (.d (priceD (some c))), ?_, fun h => by cases h⟩
        simp only [if_pos hn]
        rw [← set_map]
        rfl
      · rw [decide_eq_false hn]
        push_cast []
        refine ⟨by trivial, b, some (.d (priceD (some c))), ?_, fun h => ⟨h, ?_⟩⟩
        · simp only [if_neg hn]; rfl
        · simp only [if_neg hn]
theorem SE_end' {f : Fam} (hpl : f.Plain) : turnE f (SE f f.count) = SE f f.count := by
  have e : SE f f.count = f.lp := SE_end hpl
  rw [e]
  have g : ∀ (vs : List Var), (∀ v ∈ vs, v ∈ f.vars) → vs.foldl stepE f.lp = f.lp := fun vs => by
    induction vs with
    | nil => intro _; rfl
    | cons v vs ih =>
      intro h
      rw [List.foldl_cons, stepE_floor (lp_flo hpl) (h v List.mem_cons_self) (by rw [lp_len hpl]; exact hpl.plug v (h v List.mem_cons_self))]
      exact ih fun u hu => h u (List.mem_cons_of_mem _ hu)
  exact g _ fun v hv => hv
theorem SE_done' {f : Fam} (hpl : f.Plain) {k : Nat} (hk : k < f.count + 1) (h : turnE f (SE f k) = SE f k) : SE f k = f.lp := SE_done hpl (by omega) h
theorem SE_last {f : Fam} (hpl : f.Plain) : SE f (f.count + 1) = f.lp := (SE_stay hpl (SE_end' hpl) (f.count + 1) (by omega)).trans (SE_end hpl)
theorem sizes_ok (C : Orc) (h27 : SizeL C) (f : Fam) (hf : f.In f.count) (hc : f.count ≤ 1000) : F28 C [.d f.dat] = .ok (.d (tabD true f.sz)) [] := by
  have hpl := one_plain hf
  have run : WpC (F28 C [.d f.dat]) fun w o => w = .d (tabD true f.sz) ∧ o = [] := by
    refine wpC_run (m := M28 C) rfl rfl rfl ?_
    simp only [List.map_cons, List.map_nil, List.cons_append, List.nil_append, List.replicate]
    unfold M28
    push_cast [Fam.ix0]
    rw [cmpN_map (f := fun _ => priceD none) (fun j hj => ⟨_, rfl, by push_cast []; exact ⟨by trivial, by trivial⟩⟩)]
    rw [show (List.range f.count).map (fun _ => priceD none) = (List.replicate f.count (none : Option Int)).map priceD by simp [List.map_const']]
    push_cast [Fam.ix0]
    rw [show ((f.count : Int) + 1).toNat = f.count + 1 by omega]
    obtain ⟨e', h1, hI⟩ := forN_bk (tg := tgN 2) (b := M28b1 C) (n := f.count + 1)
      (fun j e => ∃ (x2 x3 x4 x5 : Option W), e = [some (.d f.dat), some (.l ((SE f.one j).map priceD)), x2, x3, x4, x5, none])
      (fun e => ∃ (x2 x3 x4 x5 : Option W), e = [some (.d f.dat), some (.l (f.sz.map priceD)), x2, x3, x4, x5, none])
      (e := [some (.d f.dat), some (.l ((List.replicate f.count (none : Option Int)).map priceD)), none, none, none, none, none])
      ⟨_, _, _, _, rfl⟩ (fun j e hj hI => by
        obtain ⟨x2, x3, x4, x5, rfl⟩ := hI
        refine ⟨_, rfl, ?_⟩
        unfold M28b1
        push_cast [Fam.ix2]
        obtain ⟨e', h1, b', x4', x5', rfl, hb'⟩ := forT_inv (dat := Var.dat) (tg := tgN 4) (b := M28b0 C) (xs := f.vars)
          (fun pre e => ∃ (b : Bool) (x4 x5 : Option W), e = [some (.d f.dat), some (.l (((pre.map Var.one).foldl stepE (SE f.one j)).map priceD)), some (.d (.int (j : Int))), some (.d (.bool b)), x4, x5, none] ∧ (b = false → (pre.map Var.one).foldl stepE (SE f.one j) = SE f.one j))
          (e := [some (.d f.dat), some (.l ((SE f.one j).map priceD)), some (.d (.int (j : Int))), some (.d (.bool false)), x4, x5, none])
          ⟨_, _, _, rfl, fun _ => rfl⟩ (fun pre v post e hx hI => by
            obtain ⟨b, x4, x5, rfl, hb⟩ := hI
            refine ⟨_, rfl, (sizes_b0 C h27 f hf v (by rw [hx]; simp) _ (by rw [fold_len]; exact SE_len hpl j) b _ x5).mono fun o e q => ?_⟩
            obtain ⟨rfl, b', x5', rfl, hb'⟩ := q
            refine ⟨.inl rfl, b', some (.d v.dat), x5', ?_, fun h => ?_⟩
            · rw [List.map_append, List.foldl_append]; rfl
            · obtain ⟨h1, h2⟩ := hb' h
              rw [List.map_append, List.foldl_append]
              show stepE _ v.one = _
              rw [h2, hb h1])
        rw [h1]
        have ht : (f.vars.map Var.one).foldl stepE (SE f.one j) = turnE f.one (SE f.one j) := rfl
        rw [ht] at hb' ⊢
        cases b' with
        | true =>
          push_cast []
          exact .inl ⟨by simp, _, _, _, _, rfl⟩
        | false =>
          push_cast []
          have hsz : SE f.one j = f.sz := SE_done' hpl hj (hb' rfl)
          rw [hb' rfl, hsz]
          exact .inr ⟨by trivial, _, _, _, _, rfl⟩)
    rw [h1]
    have fin : ∃ (x2 x3 x4 x5 : Option W), e' = [some (.d f.dat), some (.l (f.sz.map priceD)), x2, x3, x4, x5, none] := by
      rcases hI with ⟨x2, x3, x4, x5, rfl⟩ | h
      · refine ⟨x2, x3, x4, x5, ?_⟩
        have : SE f.one (f.count + 1) = f.sz := SE_last hpl
        rw [this]
      · exact h
    obtain ⟨x2, x3, x4, x5, rfl⟩ := fin
    push_cast []
    exact ⟨rfl, by trivial⟩
  obtain ⟨w, o, h, rfl, rfl⟩ := run
  exact h
/-! ### drawn trees -/
theorem cst_ge {ts : Row} (h : ∀ s q, ts.getD s none = some q → (0 : Int) ≤ q) : ∀ (sl : List Nat) (p c : Int), cst ts (some p) sl = some c → p ≤ c
  | [], p, c, g => by
    simp only [cst, Option.some.injEq] at g
    omega
  | s :: sl, p, c, g => by
    cases hq : ts.getD s none with
    | none => rw [cst_no hq] at g; cases g
    | some q =>
      rw [cst_some hq] at g
      have := cst_ge h sl _ _ g
      have := h s q hq
      omega
def valS (ts : Row) (s : Nat) : Int := (ts.getD s none).getD 0
def sumS (ts : Row) : List Nat → Int
  | [] => 0
  | s :: sl => valS ts s + sumS ts sl
theorem sumS_app (ts : Row) : ∀ (a b : List Nat), sumS ts (a ++ b) = sumS ts a + sumS ts b
  | [], b => by simp [sumS]
  | s :: a, b => by
    rw [List.cons_append]
    simp only [sumS]
    rw [sumS_app ts a b]
    omega
theorem valS_some {ts : Row} {s : Nat} {q : Int} (h : ts.getD s none = some q) : valS ts s = q := by unfold valS; rw [h]; rfl
theorem cst_sum {ts : Row} : ∀ (sl : List Nat) (p c : Int), cst ts (some p) sl = some c → c = p + sumS ts sl ∧ ∀ s ∈ sl, ∃ q, ts.getD s none = some q
  | [], p, c, g => by
    simp only [cst, Option.some.injEq] at g
    exact ⟨by simp only [sumS]; omega, fun s hs => by cases hs⟩
  | s :: sl, p, c, g => by
    cases hq : ts.getD s none with
    | none => rw [cst_no hq] at g; cases g
    | some q =>
      rw [cst_some hq] at g
      obtain ⟨h1, h2⟩ := cst_sum sl _ _ g
      refine ⟨?_, fun x hx => ?_⟩
      · simp only [sumS]
        rw [valS_some hq]
        omega
      · rcases List.mem_cons.mp hx with rfl | hx
        · exact ⟨q, hq⟩
        · exact h2 x hx
theorem size_inv {v : Var} {ts : Row} {c : Int} (h : v.size ts = some c) : (∃ p, v.price = some p) ∧ c = 1 + sumS ts v.slots ∧ ∀ s ∈ v.slots, ∃ q, ts.getD s none = some q := by
  cases hp : v.price with
  | none => rw [size_none hp] at h; cases h
  | some p =>
    rw [size_some hp] at h
    obtain ⟨h1, h2⟩ := cst_sum _ _ _ h
    exact ⟨⟨p, rfl⟩, h1, h2⟩
section
variable {f : Fam} (hf : f.In f.count)
include hf
theorem sz_nn : ∀ s q, f.sz.getD s none = some q → (0 : Int) ≤ q := fun s q h => by
  unfold Fam.sz Fam.lp at h
  rw [prs_get] at h
  obtain ⟨z, hz, rfl⟩ := Option.map_eq_some_iff.mp h
  exact (it_pos (one_plain hf) _ s z hz).1
theorem sz_pos : ∀ s q, f.sz.getD s none = some q → (1 : Int) ≤ q := fun s q h => by
  obtain ⟨v, _, _, hv⟩ := sz_met hf h
  obtain ⟨p, hp⟩ := (size_inv hv).1
  rw [size_some hp] at hv
  exact cst_ge (sz_nn hf) _ _ _ hv
theorem sumS_nn : ∀ (sl : List Nat), 0 ≤ sumS f.sz sl
  | [] => Int.le_refl 0
  | s :: sl => by
    have := sumS_nn sl
    have : 0 ≤ valS f.sz s := by
      unfold valS
      cases h : f.sz.getD s none with
      | none => exact Int.le_refl 0
      | some q => exact sz_nn hf s q h
    simp only [sumS]
    omega
/-- if there is a tree at all, there is a part alone -/
theorem sz_one (h : ∀ s q, f.sz.getD s none = some q → 100 < q) : ∀ s, f.sz.getD s none = none := fun s => by
  cases hs : f.sz.getD s none with
  | none => rfl
  | some q =>
    exfalso
    have key : ∀ (n : Nat) (s : Nat) (q : Int), f.sz.getD s none = some q → q.toNat ≤ n → False := fun n => by
      induction n with
      | zero =>
        intro s q hs hn
        have := sz_pos hf s q hs
        omega
      | succ n ih =>
        intro s q hs hn
        obtain ⟨v, _, _, hv⟩ := sz_met hf hs
        obtain ⟨_, h2, h3⟩ := size_inv hv
        have hbig := h s q hs
        cases hsl : v.slots with
        | nil => rw [hsl] at h2; simp only [sumS] at h2; omega
        | cons t tl =>
          rw [hsl] at h2 h3
          obtain ⟨r, hr⟩ := h3 t List.mem_cons_self
          simp only [sumS] at h2
          rw [valS_some hr] at h2
          have := sumS_nn hf tl
          have := sz_pos hf t r hr
          exact ih t r hr (by omega)
    exact key q.toNat s q hs (Nat.le_refl _)
end
/-- the numbers of a row of trees in preorder at the states of a stack -/
inductive Fills (f : Fam) : List Nat → List Nat → Prop
  | nil : Fills f [] []
  | cons {g : Nat} {st : List Nat} {n : Nat} {tr : List Nat} {v : Var} : f.vars[n]? = some v → v.price ≠ none → v.plug = g → Fills f (v.slots ++ st) tr → Fills f (g :: st) (n :: tr)
theorem Fills.ok {f : Fam} {st tr : List Nat} (h : Fills f st tr) : ∀ n ∈ tr, ∃ v p, f.vars[n]? = some v ∧ v.price = some p := by
  induction h with
  | nil => intro n hn; cases hn
  | cons h1 h2 _ _ ih =>
    intro n hn
    rcases List.mem_cons.mp hn with rfl | hn
    · obtain ⟨p, hp⟩ := Option.ne_none_iff_exists'.mp h2
      exact ⟨_, p, h1, hp⟩
    · exact ih n hn
/-- a fitting variant -/
def fitP (f : Fam) (len : Nat) (need room : Int) (g n : Nat) : Bool := match f.vars[n]? with
  | none => false
  | some v => decide (v.plug = g) && match v.size f.sz with
    | none => false
    | some c => decide (c = valS f.sz g) || decide ((len : Int) + need + c ≤ room)
theorem tree_b0 (C : Orc) (h27 : SizeS C) (f : Fam) (hf : f.In f.count) (tr fit : List Nat) (need room : Int) (g n : Nat) (v : Var) (hv : f.vars[n]? = some v) (m : Int) (hg : f.sz.getD g none = some m) (hfit : fit.length ≤ 100000) (x0 x3 x5 x8 x12 x13 : Option W) :
    Wp (M30b0 C [x0, some (.d f.dat), some (.d (tabD true f.sz)), x3, some (.d (.int room)), x5, some (.d (.int need)), some (.l (tr.map natD)), x8, some (.d (natD g)), some (.l (fit.map natD)), some (.d (.int (n : Int))), x12, x13]) fun o e => o = .nx ∧
      ∃ x12, e = [x0, some (.d f.dat), some (.d (tabD true f.sz)), x3, some (.d (.int room)), x5, some (.d (.int need)), some (.l (tr.map natD)), x8, some (.d (natD g)), some (.l ((if fitP f tr.length need room g n = true then fit ++ [n] else fit).map natD)), some (.d (.int (n : Int))), x12, x13] := by
  have hm : v ∈ f.vars := List.mem_of_getElem? hv
  have hgl : g < f.sz.length := by
    rw [List.getD_eq_getElem?_getD] at hg
    cases hq : f.sz[g]? with
    | none => rw [hq] at hg; cases hg
    | some z => exact (List.getElem?_eq_some_iff.mp hq).1
  unfold M30b0
  push_cast [Fam.ix2, atI_mn, hv, Option.map_some, h27 v f.sz true (fun s hs => by rw [sz_len hf]; exact hf.slots v hm s hs), Var.ix0, natD_eq]
  by_cases hpg : v.plug = g
  · have e1 : ((v.plug : Int) == (g : Int)) = true := by rw [hpg]; exact beq_self_eq_true _
    rw [e1]
    push_cast []
    cases hc : v.size f.sz with
    | none =>
      push_cast [priceD_none]
      refine ⟨by trivial, some (.d .none), ?_⟩
      rw [if_neg (by simp [fitP, hv, hc])]
    | some c =>
      push_cast [priceD_some, tab_ix hgl, hg]
      by_cases hcm : c = m
      · have e2 : (c == m) = true := by rw [hcm]; exact beq_self_eq_true _
        rw [e2]
        push_cast []
        refine ⟨by trivial, some (.d (.int c)), ?_⟩
        rw [if_pos (by simp [fitP, hv, hc, hpg, valS_some hg, hcm]), List.map_append]; rfl
      · have e2 : (c == m) = false := by simpa using hcm
        rw [e2]
        push_cast []
        by_cases hr : (tr.length : Int) + need + c ≤ room
        · rw [decide_eq_true hr]
          push_cast []
          refine ⟨by trivial, some (.d (.int c)), ?_⟩
          rw [if_pos (by simp [fitP, hv, hc, hpg, hr]), List.map_append]; rfl
        · rw [decide_eq_false hr]
          push_cast []
          refine ⟨by trivial, some (.d (.int c)), ?_⟩
          rw [if_neg (by simp [fitP, hv, hc, hpg, hr, valS_some hg, hcm])]
  · have e1 : ((v.plug : Int) == (g : Int)) = false := by
      rw [beq_eq_false_iff_ne]
      omega
    rw [e1]
    push_cast []
    refine ⟨by trivial, some (.d (priceD (v.size f.sz))), ?_⟩
    rw [if_neg (by simp [fitP, hv, hpg])]
structure TreeSt (f : Fam) (s : Nat) (R : Int) (st tr : List Nat) (need : Int) : Prop where
  sizes : ∀ x ∈ st, ∃ m, f.sz.getD x none = some m
  needE : need = sumS f.sz st
  bound : (tr.length : Int) + need ≤ R
  fills : ∀ rest, Fills f st rest → Fills f [s] (tr ++ rest)
theorem sumS_ge {f : Fam} (hf : f.In f.count) : ∀ (st : List Nat), (∀ x ∈ st, ∃ m, f.sz.getD x none = some m) → (st.length : Int) ≤ sumS f.sz st
  | [], _ => Int.le_refl 0
  | s :: st, h => by
    obtain ⟨m, hm⟩ := h s List.mem_cons_self
    have := sz_pos hf s m hm
    have := sumS_ge hf st fun x hx => h x (List.mem_cons_of_mem _ hx)
    simp only [sumS, List.length_cons]
    rw [valS_some hm]
    omega
theorem nat_rev (st : List Nat) (g : Nat) : (g :: st).reverse.map natD = st.reverse.map natD ++ [natD g] := by
  rw [List.reverse_cons, List.map_append]; rfl
theorem app_ne {xs : List D} {x : D} : (xs ++ [x]).isEmpty = false := by cases xs <;> rfl
theorem gMu_pop {i : Nat} {xs : List D} {x : D} {e : Env} : gMu mPop i [] e (some (.l (xs ++ [x]))) = .ok (.d x) (e.set i (some (.l xs))) := gMu_s mPop_s
theorem fitP_inv {f : Fam} {len : Nat} {need room : Int} {g n : Nat} (h : fitP f len need room g n = true) : ∃ v c, f.vars[n]? = some v ∧ v.plug = g ∧ v.size f.sz = some c ∧ (c = valS f.sz g ∨ (len : Int) + need + c ≤ room) := by
  unfold fitP at h
  cases hv : f.vars[n]? with
  | none => rw [hv] at h; cases h
  | some v =>
    rw [hv] at h
    simp only [Bool.and_eq_true, decide_eq_true_eq] at h
    obtain ⟨h1, h2⟩ := h
    cases hc : v.size f.sz with
    | none => rw [hc] at h2; cases h2
    | some c =>
      rw [hc] at h2
      simp only [Bool.or_eq_true, decide_eq_true_eq] at h2
      exact ⟨v, c, rfl, h1, hc, h2⟩
theorem filter_succ (p : Nat → Bool) (j : Nat) : (List.range (j + 1)).filter p = if p j = true then (List.range j).filter p ++ [j] else (List.range j).filter p := by
  rw [List.range_succ, List.filter_append]
  by_cases h : p j = true
  · rw [if_pos h]; simp [h]
  · rw [if_neg h]; simp [h]
/-- a turn that has something to do -/
theorem tree_b2 (C : Orc) (hD : DrawS C) (h27 : SizeS C) (f : Fam) (hf : f.In f.count) (hn : f.vars.length ≤ 1000) (s : Nat) (room R : Int) (hroom : room ≤ R) (hR : R ≤ 100000) {t : List D} (ht : TapeOk t) (g : Nat) (st tr : List Nat) (need : Int) (T : TreeSt f s R (g :: st) tr need) (x3 x8 x9 x10 x11 x12 x13 : Option W) :
    Wp (M30b2 C [some (.l t), some (.d f.dat), some (.d (tabD true f.sz)), x3, some (.d (.int room)), some (.l ((g :: st).reverse.map natD)), some (.d (.int need)), some (.l (tr.map natD)), x8, x9, x10, x11, x12, x13]) fun o e => o = .nx ∧
      ∃ (t' : List D) (st' : List Nat) (n : Nat) (need' : Int) (x9 x10 x11 x12 x13 : Option W), e = [some (.l t'), some (.d f.dat), some (.d (tabD true f.sz)), x3, some (.d (.int room)), some (.l (st'.reverse.map natD)), some (.d (.int need')), some (.l ((tr ++ [n]).map natD)), x8, x9, x10, x11, x12, x13] ∧ TapeOk t' ∧ TreeSt f s R st' (tr ++ [n]) need' := by
  obtain ⟨m, hm⟩ := T.sizes g List.mem_cons_self
  have hm1 := sz_pos hf g m hm
  have hst : ∀ x ∈ st, ∃ m, f.sz.getD x none = some m := fun x hx => T.sizes x (List.mem_cons_of_mem _ hx)
  have hneed := T.needE
  simp only [sumS] at hneed
  rw [valS_some hm] at hneed
  have hstl := sumS_ge hf st hst
  have hb := T.bound
  have hgl : g < f.sz.length := by
    rw [List.getD_eq_getElem?_getD] at hm
    cases hq : f.sz[g]? with
    | none => rw [hq] at hm; cases hm
    | some z => exact (List.getElem?_eq_some_iff.mp hq).1
  obtain ⟨v0, hv0, hp0, hc0⟩ := sz_met hf hm
  obtain ⟨n0, hn0⟩ := List.getElem?_of_mem hv0
  have hn0l : n0 < f.vars.length := (List.getElem?_eq_some_iff.mp hn0).1
  have hP0 : fitP f tr.length (need - m) room g n0 = true := by simp [fitP, hn0, hp0, hc0, valS_some hm]
  have hfitl : ∀ j, ((List.range j).filter (fitP f tr.length (need - m) room g)).length ≤ j := fun j => Nat.le_trans (List.length_filter_le _ _) (by simp)
  unfold M30b2
  rw [nat_rev]
  push_cast [natD_eq, app_ne, gMu_pop, tab_ix hgl, hm, priceD_some, Fam.ix2]
  obtain ⟨e', h1, x11', x12', rfl⟩ := forN_inv (tg := tgN 11) (b := M30b0 C) (n := f.vars.length)
    (fun j e => ∃ x11 x12, e = [some (.l t), some (.d f.dat), some (.d (tabD true f.sz)), x3, some (.d (.int room)), some (.l (st.reverse.map natD)), some (.d (.int (need - m))), some (.l (tr.map natD)), x8, some (.d (.int (g : Int))), some (.l (((List.range j).filter (fitP f tr.length (need - m) room g)).map natD)), x11, x12, x13])
    (e := [some (.l t), some (.d f.dat), some (.d (tabD true f.sz)), x3, some (.d (.int room)), some (.l (st.reverse.map natD)), some (.d (.int (need - m))), some (.l (tr.map natD)), x8, some (.d (.int (g : Int))), some (.l []), x11, x12, x13]) ⟨_, _, rfl⟩ (fun j e hj hI => by
      obtain ⟨x11, x12, rfl⟩ := hI
      have hvj : f.vars[j]? = some f.vars[j] := List.getElem?_eq_getElem hj
      refine ⟨_, rfl, (tree_b0 C h27 f hf tr _ (need - m) room g j _ hvj m hm (by have := hfitl j; omega) _ _ _ _ x12 x13).mono fun o e q => ?_⟩
      obtain ⟨rfl, x12, rfl⟩ := q
      refine ⟨.inl rfl, some (.d (.int (j : Int))), x12, ?_⟩
      rw [filter_succ]; rfl)
  rw [h1]
  have hne : n0 ∈ (List.range f.vars.length).filter (fitP f tr.length (need - m) room g) := List.mem_filter.mpr ⟨List.mem_range.mpr hn0l, hP0⟩
  generalize hfit : (List.range f.vars.length).filter (fitP f tr.length (need - m) room g) = fit at hne
  have hfl : fit.length ≤ 1000 := by have := hfitl f.vars.length; rw [hfit] at this; omega
  have hfp : 0 < fit.length := List.length_pos_of_mem hne
  obtain ⟨k, t1, h2, ht1, hk0, hk1⟩ := hD t ht fit.length (log_small (by omega))
  obtain ⟨kn, rfl⟩ : ∃ kn : Nat, k = (kn : Int) := ⟨k.toNat, by omega⟩
  have hkn : kn < fit.length := by omega
  have hmem : fit[kn] ∈ fit := List.getElem_mem hkn
  have hget : fit[kn]? = some fit[kn] := List.getElem?_eq_getElem hkn
  generalize fit[kn] = n at hmem hget
  rw [← hfit] at hmem
  obtain ⟨v, c, hv, hp, hsz, hor⟩ := fitP_inv (List.mem_filter.mp hmem).2
  have hmv : v ∈ f.vars := List.mem_of_getElem? hv
  obtain ⟨⟨pr, hpr⟩, hcs, hsl⟩ := size_inv hsz
  rw [valS_some hm] at hor
  have htl : tr.length ≤ 100000 := by omega
  push_cast [h2, atI_mn, hget, Option.map_some, natD_eq, Fam.ix2, hv, h27 v f.sz true (fun s hs => by rw [sz_len hf]; exact hf.slots v hmv s hs), hsz, priceD_some, Var.ix1, ← List.map_reverse]
  have hsll : v.slots.length ≤ 100000 := by
    have := sumS_ge hf v.slots hsl
    rcases hor with hor | hor <;> omega
  have hstl2 : st.length ≤ 100000 := by omega
  obtain ⟨e', h3, x13', rfl⟩ := forT_inv (dat := natD) (tg := tgN 13) (b := M30b1 C) (xs := v.slots.reverse)
    (fun pre e => ∃ x13, e = [some (.l t1), some (.d f.dat), some (.d (tabD true f.sz)), x3, some (.d (.int room)), some (.l ((st.reverse ++ pre).map natD)), some (.d (.int (need - m + c - 1))), some (.l (tr.map natD ++ [PyData.int (n : Int)])), x8, some (.d (.int (g : Int))), some (.l (fit.map natD)), some (.d (.int (n : Int))), x12', x13])
    (e := [some (.l t1), some (.d f.dat), some (.d (tabD true f.sz)), x3, some (.d (.int room)), some (.l (st.reverse.map natD)), some (.d (.int (need - m + c - 1))), some (.l (tr.map natD ++ [PyData.int (n : Int)])), x8, some (.d (.int (g : Int))), some (.l (fit.map natD)), some (.d (.int (n : Int))), x12', x13]) ⟨_, by rw [List.append_nil]⟩ (fun pre z post e hx hI => by
      obtain ⟨x13, rfl⟩ := hI
      refine ⟨_, rfl, ?_⟩
      have hpl := congrArg List.length hx
      rw [List.length_reverse, List.length_append, List.length_cons] at hpl
      unfold M30b1
      push_cast []
      refine ⟨by simp, some (.d (natD z)), ?_⟩
      rw [← List.append_assoc, List.map_append (l₁ := st.reverse ++ pre)]; rfl)
  rw [h3]
  push_cast []
  have hT : TreeSt f s R (v.slots ++ st) (tr ++ [n]) (need - m + c - 1) := by
    refine ⟨fun x hx => ?_, ?_, ?_, fun rest hr => ?_⟩
    · rcases List.mem_append.mp hx with hx | hx
      · exact hsl x hx
      · exact hst x hx
    · rw [sumS_app]; omega
    · rw [List.length_append]
      simp only [List.length_cons, List.length_nil]
      rcases hor with hor | hor <;> omega
    · rw [List.append_assoc]
      exact T.fills _ (.cons hv (by rw [hpr]; simp) hp hr)
  have e1 : (v.slots ++ st).reverse.map natD = (st.reverse ++ v.slots.reverse).map natD := by rw [List.reverse_append]
  have e2 : (tr ++ [n]).map natD = tr.map natD ++ [PyData.int (n : Int)] := by rw [List.map_append]; rfl
  refine ⟨by trivial, t1, v.slots ++ st, n, need - m + c - 1, ?_⟩
  rw [e1, e2]
  exact ⟨_, _, _, _, _, rfl, ht1, hT⟩
theorem tree_ok (C : Orc) (hD : DrawS C) (h27 : SizeS C) (f : Fam) (hf : f.In f.count) (hn : f.vars.length ≤ 1000) {t : List D} (ht : TapeOk t) (s : Nat) (m : Int) (hm : f.sz.getD s none = some m) (hm2 : m ≤ 100000) (room : Int) (hr : room ≤ 100000) :
    ∃ (tr : List Nat) (t' : List D), F30 C [.l t, .d f.dat, .d (tabD true f.sz), .d (.int (s : Int)), .d (.int room)] = .ok (.d (.tuple (tr.map natD))) [.l t'] ∧ TapeOk t' ∧ Fills f [s] tr ∧ (tr.length : Int) ≤ max room m := by
  have run : WpC (F30 C [.l t, .d f.dat, .d (tabD true f.sz), .d (.int (s : Int)), .d (.int room)]) fun w o => ∃ (tr : List Nat) (t' : List D), w = .d (.tuple (tr.map natD)) ∧ o = [.l t'] ∧ TapeOk t' ∧ Fills f [s] tr ∧ (tr.length : Int) ≤ max room m := by
    refine wpC_run (m := M30 C) rfl rfl rfl ?_
    simp only [List.map_cons, List.map_nil, List.cons_append, List.nil_append, List.replicate]
    have hm1 := sz_pos hf s m hm
    have hsl : s < f.sz.length := by
      rw [List.getD_eq_getElem?_getD] at hm
      cases hq : f.sz[s]? with
      | none => rw [hq] at hm; cases hm
      | some z => exact (List.getElem?_eq_some_iff.mp hq).1
    unfold M30
    have hmax : (if m > room then m else room) = max room m := by split <;> omega
    push_cast [tab_ix hsl, hm, priceD_some, show bMax [.int room, .int m] = some (.d (.int (max room m))) by rw [bMax_int, hmax]]
    have hR0 : 0 ≤ max room m := by omega
    generalize hR : max room m = R at hR0
    obtain ⟨Rn, rfl⟩ : ∃ Rn : Nat, R = (Rn : Int) := ⟨R.toNat, by omega⟩
    rw [Int.toNat_natCast]
    obtain ⟨e', h1, hI⟩ := forN_bk (tg := tgN 8) (b := M30b2 C) (n := Rn)
      (fun i e => ∃ (t : List D) (st tr : List Nat) (need : Int) (x8 x9 x10 x11 x12 x13 : Option W), e = [some (.l t), some (.d f.dat), some (.d (tabD true f.sz)), some (.d (.int (s : Int))), some (.d (.int room)), some (.l (st.reverse.map natD)), some (.d (.int need)), some (.l (tr.map natD)), x8, x9, x10, x11, x12, x13] ∧ TapeOk t ∧ TreeSt f s Rn st tr need ∧ tr.length = i)
      (fun e => ∃ (t : List D) (tr : List Nat) (x5 x6 x8 x9 x10 x11 x12 x13 : Option W), e = [some (.l t), some (.d f.dat), some (.d (tabD true f.sz)), some (.d (.int (s : Int))), some (.d (.int room)), x5, x6, some (.l (tr.map natD)), x8, x9, x10, x11, x12, x13] ∧ TapeOk t ∧ Fills f [s] tr ∧ tr.length ≤ Rn)
      (e := [some (.l t), some (.d f.dat), some (.d (tabD true f.sz)), some (.d (.int (s : Int))), some (.d (.int room)), some (.l [PyData.int (s : Int)]), some (.d (.int m)), some (.l []), none, none, none, none, none, none])
      ⟨t, [s], [], m, _, _, _, _, _, _, rfl, ht, ⟨fun x hx => by rw [List.mem_singleton.mp hx]; exact ⟨m, hm⟩, by simp only [sumS]; rw [valS_some hm]; omega, by simp only [List.length_nil]; omega, fun rest h => h⟩, rfl⟩ (fun i e hi hI => by
        obtain ⟨t, st, tr, need, x8, x9, x10, x11, x12, x13, rfl, ht, T, hl⟩ := hI
        refine ⟨_, rfl, ?_⟩
        cases st with
        | nil =>
          unfold M30b2
          push_cast [List.reverse_nil, List.map_nil]
          exact .inr ⟨by trivial, t, tr, _, _, _, _, _, _, _, _, rfl, ht, by simpa using T.fills [] .nil, by have := T.bound; have := T.needE; simp only [sumS] at this; omega⟩
        | cons g st =>
          refine (tree_b2 C hD h27 f hf hn s room Rn (by omega) (by omega) ht g st tr need T _ _ x9 x10 x11 x12 x13).mono fun o e q => ?_
          obtain ⟨rfl, t', st', n, need', x9, x10, x11, x12, x13, rfl, ht', T'⟩ := q
          exact .inl ⟨.inl rfl, t', st', tr ++ [n], need', _, _, _, _, _, _, rfl, ht', T', by simp [hl]⟩)
    have fin : ∃ (t : List D) (tr : List Nat) (x5 x6 x8 x9 x10 x11 x12 x13 : Option W), e' = [some (.l t), some (.d f.dat), some (.d (tabD true f.sz)), some (.d (.int (s : Int))), some (.d (.int room)), x5, x6, some (.l (tr.map natD)), x8, x9, x10, x11, x12, x13] ∧ TapeOk t ∧ Fills f [s] tr ∧ tr.length ≤ Rn := by
      rcases hI with ⟨t, st, tr, need, x8, x9, x10, x11, x12, x13, rfl, ht, T, hl⟩ | h
      · have h2 := sumS_ge hf st T.sizes
        have h3 := T.bound
        have h4 := T.needE
        have hst : st = [] := List.eq_nil_of_length_eq_zero (by omega)
        subst hst
        exact ⟨t, tr, _, _, _, _, _, _, _, _, rfl, ht, by simpa using T.fills [] .nil, by omega⟩
      · exact h
    rw [h1]
    obtain ⟨t', tr, x5, x6, x8, x9, x10, x11, x12, x13, rfl, ht', hfl, hl⟩ := fin
    push_cast []
    exact ⟨tr, t', rfl, by trivial, ht', hfl, by omega⟩
  obtain ⟨w, o, h, tr, t', rfl, rfl, h1⟩ := run
  exact ⟨tr, t', h, h1⟩
theorem filled_ok (C : Orc) (h28 : ∀ f : Fam, f.In f.count → f.count ≤ 1000 → C 28 [.d f.dat] = .ok (.d (tabD true f.sz)) []) (f : Fam) (hf : f.In f.count) (hc : f.count ≤ 1000) :
    F31 C [.d f.dat] = .ok (.d (.list (((List.range f.count).filter fun s => (f.sz.getD s none).isSome).map natD))) [] := by
  have run : WpC (F31 C [.d f.dat]) fun w o => w = .d (.list (((List.range f.count).filter fun s => (f.sz.getD s none).isSome).map natD)) ∧ o = [] := by
    refine wpC_run (m := M31 C) rfl rfl rfl ?_
    simp only [List.map_cons, List.map_nil, List.cons_append, List.nil_append, List.replicate]
    unfold M31
    push_cast [h28 f hf hc, Fam.ix0]
    rw [cmpN_filter (p := fun s => (f.sz.getD s none).isSome) (f := natD) (fun j hj => ⟨_, rfl, by
      have hl : j < f.sz.length := by rw [sz_len hf]; exact hj
      push_cast [tab_ix hl]
      cases hq : f.sz.getD j none with
      | none =>
        push_cast [priceD_none]
        exact ⟨rfl, (fun _ => by trivial), fun h => by cases h⟩
      | some q =>
        push_cast [priceD_some]
        exact ⟨rfl, (fun h => by cases h), fun _ => ⟨rfl, by trivial⟩⟩⟩)]
    push_cast []
    exact ⟨by trivial, by trivial⟩
  obtain ⟨w, o, h, rfl, rfl⟩ := run
  exact h
/-- a drawn tree, or none where there is none -/
structure SomeTree (f : Fam) (room : Int) (s : Nat) (tr : List Nat) : Prop where
  ok : (tr = [] ∧ s = 0 ∧ ∀ x, f.sz.getD x none = none) ∨ (tr ≠ [] ∧ s < f.count ∧ Fills f [s] tr ∧ (tr.length : Int) ≤ max room 100)
theorem fills_ne {f : Fam} {s : Nat} {tr : List Nat} (h : Fills f [s] tr) : tr ≠ [] := by cases h; simp
theorem some_tree_ok (C : Orc) (hD : DrawS C) (h28 : ∀ f : Fam, f.In f.count → f.count ≤ 1000 → C 28 [.d f.dat] = .ok (.d (tabD true f.sz)) [])
    (h30 : ∀ t, TapeOk t → ∀ f : Fam, f.In f.count → f.vars.length ≤ 1000 → ∀ (s : Nat) (m room : Int), f.sz.getD s none = some m → m ≤ 100000 → room ≤ 100000 → ∃ (tr : List Nat) (t' : List D), C 30 [.l t, .d f.dat, .d (tabD true f.sz), .d (.int (s : Int)), .d (.int room)] = .ok (.d (.tuple (tr.map natD))) [.l t'] ∧ TapeOk t' ∧ Fills f [s] tr ∧ (tr.length : Int) ≤ max room m)
    (f : Fam) (hf : f.In f.count) (hc : f.count ≤ 1000) (hn : f.vars.length ≤ 1000) {t : List D} (ht : TapeOk t) (room : Int) (hr : room ≤ 100000) :
    ∃ (s : Nat) (tr : List Nat) (t' : List D), F32 C [.l t, .d f.dat, .d (.int room)] = .ok (.d (.tuple [natD s, .tuple (tr.map natD)])) [.l t'] ∧ TapeOk t' ∧ SomeTree f room s tr := by
  have run : WpC (F32 C [.l t, .d f.dat, .d (.int room)]) fun w o => ∃ (s : Nat) (tr : List Nat) (t' : List D), w = .d (.tuple [natD s, .tuple (tr.map natD)]) ∧ o = [.l t'] ∧ TapeOk t' ∧ SomeTree f room s tr := by
    refine wpC_run (m := M32 C) rfl rfl rfl ?_
    simp only [List.map_cons, List.map_nil, List.cons_append, List.nil_append, List.replicate]
    unfold M32
    push_cast [h28 f hf hc, Fam.ix0]
    have hP : ∀ s, (match f.sz.getD s none with | none => false | some q => decide (q ≤ 100)) = true ↔ ∃ q, f.sz.getD s none = some q ∧ q ≤ 100 := fun s => by
      cases f.sz.getD s none with
      | none => simp
      | some q => simp
    rw [cmpN_filter (p := fun s => match f.sz.getD s none with | none => false | some q => decide (q ≤ 100)) (f := natD) (fun j hj => ⟨_, rfl, by
      have hl : j < f.sz.length := by rw [sz_len hf]; exact hj
      push_cast [tab_ix hl]
      cases hq : f.sz.getD j none with
      | none =>
        push_cast [priceD_none]
        exact ⟨by trivial, (fun _ => by trivial), fun h => by cases h⟩
      | some q =>
        push_cast [priceD_some, tab_ix hl, hq]
        exact ⟨by trivial, (fun _ => by trivial), fun _ => ⟨rfl, by trivial⟩⟩⟩)]
    generalize hsm : (List.range f.count).filter (fun s => match f.sz.getD s none with | none => false | some q => decide (q ≤ 100)) = small
    have hmem : ∀ s, s ∈ small ↔ s < f.count ∧ ∃ q, f.sz.getD s none = some q ∧ q ≤ 100 := fun s => by
      rw [← hsm, List.mem_filter, List.mem_range]
      exact and_congr_right fun _ => hP s
    have hsl : small.length ≤ f.count := by
      rw [← hsm]
      exact Nat.le_trans (List.length_filter_le _ _) (by simp)
    push_cast []
    cases small with
    | nil =>
      push_cast [List.map_nil]
      refine ⟨0, [], t, rfl, by trivial, ht, ⟨.inl ⟨rfl, rfl, sz_one hf fun s q h => ?_⟩⟩⟩
      have hs : s < f.count := by
        rw [← sz_len hf]
        rw [List.getD_eq_getElem?_getD] at h
        cases hq : f.sz[s]? with
        | none => rw [hq] at h; cases h
        | some z => exact (List.getElem?_eq_some_iff.mp hq).1
      rcases Int.lt_or_le 100 q with h1 | h1
      · exact h1
      · exact absurd ((hmem s).mpr ⟨hs, q, h, h1⟩) (by simp)
    | cons s0 ss =>
      obtain ⟨k, t1, h1, ht1, hk0, hk1⟩ := hD t ht ((s0 :: ss).length : Nat) (log_small (by omega))
      obtain ⟨kn, rfl⟩ : ∃ kn : Nat, k = (kn : Int) := ⟨k.toNat, by omega⟩
      have hkn : kn < (s0 :: ss).length := by
        simp only [List.length_cons] at hk1 ⊢
        omega
      have hget : (s0 :: ss)[kn]? = some (s0 :: ss)[kn] := List.getElem?_eq_getElem hkn
      have hm := (hmem _).mp (List.getElem_mem hkn)
      generalize (s0 :: ss)[kn] = s at hget hm
      obtain ⟨hs, q, hq, hq2⟩ := hm
      obtain ⟨tr, t2, h2, ht2, hfl, htl⟩ := h30 t1 ht1 f hf hn s q room hq (by omega) hr
      rw [List.length_cons] at h1
      rw [List.map_cons]
      push_cast []
      rw [← List.map_cons]
      push_cast [h1, atI_mn, hget, Option.map_some, natD_eq, h2]
      exact ⟨s, tr, t2, rfl, by trivial, ht2, ⟨.inr ⟨fills_ne hfl, hs, hfl, by omega⟩⟩⟩
  obtain ⟨w, o, h, s, tr, t', rfl, rfl, h1⟩ := run
  exact ⟨s, tr, t', h, h1⟩
end Mi
set_option Elab.async false
set_option linter.all false
set_option maxRecDepth 100000
set_option maxHeartbeats 4000000
namespace Mi
open PySem L2
local macro_rules | `(tactic| push_cast [$hs,*]) => `(tactic| simp -implicitDefEqProofs (disch := first | omega | (simp only [rng_len, List.length_map, List.length_append, List.length_range, List.length_replicate, List.length_cons, List.length_nil, List.length_set, List.length_reverse, List.length_zipIdx]; omega)) only [ev_seq, ev_if, ev_ifE, ev_nx, ev_bk, ev_ct, ev_E, ev_set, ev_tg, ev_ret, ev_retO, ev_retN, ev_put, ev_for, ev_C, ev_V, ev_vr, ev_ex, ev_o1, ev_o2, ev_t2, ev_tru, ev_and, ev_or, ev_not, ev_yes, ev_andE, ev_orE, ev_notE, ev_LN, ev_LC, ev_B, ev_TN, ev_TC, ev_tup, ev_lst, ev_GN, ev_GV, ev_GR, ev_call, ev_mu, ev_lc, ev_any, ev_r1, ev_r2, ev_rep, kS_nx, kS_bk, kS_ct, kS_rt, kIf_t, kIf_f, kM_ok, kSet_ok, kAnd_t, kAnd_f, kOr_t, kOr_f, kAndE_t, kAndE_f, kOrE_t, kOrE_f, kNotE_b, oVr_s, kO2_ok, kO2'_ok, g2_ss, gv_l, gv_r, kL_ok, kL'_ok, kB_ok, gB_s, gvL_n, gvL_c, kV_ss, kT_ok, kT'_ok, kG_ok, kG'_ok, gG_l, gG_t, gG_d, kC_ok, kC1_s, kC2_ok, kP_s, take_n, take_l, take_r, put_n, put_l, put_r, pt1_s, kPut1_ok, kPut2_ok, isL_l, kMu_ok, kFor_ok, kSeqI_l, kSeqI_l', kSeqI_t, kR2_ok, kRep_ok, rV_d, rV_l, cont_n, cont_c, ct1_s, wp_ok, wpC_ok, atI_0, atI_1, atI_2, atI_3, fIx_l, fIx_t, List.length_cons, List.length_nil, Nat.zero_add, Nat.reduceAdd, Int.reduceLT, Int.reduceLE, Int.reduceAdd, Int.reduceMul, Int.reduceToNat, Int.reduceNeg, Int.reduceSub, Nat.reduceLT, Nat.reduceLeDiff, Nat.reduceMul, gt_iff_lt, ge_iff_le, ixN_4_0, ixN_4_1, ixN_4_2, ixN_4_3, wipe_n, wipe_c, tgN_r, tgT_r, tgL_n, tgL_c, ofO_some, vw_d, vw_l, fAddI_int, fSub_int, fNeg_int, fMod_p, fMul_31, fMul_48271, fMul_69621, fPow18, fPow9, cCmp_int, cEq_int, cNe_int, cEq_str, cNe_str, cOrd_int, ev_aug, kAug_ok, ev_en, kEn_t, fIs_int, fIs_bool, fIs_none, fIs_str, fIs_list, fIs_tuple, isTy_int_int, isTy_int_bool, isTy_tuple_tuple, cIs_none, cIsNot_none, isNone_none, isNone_int, isNone_str, isNone_tuple, isNone_list, isNone_bool, truD_l, truD_t, truD_b, truD_n, bLen_l, bLen_t, bAbs_int, bInt_int, bMax_int, bMin_int, bList_l, bList_t, bTuple_l, bTuple_t, Option.map_some, Option.bind_some, List.getD_cons_zero, List.getD_cons_succ, List.set_cons_zero, List.set_cons_succ, if_true, if_false, lB, ↓reduceIte, Bool.not_true, Bool.not_false, kO1_ok, g1_s, kTru_ok, vf_d, vf_l, tk1_s, tkW_s, isO_l, isO_t, kF_ok, endF_r, endF_n, kF_ex, endX_s, rV_t, lpos_n, lpos_l, lpos_t, lpos_d, fAdd_int, ev_pN, ev_pS, kP1_i, ev_sl, kSl_ok, kSl2_ok, kSl3_ok, fSl_l, fSl_t, fRev_l, fRev_t, kR1_c, kR1_n, kR2_c, kLc_c, kRep2_n, gPut_n, gPut_c, gMu_app, rep_n, vw_d, List.length_map, List.length_range, rng_len, Int.toNat_natCast, beq_self_eq_true, Bool.not_true, Bool.not_false, Option.isNone_none, Option.isNone_some, decide_true, decide_false, ev_forN, List.isEmpty_nil, List.isEmpty_cons, kTg_2, kTg_3, ev_mv, gMv_s, ev_rvA, kRvA_t, kRvA_d, kRvA_l, ev_g1, kg1_i, ev_g2, kg2a_i, kg2_i, fNotT_l, fNotT_b, ev_tupR, ev_lstR, kTupR_s, kLstR_s, ev_rvR, kRvR_s, $hs,*])
/-- price_of -/
def M24 (C : Orc) : MS :=
 (sRet (eB bSum [(.ex (eLc (iAny (eV 1)) (tgN 2) mYes (eO2 fIx (.ex (eO2 fIx (.ex (eO2 fIx (.vr 0) (.ex (eC (.int 2))))) (.vr 2))) (.ex (eC (.int 2)))) [2]))]))
def F24 (C : Orc) : List W → CRes := runF 2 3 [[]] (M24 C)
def M94b0 (C : Orc) : MS :=
 (sSeq (sSet 3 (eCall C 15 [.vl (eV 0), .vl (eV 1)]))
 (sSeq (sIf (tO2 cEq (.vr 3) (.vr 1))
 (sRet (eV 1))
 sNx)
 (sSet 1 (eV 3))))
/-- least_weights -/
def M94 (C : Orc) : MS :=
 (sSeq (sSet 1 (eO2 fRepT (.ex (eTup [(eC .none)])) (.ex (eO2 fIx (.vr 0) (.ex (eC (.int 0)))))))
 (sSeq (sFor (iR1 (eO2 fIx (.vr 0) (.ex (eC (.int 0))))) (tgN 2)
 (M94b0 C))
 (sRet (eV 1))))
def F94 (C : Orc) : List W → CRes := runF 1 4 [[]] (M94 C)
def M96b0 (C : Orc) : MS :=
 (sSeq (sSet 5 (eCall C 55 [.vl (eV 0), .vl (eV 1), .vl (eV 3)]))
 (sSeq (sSet 6 (eO2 fIx (.vr 1) (.ex (eO2 fIx (.vr 4) (.ex (eC (.int 0)))))))
 (sE (eMu mApp 2 [(eIf (tOr' (tO2 cIs (.vr 5) (.ex (eC .none))) (tO2 cIs (.vr 6) (.ex (eC .none)))) (eC .none) (eO2 fSub (.vr 5) (.vr 6)))]))))
/-- margins_of -/
def M96 (C : Orc) : MS :=
 (sSeq (sSet 2 (eLst []))
 (sSeq (sFor (iEnT (eO2 fIx (.vr 0) (.ex (eC (.int 2))))) (tgT [(tgN 3), (tgN 4)])
 (M96b0 C))
 (sRet (eB bTuple [(.vr 2)]))))
def F96 (C : Orc) : List W → CRes := runF 2 7 [[]] (M96 C)
/-- least_prices -/
def M298 (C : Orc) : MS :=
 (sRet (eB bTuple [(.ex (eLc (iAny (eCall C 94 [.vl (eV 0)])) (tgN 1) mYes (eIf (tO2 cIs (.vr 1) (.ex (eC .none))) (eC .none) (eO2 fIx (.vr 1) (.ex (eC (.int 0))))) [1]))]))
def F298 (C : Orc) : List W → CRes := runF 1 2 [[]] (M298 C)
def M299b0 (C : Orc) : MS :=
 (sSeq (sIf (tO2 cIs (.ex (eO2 fIx (.vr 1) (.vr 4))) (.ex (eC .none)))
 (sRet (eC .none))
 sNx)
 (sSeq (sSet 2 (eO2 fAdd (.vr 2) (.ex (eO2 fIx (.ex (eO2 fIx (.vr 1) (.vr 4))) (.ex (eC (.int 0)))))))
 (sSet 3 (eO2 fAdd (.vr 3) (.ex (eO2 fIx (.ex (eO2 fIx (.vr 1) (.vr 4))) (.ex (eC (.int 1)))))))))
/-- _law_weight -/
def M299 (C : Orc) : MS :=
 (sSeq (sIf (tO2 cIs (.ex (eO2 fIx (.vr 0) (.ex (eC (.int 2))))) (.ex (eC .none)))
 (sRet (eC .none))
 sNx)
 (sSeq (sSet 2 (eO2 fIx (.vr 0) (.ex (eC (.int 2)))))
 (sSeq (sSet 3 (eC (.int 1)))
 (sSeq (sFor (iAny (eO2 fIx (.vr 0) (.ex (eC (.int 1))))) (tgN 4)
 (M299b0 C))
 (sRet (eTup [(eV 2), (eV 3)]))))))
def F299 (C : Orc) : List W → CRes := runF 2 5 [[], [1]] (M299 C)
def M300b0 (C : Orc) : MS :=
 (sSeq (sSet 5 (eCall C 299 [.vl (eV 4), .rf 1]))
 (sIf (tAnd' (tO2 cIsNot (.vr 5) (.ex (eC .none))) (tOr' (tO2 cIs (.ex (eO2 fIx (.vr 1) (.ex (eO2 fIx (.vr 4) (.ex (eC (.int 0))))))) (.ex (eC .none))) (tO2 dLt (.vr 5) (.ex (eO2 fIx (.vr 1) (.ex (eO2 fIx (.vr 4) (.ex (eC (.int 0))))))))))
 (sSeq (sPut 1 (eO2 fIx (.vr 4) (.ex (eC (.int 0)))) (eV 5))
 (sSet 3 (eC (.bool true))))
 sNx))
def M300b1 (C : Orc) : MS :=
 (sSeq (sSet 3 (eC (.bool false)))
 (sSeq (sFor (iAny (eO2 fIx (.vr 0) (.ex (eC (.int 2))))) (tgN 4)
 (M300b0 C))
 (sIf (tNot' (tTru (.vr 3)))
 sBk
 sNx)))
/-- _law_weights -/
def M300 (C : Orc) : MS :=
 (sSeq (sSet 1 (eLc (iR1 (eO2 fIx (.vr 0) (.ex (eC (.int 0))))) (tgN 6) mYes (eC .none) [6]))
 (sSeq (sFor (iR1 (eO2 fAddI (.ex (eO2 fIx (.vr 0) (.ex (eC (.int 0))))) (.ex (eC (.int 1))))) (tgN 2)
 (M300b1 C))
 (sRet (eV 1))))
def F300 (C : Orc) : List W → CRes := runF 1 7 [[]] (M300 C)
/-- _law_priced -/
def M29 (C : Orc) : MS :=
 (sRet (eB bSum [(.ex (eLc (iAny (eV 1)) (tgN 2) mYes (eO2 fIx (.ex (eO2 fIx (.ex (eO2 fIx (.vr 0) (.ex (eC (.int 2))))) (.vr 2))) (.ex (eC (.int 2)))) [2]))]))
def F29 (C : Orc) : List W → CRes := runF 2 3 [[]] (M29 C)
theorem two_at5 {x y : D} (i : Nat) : ∃ z, (z = x ∨ z = y) ∧ atI [x, y] ((i : Int) % 2) = some z := by
  rcases (show (i : Int) % 2 = 0 ∨ (i : Int) % 2 = 1 by omega) with h | h
  · rw [h]; exact ⟨x, .inl rfl, rfl⟩
  · rw [h]; exact ⟨y, .inr rfl, rfl⟩
theorem plain_wD (z : Wt) : plain (wD z) = true := by cases z <;> rfl
theorem plain_row (ws : List Wt) : plain (.tuple (ws.map wD)) = true := by
  simp only [plain]
  exact plains_iff.mpr fun x hx => by
    obtain ⟨z, _, rfl⟩ := List.mem_map.mp hx
    exact plain_wD z
theorem lay_wD (z : Wt) : (wD z).canLay0 = true := by cases z <;> simp [wD, PyData.canLay0, PyData.canLayAll0]
theorem sh_row (ws : List Wt) : Sh (.tuple (ws.map wD)) := by
  constructor
  · unfold SeqAt.shaped
    rw [Bool.and_eq_true]
    constructor
    · simp only [PyData.canLay0]
      induction ws with
      | nil => rfl
      | cons z zs ih => simp only [List.map_cons, PyData.canLayAll0, lay_wD, ih, Bool.and_self]
    · have := wD_depth ws
      simp only [PyData.depth]
      exact decide_eq_true (by omega)
  · simp only [noD]
    induction ws with
    | nil => rfl
    | cons z zs ih =>
      simp only [List.map_cons, noDs, ih, Bool.and_true]
      cases z <;> rfl
theorem wD_inj {a b : Wt} (h : wD a = wD b) : a = b := by
  cases a <;> cases b <;> simp [wD] at h ⊢
  exact Prod.ext h.1 h.2
theorem row_inj {ws us : List Wt} (h : PyData.tuple (ws.map wD) = .tuple (us.map wD)) : ws = us := by
  simp only [PyData.tuple.injEq] at h
  exact List.map_inj_right (fun a b => wD_inj) |>.mp h
theorem cEq_row (ws us : List Wt) : cEq (.tuple (ws.map wD)) (.tuple (us.map wD)) = some (decide (ws = us)) := by
  rw [cEq_sh (sh_row ws) (sh_row us)]
  congr 1
  rw [Bool.eq_iff_iff, eqv_iff (plain_row ws) (plain_row us), decide_eq_true_eq]
  exact ⟨row_inj, fun h => by rw [h]⟩
theorem cNe_row (ws us : List Wt) : cNe (.tuple (ws.map wD)) (.tuple (us.map wD)) = some (!decide (ws = us)) := by
  rw [cNe_sh (sh_row ws) (sh_row us)]
  congr 1
  congr 1
  rw [Bool.eq_iff_iff, eqv_iff (plain_row ws) (plain_row us), decide_eq_true_eq]
  exact ⟨row_inj, fun h => by rw [h]⟩
/-- what is known of a family in every one of these laws -/
structure Fam.Sz (f : Fam) : Prop where
  pos : 0 < f.count
  count : f.count ≤ 1000
  plain : f.Plain
theorem Fam.Sz.for_ {f : Fam} (h : f.Sz) {ws : List Wt} (hl : ws.length = f.count) : WtFor f ws := ⟨hl, h.plain.plug, h.plain.slots, h.count⟩
def RoundS (C : Orc) (k : Nat) : Prop := ∀ (f : Fam) (ws : List Wt), f.Sz → ws.length = f.count → C k [.d f.dat, .d (.tuple (ws.map wD))] = .ok (.d (.tuple ((wRound f ws).map wD))) []
theorem rep_none (n : Nat) : List.replicate n PyData.none = (List.replicate n (none : Wt)).map wD := by simp [wD]
theorem lw_ok (C : Orc) (hR : RoundS C 15) (f : Fam) (hf : f.Sz) : F94 C [.d f.dat] = .ok (.d (.tuple (f.lw.map wD))) [] := by
  have run : WpC (F94 C [.d f.dat]) fun w o => w = .d (.tuple (f.lw.map wD)) ∧ o = [] := by
    refine wpC_run (m := M94 C) rfl rfl rfl ?_
    simp only [List.map_cons, List.map_nil, List.cons_append, List.nil_append, List.replicate]
    unfold M94
    have := hf.pos
    have := hf.count
    rw [sSeq_step (e' := [some (.d f.dat), some (.d (.tuple ((List.replicate f.count (none : Wt)).map wD))), none, none]) (by push_cast [Fam.ix0, rep_none])]
    push_cast [Fam.ix0]
    rcases forN_rt (tg := tgN 2) (b := M94b0 C) (n := f.count)
      (fun i e => ∃ x2 x3 : Option W, e = [some (.d f.dat), some (.d (.tuple ((wIt f i).map wD))), x2, x3])
      (fun w e => w = .d (.tuple (f.lw.map wD))) (e := [some (.d f.dat), some (.d (.tuple ((List.replicate f.count (none : Wt)).map wD))), none, none]) ⟨none, none, rfl⟩ (fun i e hi hI => by
        obtain ⟨x2, x3, rfl⟩ := hI
        refine ⟨_, rfl, ?_⟩
        have hl := it_len hf.plain i
        unfold M94b0
        push_cast [hR f _ hf hl, cEq_row]
        by_cases hc : wRound f (wIt f i) = wIt f i
        · rw [decide_eq_true hc]
          push_cast []
          refine .inr ⟨_, rfl, ?_⟩
          rw [show f.lw = wIt f i from it_stay hf.plain hc _ (Nat.le_of_lt hi)]
        · rw [decide_eq_false hc]
          push_cast []
          exact .inl ⟨by simp, _, _, rfl⟩) with ⟨e', h1, x2, x3, rfl⟩ | ⟨w, e', h1, rfl⟩
    · rw [h1]
      push_cast []
      exact ⟨rfl, by trivial⟩
    · rw [h1]
      push_cast []
      exact ⟨by trivial, by trivial⟩
  obtain ⟨w, o, h, rfl, rfl⟩ := run
  exact h
theorem bSum_i (ns : List Int) : bSum [.list (ns.map PyData.int)] = some (.d (.int ns.sum)) := by
  show (ints? (ns.map PyData.int)).map _ = _
  rw [ints?_map]; rfl
def prN (f : Fam) (n : Nat) : Int := ((f.vars[n]?.bind Var.price).getD 0)
def prT (f : Fam) (tr : List Nat) : Int := (tr.map (prN f)).sum
/-- numbers of variants that have a price -/
def TrOk (f : Fam) (tr : List Nat) : Prop := (∀ n ∈ tr, ∃ v p, f.vars[n]? = some v ∧ v.price = some p) ∧ tr.length ≤ 1000
theorem price_of_ok (C : Orc) (f : Fam) (tr : List Nat) (h : TrOk f tr) : F24 C [.d f.dat, .d (.tuple (tr.map natD))] = .ok (.d (.int (prT f tr))) [] := by
  have run : WpC (F24 C [.d f.dat, .d (.tuple (tr.map natD))]) fun w o => w = .d (.int (prT f tr)) ∧ o = [] := by
    refine wpC_run (m := M24 C) rfl rfl rfl ?_
    simp only [List.map_cons, List.map_nil, List.cons_append, List.nil_append, List.replicate]
    have hl := h.2
    unfold M24
    push_cast []
    rw [cmpT_map (f := fun n => PyData.int (prN f n)) (fun n hn => ⟨_, rfl, by
      obtain ⟨v, p, hv, hp⟩ := h.1 n hn
      push_cast [natD_eq, Fam.ix2, atI_mn, hv, Option.map_some, Var.ix2, hp, priceD_some]
      exact ⟨by simp [prN, hv, hp], by trivial⟩⟩)]
    rw [show tr.map (fun n => PyData.int (prN f n)) = (tr.map (prN f)).map PyData.int by rw [List.map_map]; rfl]
    push_cast [bSum_i]
    exact ⟨by trivial, by trivial⟩
  obtain ⟨w, o, h, rfl, rfl⟩ := run
  exact h
theorem priced_ok (C : Orc) (f : Fam) (tr : List Nat) (h : TrOk f tr) : F29 C [.d f.dat, .d (.tuple (tr.map natD))] = .ok (.d (.int (prT f tr))) [] := by
  have run : WpC (F29 C [.d f.dat, .d (.tuple (tr.map natD))]) fun w o => w = .d (.int (prT f tr)) ∧ o = [] := by
    refine wpC_run (m := M29 C) rfl rfl rfl ?_
    simp only [List.map_cons, List.map_nil, List.cons_append, List.nil_append, List.replicate]
    have hl := h.2
    unfold M29
    push_cast []
    rw [cmpT_map (f := fun n => PyData.int (prN f n)) (fun n hn => ⟨_, rfl, by
      obtain ⟨v, p, hv, hp⟩ := h.1 n hn
      push_cast [natD_eq, Fam.ix2, atI_mn, hv, Option.map_some, Var.ix2, hp, priceD_some]
      exact ⟨by simp [prN, hv, hp], by trivial⟩⟩)]
    rw [show tr.map (fun n => PyData.int (prN f n)) = (tr.map (prN f)).map PyData.int by rw [List.map_map]; rfl]
    push_cast [bSum_i]
    exact ⟨by trivial, by trivial⟩
  obtain ⟨w, o, h, rfl, rfl⟩ := run
  exact h
theorem RowM.b {m : Nat} {ts : Row} (h : RowM m ts) : RowB (fun _ => m) ts := fun s x hx => h x (by
  rw [List.getD_eq_getElem?_getD] at hx
  cases hq : ts[s]? with
  | none => rw [hq] at hx; cases hx
  | some z =>
    rw [hq] at hx
    rw [← show z = some x from hx]
    exact List.mem_of_getElem? hq)
theorem bigT_lt : 1000000000 + 8 * bigT < 2 ^ 1000 := by unfold bigT; decide +kernel
theorem nice_pd {z : Option Int} (h : ∀ x, z = some x → x.natAbs ≤ 1000000000 + 8 * bigT) : nice (priceD z) = true := by
  cases z with
  | none => rfl
  | some x =>
    have := h x rfl
    have hb := bigT_lt
    show decide (x.natAbs.log2 < 1000) = true
    refine decide_eq_true ?_
    by_cases h0 : x.natAbs = 0
    · rw [h0]; decide
    · exact (Nat.log2_lt h0).mpr (Nat.lt_of_le_of_lt this hb)
theorem pd_nodes : ∀ zs : Row, nodesAll (zs.map priceD) = zs.length
  | [] => rfl
  | z :: zs => by
    simp only [List.map_cons, nodesAll, List.length_cons, pd_nodes zs]
    cases z <;> simp [priceD, nodes] <;> omega
theorem pd_depth : ∀ zs : Row, PyData.depthAll (zs.map priceD) ≤ 1
  | [] => by simp [PyData.depthAll]
  | z :: zs => by
    have := pd_depth zs
    have hz : (priceD z).depth ≤ 1 := by cases z <;> simp [priceD, PyData.depth]
    simp only [List.map_cons, PyData.depthAll]
    omega
theorem repr_pd {z : Option Int} (h : ∀ x, z = some x → x.natAbs ≤ 1000000000 + 8 * bigT) : bRepr [priceD z] = some (.d (.str (priceD z).shown)) :=
  bRepr_nice (nice_pd h) (by cases z <;> simp [priceD, nodes]) (by cases z <;> simp [priceD, PyData.depth])
theorem repr_row {zs : Row} (h : ∀ x : Int, some x ∈ zs → x.natAbs ≤ 1000000000 + 8 * bigT) (hl : zs.length ≤ 1000) : bRepr [.tuple (zs.map priceD)] = some (.d (.str (PyData.tuple (zs.map priceD)).shown)) := by
  refine bRepr_nice ?_ ?_ ?_
  · exact niceAll_iff.mpr fun x hx => by
      obtain ⟨z, hz, rfl⟩ := List.mem_map.mp hx
      exact nice_pd fun y hy => h y (hy ▸ hz)
  · have := pd_nodes zs
    simp only [nodes]; omega
  · have := pd_depth zs
    simp only [PyData.depth]; omega
def Var.margin (v : Var) (ts : Row) : Option Int := match v.cost ts, ts.getD v.plug none with
  | some c, some w => some (c - w)
  | _, _ => none
theorem mg_none {v : Var} {ts : Row} (h : v.cost ts = none) : v.margin ts = none := by unfold Var.margin; rw [h]
theorem mg_no {v : Var} {ts : Row} (h : ts.getD v.plug none = none) : v.margin ts = none := by unfold Var.margin; rw [h]; cases v.cost ts <;> rfl
theorem mg_some {v : Var} {ts : Row} {c w : Int} (h : v.cost ts = some c) (h2 : ts.getD v.plug none = some w) : v.margin ts = some (c - w) := by unfold Var.margin; rw [h, h2]
theorem margins_ok (C : Orc) (h55 : CostOfS C) (f : Fam) (ts : Row) (k : Bool) (hf : f.In ts.length) (hz : f.vars.length ≤ 100000) : F96 C [.d f.dat, .d (tabD k ts)] = .ok (.d (.tuple ((f.vars.map (·.margin ts)).map priceD))) [] := by
  have run : WpC (F96 C [.d f.dat, .d (tabD k ts)]) fun w o => w = .d (.tuple ((f.vars.map (·.margin ts)).map priceD)) ∧ o = [] := by
    refine wpC_run (m := M96 C) rfl rfl rfl ?_
    simp only [List.map_cons, List.map_nil, List.cons_append, List.nil_append, List.replicate]
    unfold M96
    push_cast [Fam.ix2, enumD_map]
    obtain ⟨e', h1, x3, x4, x5, x6, rfl⟩ := forT_inv (dat := enD Var.dat) (tg := tgT [tgN 3, tgN 4]) (b := M96b0 C) (xs := f.vars.zipIdx)
      (fun pre e => ∃ x3 x4 x5 x6, e = [some (.d f.dat), some (.d (tabD k ts)), some (.l ((pre.map fun p => p.1.margin ts).map priceD)), x3, x4, x5, x6])
      (e := [some (.d f.dat), some (.d (tabD k ts)), some (.l []), none, none, none, none]) ⟨_, _, _, _, rfl⟩ (fun pre p post e hx hI => by
        obtain ⟨x3, x4, x5, x6, rfl⟩ := hI
        obtain ⟨v, i⟩ := p
        refine ⟨_, rfl, ?_⟩
        have hlen := congrArg List.length hx
        simp only [List.length_zipIdx, List.length_append, List.length_cons] at hlen
        have hvi : (v, i) ∈ f.vars.zipIdx := by rw [hx]; simp
        have hv : f.vars[i]? = some v := List.mem_zipIdx_iff_getElem?.mp hvi
        have hm : v ∈ f.vars := List.mem_of_getElem? hv
        have hp := hf.plug v hm
        unfold M96b0
        push_cast [h55 f ts k i v hv (hf.slots v hm), Var.ix0, tab_ix hp]
        rw [List.map_append, List.map_append]
        cases hc : v.cost ts with
        | none =>
          push_cast [priceD_none]
          exact ⟨by simp, _, _, _, _, by simp only [List.map_cons, List.map_nil, mg_none hc]; rfl⟩
        | some c =>
          cases hq : ts.getD v.plug none with
          | none =>
            push_cast [priceD_none, priceD_some]
            exact ⟨by simp, _, _, _, _, by simp only [List.map_cons, List.map_nil, mg_no hq]; rfl⟩
          | some w =>
            push_cast [priceD_none, priceD_some]
            exact ⟨by simp, _, _, _, _, by simp only [List.map_cons, List.map_nil, mg_some hc hq]; rfl⟩)
    rw [h1]
    push_cast []
    refine ⟨?_, by trivial⟩
    congr 3
    have e : f.vars.zipIdx.map Prod.fst = f.vars := List.zipIdx_map_fst 0 f.vars
    have e2 : f.vars.zipIdx.map (fun p => p.1.margin ts) = (f.vars.zipIdx.map Prod.fst).map fun v => v.margin ts := by rw [List.map_map]; rfl
    rw [e2, e]
  obtain ⟨w, o, h, rfl, rfl⟩ := run
  exact h
theorem cost_big {f : Fam} {ts : Row} (hb : RowM (2 * bigT) ts) (hp : f.Pr 1000000000) (hs : ∀ v ∈ f.vars, v.slots.length ≤ 3) {v : Var} (hv : v ∈ f.vars) : ∀ c, v.cost ts = some c → c.natAbs ≤ 1000000000 + 6 * bigT := fun c h => by
  unfold Var.cost at h
  cases hpr : v.price with
  | none => rw [hpr, cst_none] at h; cases h
  | some p =>
    rw [hpr] at h
    have h1 := cst_bd hb.b _ _ _ h
    have h2 := sum_le (B := fun _ => 2 * bigT) (m := 2 * bigT) (sl := v.slots) fun _ _ => Nat.le_refl _
    have h3 := hp v hv p hpr
    have h4 : v.slots.length * (2 * bigT) ≤ 3 * (2 * bigT) := Nat.mul_le_mul_right _ (hs v hv)
    omega
theorem margin_big {f : Fam} {ts : Row} (hb : RowM (2 * bigT) ts) (hp : f.Pr 1000000000) (hs : ∀ v ∈ f.vars, v.slots.length ≤ 3) {v : Var} (hv : v ∈ f.vars) : ∀ c, v.margin ts = some c → c.natAbs ≤ 1000000000 + 8 * bigT := fun c h => by
  unfold Var.margin at h
  cases hc : v.cost ts with
  | none => rw [hc] at h; cases h
  | some x =>
    cases hq : ts.getD v.plug none with
    | none => rw [hc, hq] at h; cases h
    | some w =>
      rw [hc, hq] at h
      cases h
      have := cost_big hb hp hs hv x hc
      have := hb.b v.plug w hq
      simp only at this
      omega
/-! ### weights in place -/
theorem sw_get {ts : List Wt} {v : Var} (h : v.plug < ts.length) (s : Nat) : (wStep ts ts v).getD s none = if s = v.plug ∧ wtake (weight v ts) (ts.getD v.plug none) = true then weight v ts else ts.getD s none := wStep_get h s
theorem sw_dec {ts : List Wt} {v : Var} (h : v.plug < ts.length) : rowLe (wStep ts ts v) ts := fun s => by
  rw [sw_get h]
  split
  · rename_i z
    rw [z.1]
    exact wle_of_lt z.2
  · exact wle_refl _
theorem sw_le {ts : List Wt} {v : Var} (h : v.plug < ts.length) : wle ((wStep ts ts v).getD v.plug none) (weight v ts) := by
  rw [sw_get h]
  split
  · exact wle_refl _
  · rename_i z
    exact fun q => z ⟨rfl, q⟩
def foldW (vs : List Var) (ts : List Wt) : List Wt := vs.foldl (fun ts v => wStep ts ts v) ts
theorem rowLe_refl (ts : List Wt) : rowLe ts ts := fun s => wle_refl _
theorem rowLe_trans {a b c : List Wt} (h : rowLe a b) (g : rowLe b c) : rowLe a c := fun s => wle_trans (h s) (g s)
theorem fw_len : ∀ (vs : List Var) (ts : List Wt), (foldW vs ts).length = ts.length
  | [], _ => rfl
  | v :: vs, ts => by
    show (foldW vs (wStep ts ts v)).length = _
    rw [fw_len vs, wStep_len]
theorem fw_dec : ∀ (vs : List Var) (ts : List Wt), (∀ v ∈ vs, v.plug < ts.length) → rowLe (foldW vs ts) ts
  | [], ts, _ => rowLe_refl ts
  | v :: vs, ts, h => rowLe_trans (fw_dec vs _ fun u hu => by rw [wStep_len]; exact h u (List.mem_cons_of_mem _ hu)) (sw_dec (h v List.mem_cons_self))
theorem fw_le : ∀ (vs : List Var) (ts T : List Wt), (∀ v ∈ vs, v.plug < ts.length) → rowLe ts T → ∀ v ∈ vs, wle ((foldW vs ts).getD v.plug none) (weight v T)
  | [], _, _, _, _, v, hv => by cases hv
  | u :: vs, ts, T, h, g, v, hv => by
    have hu := h u List.mem_cons_self
    have h' : ∀ v ∈ vs, v.plug < (wStep ts ts u).length := fun x hx => by rw [wStep_len]; exact h x (List.mem_cons_of_mem _ hx)
    show wle ((foldW vs (wStep ts ts u)).getD v.plug none) _
    rcases List.mem_cons.mp hv with rfl | hv
    · exact wle_trans (fw_dec vs _ h' _) (wle_trans (sw_le hu) (weight_mono g v))
    · exact fw_le vs _ T h' (rowLe_trans (sw_dec hu) g) v hv
theorem fw_ge {f : Fam} {L : List Wt} (hL : ∀ v ∈ f.vars, wle (L.getD v.plug none) (weight v L)) : ∀ (vs : List Var) (ts : List Wt), (∀ v ∈ vs, v ∈ f.vars ∧ v.plug < ts.length) → rowLe L ts → rowLe L (foldW vs ts)
  | [], ts, _, g => g
  | v :: vs, ts, h, g => by
    obtain ⟨hv, hp⟩ := h v List.mem_cons_self
    show rowLe L (foldW vs (wStep ts ts v))
    refine fw_ge hL vs _ (fun u hu => ⟨(h u (List.mem_cons_of_mem _ hu)).1, by rw [wStep_len]; exact (h u (List.mem_cons_of_mem _ hu)).2⟩) fun s => ?_
    rw [sw_get hp]
    split
    · rename_i z
      rw [z.1]
      exact wle_trans (hL v hv) (weight_mono g v)
    · exact g s
def turnW (f : Fam) (ts : List Wt) : List Wt := foldW f.vars ts
def SW (f : Fam) : Nat → List Wt
  | 0 => List.replicate f.count none
  | k + 1 => turnW f (SW f k)
section
variable {f : Fam} (hf : f.Plain)
include hf
theorem SW_len (k : Nat) : (SW f k).length = f.count := by
  induction k with
  | zero => simp [SW]
  | succ k ih => show (turnW f (SW f k)).length = _; unfold turnW; rw [fw_len, ih]
theorem lw_len : f.lw.length = f.count := it_len hf _
theorem SW_ge (k : Nat) : rowLe f.lw (SW f k) := by
  induction k with
  | zero =>
    intro s
    show wle _ ((List.replicate f.count (none : Wt)).getD s none)
    rw [none_get]
    exact wle_none
  | succ k ih =>
    refine fw_ge (fun v hv => ?_) f.vars _ (fun v hv => ⟨hv, by rw [SW_len hf]; exact hf.plug v hv⟩) ih
    have := round_le (ws := f.lw) hf.plug hv
    rwa [lw_fix hf] at this
theorem SW_le (k : Nat) : rowLe (SW f k) (wIt f k) := by
  induction k with
  | zero => exact rowLe_refl _
  | succ k ih =>
    intro s
    cases h : (wIt f (k + 1)).getD s none with
    | none => exact wle_none
    | some q =>
      obtain ⟨v, hv, hp, hw⟩ := round_is hf.plug h
      have := fw_le f.vars (SW f k) (wIt f k) (fun v hv => by rw [SW_len hf]; exact hf.plug v hv) ih v hv
      rw [hw, hp] at this
      exact this
theorem SW_end : SW f f.count = f.lw :=
  row_ext ((SW_len hf _).trans (lw_len hf).symm) fun s => wle_antisymm (SW_le hf f.count s) (SW_ge hf f.count s)
theorem SW_stay {k : Nat} (h : turnW f (SW f k) = SW f k) : ∀ j, k ≤ j → SW f j = SW f k := fun j hj => by
  induction j with
  | zero => rw [show k = 0 by omega]
  | succ j ih =>
    rcases Nat.lt_or_ge j k with hk | hk
    · rw [show k = j + 1 by omega]
    · show turnW f (SW f j) = _
      rw [ih hk, h]
theorem SW_done {k : Nat} (hk : k < f.count + 1) (h : turnW f (SW f k) = SW f k) : SW f k = f.lw := by
  exact (SW_stay hf h f.count (by omega)).symm.trans (SW_end hf)
theorem SW_end' : turnW f (SW f f.count) = SW f f.count :=
  row_ext (by unfold turnW; rw [fw_len]) fun s => by
    refine wle_antisymm (fw_dec f.vars _ (fun v hv => by rw [SW_len hf]; exact hf.plug v hv) s) ?_
    have := SW_ge hf (f.count + 1) s
    rw [← SW_end hf] at this
    exact this
theorem SW_last : SW f (f.count + 1) = f.lw := (SW_stay hf (SW_end' hf) (f.count + 1) (by omega)).trans (SW_end hf)
end
def wtD (k : Bool) (ws : List Wt) : D := if k then .list (ws.map wD) else .tuple (ws.map wD)
theorem wtD_t (ts : List Wt) : wtD false ts = .tuple (ts.map wD) := rfl
theorem wtD_l (ts : List Wt) : wtD true ts = .list (ts.map wD) := rfl
theorem wt_ix {k : Bool} {ts : List Wt} {s : Nat} (h : s < ts.length) : fIx (wtD k ts) (.int (s : Int)) = some (.d (wD (ts.getD s none))) := by
  have := wt_at h
  cases k
  · show (atI (ts.map wD) (s : Int)).map W.d = _
    rw [this]; rfl
  · show (atI (ts.map wD) (s : Int)).map W.d = _
    rw [this]; rfl
theorem wD_some (q : Int × Int) : wD (some q) = .tuple [.int q.1, .int q.2] := rfl
theorem ws_no {ws : List Wt} {p n : Int} {s : Nat} {sl : List Nat} (h : ws.getD s none = none) : wsum ws (s :: sl) p n = none := by simp only [wsum, h]
theorem ws_some {ws : List Wt} {p n : Int} {q : Int × Int} {s : Nat} {sl : List Nat} (h : ws.getD s none = some q) : wsum ws (s :: sl) p n = wsum ws sl (p + q.1) (n + q.2) := by simp only [wsum, h]
theorem weight_none {v : Var} {ws : List Wt} (h : v.price = none) : weight v ws = none := by unfold weight; rw [h]
theorem weight_some {v : Var} {ws : List Wt} {p : Int} (h : v.price = some p) : weight v ws = wsum ws v.slots p 1 := by unfold weight; rw [h]
theorem lweight_ok (C : Orc) (v : Var) (ws : List Wt) (k : Bool) (hs : ∀ s ∈ v.slots, s < ws.length) : F299 C [.d v.dat, .d (wtD k ws)] = .ok (.d (wD (weight v ws))) [] := by
  have run : WpC (F299 C [.d v.dat, .d (wtD k ws)]) fun w o => w = .d (wD (weight v ws)) ∧ o = [] := by
    refine wpC_run (m := M299 C) rfl rfl rfl ?_
    simp only [List.map_cons, List.map_nil, List.cons_append, List.nil_append, List.replicate]
    unfold M299
    push_cast [Var.ix1, Var.ix2]
    cases hpr : v.price with
    | none =>
      push_cast [priceD_none]
      exact ⟨by rw [weight_none hpr]; rfl, by trivial⟩
    | some p0 =>
    push_cast [priceD_some, Var.ix1, Var.ix2, hpr]
    rcases forT_rt (dat := natD) (tg := tgN 4) (b := M299b0 C) (xs := v.slots)
      (fun pre e => ∃ p n x4, e = [some (.d v.dat), some (.d (wtD k ws)), some (.d (.int p)), some (.d (.int n)), x4] ∧ ∀ post, v.slots = pre ++ post → weight v ws = wsum ws post p n)
      (fun w e => w = .d (wD (weight v ws)) ∧ ∃ x2 x3 x4, e = [some (.d v.dat), some (.d (wtD k ws)), x2, x3, x4])
      (e := [some (.d v.dat), some (.d (wtD k ws)), some (.d (.int p0)), some (.d (.int 1)), none]) ⟨_, _, _, rfl, fun post h => by
        rw [weight_some hpr, h]; rfl⟩ (fun pre s post e hx hI => by
        obtain ⟨p, n, x4, rfl, ha⟩ := hI
        refine ⟨_, rfl, ?_⟩
        have hlt : s < ws.length := hs s (by rw [hx]; simp)
        have hc := ha _ hx
        unfold M299b0
        cases hq : ws.getD s none with
        | none =>
          push_cast [wnone, natD_eq, wt_ix hlt, hq, Option.map_some]
          exact .inr ⟨_, rfl, by rw [hc, ws_no hq]; rfl, _, _, _, rfl⟩
        | some q =>
          push_cast [wD_some, natD_eq, wt_ix hlt, hq, Option.map_some]
          exact .inl ⟨by simp, p + q.1, n + q.2, _, rfl, fun post' h' => by
            rw [hc, ws_some hq]
            rw [hx, List.append_assoc, List.append_cancel_left_eq] at h'
            cases h'; rfl⟩) with ⟨e', h1, p, n, x4, rfl, ha⟩ | ⟨w, e', h1, rfl, x2, x3, x4, rfl⟩
    · rw [h1]
      push_cast []
      refine ⟨?_, by trivial⟩
      rw [ha [] (by simp)]; rfl
    · rw [h1]
      push_cast []
      trivial
  obtain ⟨w, o, h, rfl, rfl⟩ := run
  exact h
theorem lweight_lok (C : Orc) (v : Var) (ws : List Wt) (hs : ∀ s ∈ v.slots, s < ws.length) : F299 C [.d v.dat, .l (ws.map wD)] = .ok (.d (wD (weight v ws))) [.l (ws.map wD)] := by
  have run : WpC (F299 C [.d v.dat, .l (ws.map wD)]) fun w o => w = .d (wD (weight v ws)) ∧ o = [.l (ws.map wD)] := by
    refine wpC_run (m := M299 C) rfl rfl rfl ?_
    simp only [List.map_cons, List.map_nil, List.cons_append, List.nil_append, List.replicate]
    unfold M299
    push_cast [Var.ix1, Var.ix2]
    cases hpr : v.price with
    | none =>
      push_cast [priceD_none]
      exact ⟨by rw [weight_none hpr]; rfl, by trivial⟩
    | some p0 =>
    push_cast [priceD_some, Var.ix1, Var.ix2, hpr]
    rcases forT_rt (dat := natD) (tg := tgN 4) (b := M299b0 C) (xs := v.slots)
      (fun pre e => ∃ p n x4, e = [some (.d v.dat), some (.l (ws.map wD)), some (.d (.int p)), some (.d (.int n)), x4] ∧ ∀ post, v.slots = pre ++ post → weight v ws = wsum ws post p n)
      (fun w e => w = .d (wD (weight v ws)) ∧ ∃ x2 x3 x4, e = [some (.d v.dat), some (.l (ws.map wD)), x2, x3, x4])
      (e := [some (.d v.dat), some (.l (ws.map wD)), some (.d (.int p0)), some (.d (.int 1)), none]) ⟨_, _, _, rfl, fun post h => by
        rw [weight_some hpr, h]; rfl⟩ (fun pre s post e hx hI => by
        obtain ⟨p, n, x4, rfl, ha⟩ := hI
        refine ⟨_, rfl, ?_⟩
        have hlt : s < ws.length := hs s (by rw [hx]; simp)
        have hc := ha _ hx
        unfold M299b0
        cases hq : ws.getD s none with
        | none =>
          push_cast [wnone, natD_eq, wt_at hlt, hq, Option.map_some]
          exact .inr ⟨_, rfl, by rw [hc, ws_no hq]; rfl, _, _, _, rfl⟩
        | some q =>
          push_cast [wD_some, natD_eq, wt_at hlt, hq, Option.map_some]
          exact .inl ⟨by simp, p + q.1, n + q.2, _, rfl, fun post' h' => by
            rw [hc, ws_some hq]
            rw [hx, List.append_assoc, List.append_cancel_left_eq] at h'
            cases h'; rfl⟩) with ⟨e', h1, p, n, x4, rfl, ha⟩ | ⟨w, e', h1, rfl, x2, x3, x4, rfl⟩
    · rw [h1]
      push_cast []
      refine ⟨?_, by trivial⟩
      rw [ha [] (by simp)]; rfl
    · rw [h1]
      push_cast []
      trivial
  obtain ⟨w, o, h, rfl, rfl⟩ := run
  exact h
def LWeightL (C : Orc) : Prop := ∀ (v : Var) (ws : List Wt), (∀ s ∈ v.slots, s < ws.length) → C 299 [.d v.dat, .l (ws.map wD)] = .ok (.d (wD (weight v ws))) [.l (ws.map wD)]
theorem wStep_no {ts : List Wt} {v : Var} (h : weight v ts = none) : wStep ts ts v = ts := by
  unfold wStep
  rw [h]
  exact if_neg wlt_n
theorem lws_b0 (C : Orc) (h299 : LWeightL C) (f : Fam) (hf : f.In f.count) (v : Var) (hv : v ∈ f.vars) (ts : List Wt) (hl : ts.length = f.count) (b : Bool) (x2 x5 : Option W) :
    Wp (M300b0 C [some (.d f.dat), some (.l (ts.map wD)), x2, some (.d (.bool b)), some (.d v.dat), x5, none]) fun o e => o = .nx ∧
      ∃ (b' : Bool) (x5' : Option W), e = [some (.d f.dat), some (.l ((wStep ts ts v).map wD)), x2, some (.d (.bool b')), some (.d v.dat), x5', none] ∧ (b' = false → b = false ∧ wStep ts ts v = ts) := by
  have hp : v.plug < ts.length := by rw [hl]; exact hf.plug v hv
  unfold M300b0
  push_cast [h299 v ts (by rw [hl]; exact hf.slots v hv)]
  cases hc : weight v ts with
  | none =>
    push_cast [wnone]
    exact ⟨by trivial, b, _, by rw [wStep_no hc], fun h => ⟨h, wStep_no hc⟩⟩
  | some a =>
    cases hq : ts.getD v.plug none with
    | none =>
      push_cast [wnone, isNone_wD, Var.ix0, wt_at hp, hq, Option.map_some]
      refine ⟨by trivial, true, some (.d (wD (some a))), ?_, fun h => by cases h⟩
      have : wStep ts ts v = ts.set v.plug (some a) := by unfold wStep; rw [hc, hq]; exact if_pos rfl
      rw [this, ← wset_map]
    | some w =>
      push_cast [isNone_wD, Var.ix0, wt_at hp, hq, Option.map_some, dLt_w]
      cases hn : wless a w with
      | true =>
        push_cast [Var.ix0]
        refine ⟨by trivial, true, some (.d (wD (some a))), ?_, fun h => by cases h⟩
        have : wStep ts ts v = ts.set v.plug (some a) := by unfold wStep; rw [hc, hq, if_pos (wtake_t hn)]
        rw [this, ← wset_map]
      | false =>
        push_cast []
        have : wStep ts ts v = ts := by unfold wStep; rw [hc, hq, if_neg (wtake_f hn)]
        exact ⟨by trivial, b, _, by rw [this], fun h => ⟨h, this⟩⟩
theorem lws_ok (C : Orc) (h299 : LWeightL C) (f : Fam) (hpl : f.Plain) (hc : f.count ≤ 1000) : F300 C [.d f.dat] = .ok (.d (wtD true f.lw)) [] := by
  have hf : f.In f.count := ⟨hpl.plug, hpl.slots⟩
  have run : WpC (F300 C [.d f.dat]) fun w o => w = .d (wtD true f.lw) ∧ o = [] := by
    refine wpC_run (m := M300 C) rfl rfl rfl ?_
    simp only [List.map_cons, List.map_nil, List.cons_append, List.nil_append, List.replicate]
    unfold M300
    push_cast [Fam.ix0]
    rw [cmpN_map (f := fun _ => wD none) (fun j hj => ⟨_, rfl, by push_cast []; exact ⟨by trivial, by trivial⟩⟩)]
    rw [show (List.range f.count).map (fun _ => wD none) = (List.replicate f.count (none : Wt)).map wD by simp [List.map_const']]
    push_cast [Fam.ix0]
    rw [show ((f.count : Int) + 1).toNat = f.count + 1 by omega]
    obtain ⟨e', h1, hI⟩ := forN_bk (tg := tgN 2) (b := M300b1 C) (n := f.count + 1)
      (fun j e => ∃ (x2 x3 x4 x5 : Option W), e = [some (.d f.dat), some (.l ((SW f j).map wD)), x2, x3, x4, x5, none])
      (fun e => ∃ (x2 x3 x4 x5 : Option W), e = [some (.d f.dat), some (.l (f.lw.map wD)), x2, x3, x4, x5, none])
      (e := [some (.d f.dat), some (.l ((List.replicate f.count (none : Wt)).map wD)), none, none, none, none, none])
      ⟨_, _, _, _, rfl⟩ (fun j e hj hI => by
        obtain ⟨x2, x3, x4, x5, rfl⟩ := hI
        refine ⟨_, rfl, ?_⟩
        unfold M300b1
        push_cast [Fam.ix2]
        obtain ⟨e', h1, b', x4', x5', rfl, hb'⟩ := forT_inv (dat := Var.dat) (tg := tgN 4) (b := M300b0 C) (xs := f.vars)
          (fun pre e => ∃ (b : Bool) (x4 x5 : Option W), e = [some (.d f.dat), some (.l ((foldW pre (SW f j)).map wD)), some (.d (.int (j : Int))), some (.d (.bool b)), x4, x5, none] ∧ (b = false → foldW pre (SW f j) = SW f j))
          (e := [some (.d f.dat), some (.l ((SW f j).map wD)), some (.d (.int (j : Int))), some (.d (.bool false)), x4, x5, none])
          ⟨_, _, _, rfl, fun _ => rfl⟩ (fun pre v post e hx hI => by
            obtain ⟨b, x4, x5, rfl, hb⟩ := hI
            have es : foldW (pre ++ [v]) (SW f j) = wStep (foldW pre (SW f j)) (foldW pre (SW f j)) v := by
              unfold foldW; rw [List.foldl_append]; rfl
            refine ⟨_, rfl, (lws_b0 C h299 f hf v (by rw [hx]; simp) _ (by rw [fw_len]; exact SW_len hpl j) b _ x5).mono fun o e q => ?_⟩
            obtain ⟨rfl, b', x5', rfl, hb'⟩ := q
            refine ⟨.inl rfl, b', some (.d v.dat), x5', by rw [es], fun h => ?_⟩
            obtain ⟨h1, h2⟩ := hb' h
            rw [es, h2, hb h1])
        rw [h1]
        have ht : foldW f.vars (SW f j) = turnW f (SW f j) := rfl
        rw [ht] at hb' ⊢
        cases b' with
        | true =>
          push_cast []
          exact .inl ⟨by simp, _, _, _, _, rfl⟩
        | false =>
          push_cast []
          have hsz : SW f j = f.lw := SW_done hpl hj (hb' rfl)
          rw [hb' rfl, hsz]
          exact .inr ⟨by trivial, _, _, _, _, rfl⟩)
    rw [h1]
    have fin : ∃ (x2 x3 x4 x5 : Option W), e' = [some (.d f.dat), some (.l (f.lw.map wD)), x2, x3, x4, x5, none] := by
      rcases hI with ⟨x2, x3, x4, x5, rfl⟩ | h
      · refine ⟨x2, x3, x4, x5, ?_⟩
        have : SW f (f.count + 1) = f.lw := SW_last hpl
        rw [this]
      · exact h
    obtain ⟨x2, x3, x4, x5, rfl⟩ := fin
    push_cast []
    exact ⟨rfl, by trivial⟩
  obtain ⟨w, o, h, rfl, rfl⟩ := run
  exact h
/-- least_prices -/
theorem lps_ok (C : Orc) (f : Fam) (hl : f.lw.length ≤ 1000) (h94 : C 94 [.d f.dat] = .ok (.d (.tuple (f.lw.map wD))) []) : F298 C [.d f.dat] = .ok (.d (tabD false f.lp)) [] := by
  have run : WpC (F298 C [.d f.dat]) fun w o => w = .d (tabD false f.lp) ∧ o = [] := by
    refine wpC_run (m := M298 C) rfl rfl rfl ?_
    simp only [List.map_cons, List.map_nil, List.cons_append, List.nil_append, List.replicate]
    unfold M298
    push_cast [h94]
    rw [cmpT_map (f := fun z : Wt => priceD (z.map Prod.fst)) (fun z hz => ⟨_, rfl, by
      cases z with
      | none =>
        push_cast [wnone]
        exact ⟨rfl, by trivial⟩
      | some q =>
        push_cast [wD_some]
        exact ⟨rfl, by trivial⟩⟩)]
    push_cast []
    refine ⟨?_, by trivial⟩
    unfold Fam.lp prs
    rw [tabD_t, List.map_map]
    rfl
  obtain ⟨w, o, h, rfl, rfl⟩ := run
  exact h
end Mi
set_option Elab.async false
set_option linter.all false
set_option maxRecDepth 100000
set_option maxHeartbeats 4000000
namespace Mi
open PySem L2
local macro_rules | `(tactic| push_cast [$hs,*]) => `(tactic| simp -implicitDefEqProofs (disch := first | omega | (simp only [rng_len, List.length_map, List.length_append, List.length_range, List.length_replicate, List.length_cons, List.length_nil, List.length_set, List.length_reverse, List.length_zipIdx]; omega)) only [ev_seq, ev_if, ev_ifE, ev_nx, ev_bk, ev_ct, ev_E, ev_set, ev_tg, ev_ret, ev_retO, ev_retN, ev_put, ev_for, ev_C, ev_V, ev_vr, ev_ex, ev_o1, ev_o2, ev_t2, ev_tru, ev_and, ev_or, ev_not, ev_yes, ev_andE, ev_orE, ev_notE, ev_LN, ev_LC, ev_B, ev_TN, ev_TC, ev_tup, ev_lst, ev_GN, ev_GV, ev_GR, ev_call, ev_mu, ev_lc, ev_any, ev_r1, ev_r2, ev_rep, kS_nx, kS_bk, kS_ct, kS_rt, kIf_t, kIf_f, kM_ok, kSet_ok, kAnd_t, kAnd_f, kOr_t, kOr_f, kAndE_t, kAndE_f, kOrE_t, kOrE_f, kNotE_b, oVr_s, kO2_ok, kO2'_ok, g2_ss, gv_l, gv_r, kL_ok, kL'_ok, kB_ok, gB_s, gvL_n, gvL_c, kV_ss, kT_ok, kT'_ok, kG_ok, kG'_ok, gG_l, gG_t, gG_d, kC_ok, kC1_s, kC2_ok, kP_s, take_n, take_l, take_r, put_n, put_l, put_r, pt1_s, kPut1_ok, kPut2_ok, isL_l, kMu_ok, kFor_ok, kSeqI_l, kSeqI_l', kSeqI_t, kR2_ok, kRep_ok, rV_d, rV_l, cont_n, cont_c, ct1_s, wp_ok, wpC_ok, atI_0, atI_1, atI_2, atI_3, fIx_l, fIx_t, List.length_cons, List.length_nil, Nat.zero_add, Nat.reduceAdd, Int.reduceLT, Int.reduceLE, Int.reduceAdd, Int.reduceMul, Int.reduceToNat, Int.reduceNeg, Int.reduceSub, Nat.reduceLT, Nat.reduceLeDiff, Nat.reduceMul, gt_iff_lt, ge_iff_le, ixN_4_0, ixN_4_1, ixN_4_2, ixN_4_3, wipe_n, wipe_c, tgN_r, tgT_r, tgL_n, tgL_c, ofO_some, vw_d, vw_l, fAddI_int, fSub_int, fNeg_int, fMod_p, fMul_31, fMul_48271, fMul_69621, fPow18, fPow9, cCmp_int, cEq_int, cNe_int, cEq_str, cNe_str, cOrd_int, ev_aug, kAug_ok, ev_en, kEn_t, fIs_int, fIs_bool, fIs_none, fIs_str, fIs_list, fIs_tuple, isTy_int_int, isTy_int_bool, isTy_tuple_tuple, cIs_none, cIsNot_none, isNone_none, isNone_int, isNone_str, isNone_tuple, isNone_list, isNone_bool, truD_l, truD_t, truD_b, truD_n, bLen_l, bLen_t, bAbs_int, bInt_int, bMax_int, bMin_int, bList_l, bList_t, bTuple_l, bTuple_t, Option.map_some, Option.bind_some, List.getD_cons_zero, List.getD_cons_succ, List.set_cons_zero, List.set_cons_succ, if_true, if_false, lB, ↓reduceIte, Bool.not_true, Bool.not_false, kO1_ok, g1_s, kTru_ok, vf_d, vf_l, tk1_s, tkW_s, isO_l, isO_t, kF_ok, endF_r, endF_n, kF_ex, endX_s, rV_t, lpos_n, lpos_l, lpos_t, lpos_d, fAdd_int, ev_pN, ev_pS, kP1_i, ev_sl, kSl_ok, kSl2_ok, kSl3_ok, fSl_l, fSl_t, fRev_l, fRev_t, kR1_c, kR1_n, kR2_c, kLc_c, kRep2_n, gPut_n, gPut_c, gMu_app, rep_n, vw_d, List.length_map, List.length_range, rng_len, Int.toNat_natCast, beq_self_eq_true, Bool.not_true, Bool.not_false, Option.isNone_none, Option.isNone_some, decide_true, decide_false, ev_forN, List.isEmpty_nil, List.isEmpty_cons, kTg_2, kTg_3, ev_mv, gMv_s, ev_rvA, kRvA_t, kRvA_d, kRvA_l, ev_g1, kg1_i, ev_g2, kg2a_i, kg2_i, fNotT_l, fNotT_b, ev_tupR, ev_lstR, kTupR_s, kLstR_s, ev_rvR, kRvR_s, $hs,*])
def M89b0 (C : Orc) : MS :=
 (sSeq (sIf (tOr' (tNot' (tTru (.vr 4))) (tOr' (tO2 cLt (.vr 5) (.ex (eC (.int 0)))) (tO2 cGe (.vr 5) (.ex (eB bLen [(.vr 3)])))))
 (sRet (eC (.bool false)))
 sNx)
 (sSeq (sTg (tgT [(tgN 6), (tgN 7), (tgN 8)]) (eO2 fIx (.vr 3) (.vr 5)))
 (sSeq (sIf (tOr' (tO2 cIs (.vr 8) (.ex (eC .none))) (tO2 cNe (.vr 6) (.ex (eMu mPop 4 []))))
 (sRet (eC (.bool false)))
 sNx)
 (sE (eMu mExt 4 [(eO1 fRev (.vr 7))])))))
/-- is_tree -/
def M89 (C : Orc) : MS :=
 (sSeq (sSet 3 (eO2 fIx (.vr 0) (.ex (eC (.int 2)))))
 (sSeq (sSet 4 (eLst [(eV 1)]))
 (sSeq (sFor (iAny (eV 2)) (tgN 5)
 (M89b0 C))
 (sRet (eO2 (lB cEq) (.vr 4) (.ex (eLst [])))))))
def F89 (C : Orc) : List W → CRes := runF 3 9 [[]] (M89 C)
/-- is_product -/
def M90 (C : Orc) : MS :=
 (sRet (eB bAny [(.ex (eLc (iAny (eO2 fIx (.vr 0) (.ex (eC (.int 1))))) (tgN 2) mYes (eCall C 89 [.vl (eV 0), .vl (eV 2), .vl (eV 1)]) [2]))]))
def F90 (C : Orc) : List W → CRes := runF 2 3 [[]] (M90 C)
def M91b0 (C : Orc) : MS :=
 (sE (eMu mApp 3 [(eV 7)]))
def M91b1 (C : Orc) : MS :=
 (sSeq (sIf (tOr' (tNot' (tTru (.vr 3))) (tOr' (tO2 cLt (.vr 4) (.ex (eC (.int 0)))) (tO2 cGe (.vr 4) (.ex (eB bLen [(.ex (eO2 fIx (.vr 0) (.ex (eC (.int 2)))))])))))
 (sRet (eC (.bool false)))
 sNx)
 (sSeq (sSet 5 (eO2 fIx (.ex (eO2 fIx (.vr 0) (.ex (eC (.int 2))))) (.vr 4)))
 (sSeq (sSet 6 (eMu mPop 3 []))
 (sSeq (sIf (tOr' (tO2 cIs (.ex (eO2 fIx (.vr 5) (.ex (eC (.int 2))))) (.ex (eC .none))) (tO2 cNe (.ex (eO2 fIx (.vr 5) (.ex (eC (.int 0))))) (.vr 6)))
 (sRet (eC (.bool false)))
 sNx)
 (sFor (iRvA (eO2 fIx (.vr 5) (.ex (eC (.int 1))))) (tgN 7)
 (M91b0 C))))))
/-- _law_fits -/
def M91 (C : Orc) : MS :=
 (sSeq (sSet 3 (eLst [(eV 1)]))
 (sSeq (sFor (iAny (eV 2)) (tgN 4)
 (M91b1 C))
 (sRet (eO1 fNotT (.vr 3)))))
def F91 (C : Orc) : List W → CRes := runF 3 8 [[]] (M91 C)
def runT (f : Fam) : List Nat → List Int → Bool
  | st, [] => st.isEmpty
  | [], _ :: _ => false
  | g :: st, n :: ns => if n < 0 then false else match f.vars[n.toNat]? with
    | none => false
    | some v => if v.price.isNone = true ∨ v.plug ≠ g then false else runT f (v.slots ++ st) ns
def isT (f : Fam) (s : Nat) (ns : List Int) : Bool := runT f [s] ns
theorem nat_rev' (st : List Nat) (g : Nat) : (g :: st).reverse.map natD = st.reverse.map natD ++ [natD g] := by
  rw [List.reverse_cons, List.map_append]; rfl
/-- numbers as data, in a tuple or a list -/
def numD (k : Bool) (ns : List Int) : D := if k then .list (ns.map PyData.int) else .tuple (ns.map PyData.int)
theorem rn_nil {f : Fam} {n : Int} {ns : List Int} : runT f [] (n :: ns) = false := rfl
theorem rn_neg {f : Fam} {g : Nat} {st : List Nat} {n : Int} {ns : List Int} (h : n < 0) : runT f (g :: st) (n :: ns) = false := by
  show (if n < 0 then false else _) = false
  rw [if_pos h]
theorem rn_big {f : Fam} {g : Nat} {st : List Nat} {n : Int} {ns : List Int} (h : (f.vars.length : Int) ≤ n) : runT f (g :: st) (n :: ns) = false := by
  show (if n < 0 then false else match f.vars[n.toNat]? with | none => false | some v => _) = false
  rw [List.getElem?_eq_none (by omega)]
  split <;> rfl
theorem rn_no {f : Fam} {g : Nat} {st : List Nat} {n : Nat} {ns : List Int} {v : Var} (hv : f.vars[n]? = some v) (h : v.price.isNone = true ∨ v.plug ≠ g) : runT f (g :: st) ((n : Int) :: ns) = false := by
  show (if (n : Int) < 0 then false else match f.vars[(n : Int).toNat]? with | none => false | some v => _) = false
  rw [if_neg (by omega), Int.toNat_natCast, hv]
  exact if_pos h
theorem rn_yes {f : Fam} {g : Nat} {st : List Nat} {n : Nat} {ns : List Int} {v : Var} (hv : f.vars[n]? = some v) (h : ¬ (v.price.isNone = true ∨ v.plug ≠ g)) : runT f (g :: st) ((n : Int) :: ns) = runT f (v.slots ++ st) ns := by
  show (if (n : Int) < 0 then false else match f.vars[(n : Int).toNat]? with | none => false | some v => _) = _
  rw [if_neg (by omega), Int.toNat_natCast, hv]
  exact if_neg h
theorem app_ne' {xs : List D} {x : D} : (xs ++ [x]).isEmpty = false := by cases xs <;> rfl
theorem fits_ok (C : Orc) (f : Fam) (hs3 : ∀ v ∈ f.vars, v.slots.length ≤ 3) (s : Nat) (ns : List Int) (k : Bool) (hl : ns.length ≤ 1000) : F91 C [.d f.dat, .d (.int (s : Int)), .d (numD k ns)] = .ok (.d (.bool (isT f s ns))) [] := by
  have run : WpC (F91 C [.d f.dat, .d (.int (s : Int)), .d (numD k ns)]) fun w o => w = .d (.bool (isT f s ns)) ∧ o = [] := by
    refine wpC_run (m := M91 C) rfl rfl rfl ?_
    simp only [List.map_cons, List.map_nil, List.cons_append, List.nil_append, List.replicate]
    unfold M91
    have step : (∃ e', forL (tgN 4) (M91b1 C) (ns.map PyData.int) [some (.d f.dat), some (.d (.int (s : Int))), some (.d (numD k ns)), some (.l [PyData.int (s : Int)]), none, none, none, none] = .ok .nx e' ∧
          ∃ (st : List Nat) (x4 x5 x6 x7 : Option W), e' = [some (.d f.dat), some (.d (.int (s : Int))), some (.d (numD k ns)), some (.l (st.reverse.map natD)), x4, x5, x6, x7] ∧ isT f s ns = st.isEmpty) ∨
        ∃ w e', forL (tgN 4) (M91b1 C) (ns.map PyData.int) [some (.d f.dat), some (.d (.int (s : Int))), some (.d (numD k ns)), some (.l [PyData.int (s : Int)]), none, none, none, none] = .ok (.rt w) e' ∧ w = .d (.bool false) ∧ isT f s ns = false := by
      rcases forT_rt (dat := PyData.int) (tg := tgN 4) (b := M91b1 C) (xs := ns)
        (fun pre e => ∃ (st : List Nat) (x4 x5 x6 x7 : Option W), e = [some (.d f.dat), some (.d (.int (s : Int))), some (.d (numD k ns)), some (.l (st.reverse.map natD)), x4, x5, x6, x7] ∧ st.length ≤ 1 + 3 * pre.length ∧ ∀ post, ns = pre ++ post → isT f s ns = runT f st post)
        (fun w _ => w = .d (.bool false) ∧ isT f s ns = false)
        (e := [some (.d f.dat), some (.d (.int (s : Int))), some (.d (numD k ns)), some (.l [PyData.int (s : Int)]), none, none, none, none]) ⟨[s], none, none, none, none, rfl, by simp, fun post h => by rw [h]; rfl⟩ (fun pre n post e hx hI => by
          obtain ⟨st, x4, x5, x6, x7, rfl, hst, hr⟩ := hI
          have hr := hr _ hx
          have hpl := congrArg List.length hx
          rw [List.length_append, List.length_cons] at hpl
          refine ⟨_, rfl, ?_⟩
          cases st with
          | nil =>
            unfold M91b1
            push_cast [List.reverse_nil, List.map_nil]
            exact .inr ⟨_, rfl, rfl, by rw [hr, rn_nil]⟩
          | cons g st =>
            unfold M91b1
            rw [nat_rev']
            push_cast [app_ne', Fam.ix2]
            by_cases h0 : n < 0
            · push_cast [decide_eq_true h0]
              exact .inr ⟨_, rfl, rfl, by rw [hr, rn_neg h0]⟩
            · by_cases h1 : (f.vars.length : Int) ≤ n
              · push_cast [decide_eq_false h0, decide_eq_true h1, Fam.ix2]
                exact .inr ⟨_, rfl, rfl, by rw [hr, rn_big h1]⟩
              · obtain ⟨m, rfl⟩ : ∃ m : Nat, n = (m : Int) := ⟨n.toNat, by omega⟩
                have hv : f.vars[m]? = some f.vars[m] := List.getElem?_eq_getElem (by omega)
                have hm : f.vars[m] ∈ f.vars := List.getElem_mem _
                generalize f.vars[m] = v at hv hm
                push_cast [decide_eq_false h0, decide_eq_false h1, Fam.ix2, atI_mn, hv, Option.map_some, gMu_pop, Var.ix2, isNone_pd]
                by_cases hno : v.price.isNone = true ∨ v.plug ≠ g
                · have hres := rn_no (st := st) (ns := post) hv hno
                  cases hpr : v.price with
                  | none =>
                    push_cast []
                    exact .inr ⟨_, rfl, rfl, by rw [hr, hres]⟩
                  | some p =>
                    rw [hpr] at hno
                    have hpg : v.plug ≠ g := by simpa using hno
                    push_cast [Var.ix0, natD_eq, show ((v.plug : Int) == (g : Int)) = false by rw [beq_eq_false_iff_ne]; omega]
                    exact .inr ⟨_, rfl, rfl, by rw [hr, hres]⟩
                · have hres := rn_yes (st := st) (ns := post) hv hno
                  have hsl := hs3 v hm
                  have hpg : v.plug = g := by
                    rcases Decidable.em (v.plug = g) with h | h
                    · exact h
                    · exact absurd (.inr h) hno
                  have hpn : v.price.isNone = false := by
                    cases hq : v.price.isNone with
                    | false => rfl
                    | true => exact absurd (.inl hq) hno
                  simp only [List.length_cons] at hst
                  rw [hpn]
                  push_cast [Var.ix0, natD_eq, show ((v.plug : Int) == (g : Int)) = true by rw [hpg]; exact beq_self_eq_true _, Var.ix1, ← List.map_reverse]
                  obtain ⟨e', h3, x7', rfl⟩ := forT_inv (dat := natD) (tg := tgN 7) (b := M91b0 C) (xs := v.slots.reverse)
                    (fun pr e => ∃ x7, e = [some (.d f.dat), some (.d (.int (s : Int))), some (.d (numD k ns)), some (.l ((st.reverse ++ pr).map natD)), some (.d (.int (m : Int))), some (.d v.dat), some (.d (.int (g : Int))), x7])
                    (e := [some (.d f.dat), some (.d (.int (s : Int))), some (.d (numD k ns)), some (.l (st.reverse.map natD)), some (.d (.int (m : Int))), some (.d v.dat), some (.d (.int (g : Int))), x7]) ⟨_, by rw [List.append_nil]⟩ (fun pr z po e hx2 hI => by
                      obtain ⟨x7, rfl⟩ := hI
                      refine ⟨_, rfl, ?_⟩
                      have hpl := congrArg List.length hx2
                      rw [List.length_reverse, List.length_append, List.length_cons] at hpl
                      unfold M91b0
                      push_cast []
                      refine ⟨by simp, some (.d (natD z)), ?_⟩
                      rw [← List.append_assoc, List.map_append (l₁ := st.reverse ++ pr)]; rfl)
                  rw [h3, show st.reverse ++ v.slots.reverse = (v.slots ++ st).reverse by rw [List.reverse_append]]
                  push_cast []
                  refine .inl ⟨by simp, v.slots ++ st, _, _, _, x7', rfl, ?_, fun post' h' => ?_⟩
                  · simp only [List.length_append, List.length_cons, List.length_nil]; omega
                  · rw [hx, List.append_assoc, List.append_cancel_left_eq] at h'
                    cases h'
                    rw [hr, hres]; rfl) with ⟨e', h1, st, x4, x5, x6, x7, rfl, _, hr⟩ | h
      · exact .inl ⟨_, h1, st, x4, x5, x6, x7, rfl, hr [] (by simp)⟩
      · exact .inr h
    have seq : ∃ e1, iAny (eV 2) [some (.d f.dat), some (.d (.int (s : Int))), some (.d (numD k ns)), some (.l [PyData.int (s : Int)]), none, none, none, none] = .ok (ns.map PyData.int) e1 ∧ e1 = [some (.d f.dat), some (.d (.int (s : Int))), some (.d (numD k ns)), some (.l [PyData.int (s : Int)]), none, none, none, none] := by
      cases k <;> exact ⟨_, rfl, rfl⟩
    obtain ⟨_, seq, rfl⟩ := seq
    rw [sSeq_step (e' := [some (.d f.dat), some (.d (.int (s : Int))), some (.d (numD k ns)), some (.l [PyData.int (s : Int)]), none, none, none, none]) (by push_cast [])]
    have hfor : ∀ e, sFor (iAny (eV 2)) (tgN 4) (M91b1 C) e = bnd (iAny (eV 2) e) fun xs e1 => forL (tgN 4) (M91b1 C) xs e1 := fun _ => rfl
    rcases step with ⟨e', h1, st, x4, x5, x6, x7, rfl, hr⟩ | ⟨w, e', h1, rfl, hr⟩
    · rw [sSeq_step (e' := [some (.d f.dat), some (.d (.int (s : Int))), some (.d (numD k ns)), some (.l (st.reverse.map natD)), x4, x5, x6, x7]) (by rw [hfor, seq]; exact h1)]
      push_cast [hr]
      cases st with
      | nil => exact ⟨rfl, by trivial⟩
      | cons g st =>
        rw [nat_rev']
        push_cast [app_ne']
        trivial
    · have e2 : ∀ r : MS, sSeq (sFor (iAny (eV 2)) (tgN 4) (M91b1 C)) r [some (.d f.dat), some (.d (.int (s : Int))), some (.d (numD k ns)), some (.l [PyData.int (s : Int)]), none, none, none, none] = .ok (.rt (.d (.bool false))) e' := fun r => by
        unfold sSeq
        rw [hfor, seq]
        show bnd (forL _ _ _ _) _ = _
        rw [h1]; rfl
      rw [e2, hr]
      push_cast []
      trivial
  obtain ⟨w, o, h, rfl, rfl⟩ := run
  exact h
theorem gMu_extT {i : Nat} {xs ys : List D} {e : Env} (h : xs.length + ys.length ≤ 16777216) : gMu mExt i [.tuple ys] e (some (.l xs)) = .ok (.d .none) (e.set i (some (.l (xs ++ ys)))) := gMu_s (mExt_t h)
theorem sh_nats (st : List Nat) : Sh (.list (st.map natD)) := by
  constructor
  · unfold SeqAt.shaped
    rw [Bool.and_eq_true]
    constructor
    · simp only [PyData.canLay0]
      induction st with
      | nil => rfl
      | cons z zs ih => simp only [List.map_cons, PyData.canLayAll0, natD, PyData.canLay0, ih, Bool.and_self]
    · have : PyData.depthAll (st.map natD) = 0 := by
        induction st with
        | nil => simp [PyData.depthAll]
        | cons z zs ih => simp only [List.map_cons, PyData.depthAll, natD, PyData.depth, ih, Nat.max_self]
      simp only [PyData.depth, this]
      decide
  · simp only [noD]
    induction st with
    | nil => rfl
    | cons z zs ih => simp only [List.map_cons, noDs, ih, Bool.and_true, natD, noD]
theorem cEq_nats_nil (st : List Nat) : cEq (.list (st.map natD)) (.list []) = some st.isEmpty := by
  rw [cEq_sh (sh_nats st) (show Sh (.list []) from sh_nats [])]
  cases st with
  | nil => rfl
  | cons g st => simp [PyData.eqv, PyData.eqvAll]
theorem is_tree_ok (C : Orc) (f : Fam) (hs3 : ∀ v ∈ f.vars, v.slots.length ≤ 3) (s : Nat) (ns : List Int) (k : Bool) (hl : ns.length ≤ 1000) : F89 C [.d f.dat, .d (.int (s : Int)), .d (numD k ns)] = .ok (.d (.bool (isT f s ns))) [] := by
  have run : WpC (F89 C [.d f.dat, .d (.int (s : Int)), .d (numD k ns)]) fun w o => w = .d (.bool (isT f s ns)) ∧ o = [] := by
    refine wpC_run (m := M89 C) rfl rfl rfl ?_
    simp only [List.map_cons, List.map_nil, List.cons_append, List.nil_append, List.replicate]
    unfold M89
    have step : (∃ e', forL (tgN 5) (M89b0 C) (ns.map PyData.int) [some (.d f.dat), some (.d (.int (s : Int))), some (.d (numD k ns)), some (.d (.tuple (f.vars.map Var.dat))), some (.l ([PyData.int (s : Int)])), none, none, none, none] = .ok .nx e' ∧
          ∃ (st : List Nat) (x5 x6 x7 x8 : Option W), e' = [some (.d f.dat), some (.d (.int (s : Int))), some (.d (numD k ns)), some (.d (.tuple (f.vars.map Var.dat))), some (.l (st.reverse.map natD)), x5, x6, x7, x8] ∧ isT f s ns = st.isEmpty) ∨
        ∃ w e', forL (tgN 5) (M89b0 C) (ns.map PyData.int) [some (.d f.dat), some (.d (.int (s : Int))), some (.d (numD k ns)), some (.d (.tuple (f.vars.map Var.dat))), some (.l ([PyData.int (s : Int)])), none, none, none, none] = .ok (.rt w) e' ∧ w = .d (.bool false) ∧ isT f s ns = false := by
      rcases forT_rt (dat := PyData.int) (tg := tgN 5) (b := M89b0 C) (xs := ns)
        (fun pre e => ∃ (st : List Nat) (x5 x6 x7 x8 : Option W), e = [some (.d f.dat), some (.d (.int (s : Int))), some (.d (numD k ns)), some (.d (.tuple (f.vars.map Var.dat))), some (.l (st.reverse.map natD)), x5, x6, x7, x8] ∧ st.length ≤ 1 + 3 * pre.length ∧ ∀ post, ns = pre ++ post → isT f s ns = runT f st post)
        (fun w _ => w = .d (.bool false) ∧ isT f s ns = false)
        (e := [some (.d f.dat), some (.d (.int (s : Int))), some (.d (numD k ns)), some (.d (.tuple (f.vars.map Var.dat))), some (.l ([PyData.int (s : Int)])), none, none, none, none]) ⟨[s], none, none, none, none, rfl, by simp, fun post h => by rw [h]; rfl⟩ (fun pre n post e hx hI => by
          obtain ⟨st, x5, x6, x7, x8, rfl, hst, hr⟩ := hI
          have hr := hr _ hx
          have hpl := congrArg List.length hx
          rw [List.length_append, List.length_cons] at hpl
          refine ⟨_, rfl, ?_⟩
          cases st with
          | nil =>
            unfold M89b0
            push_cast [List.reverse_nil, List.map_nil]
            exact .inr ⟨_, rfl, rfl, by rw [hr, rn_nil]⟩
          | cons g st =>
            unfold M89b0
            rw [nat_rev']
            push_cast [app_ne']
            by_cases h0 : n < 0
            · push_cast [decide_eq_true h0]
              exact .inr ⟨_, rfl, rfl, by rw [hr, rn_neg h0]⟩
            · by_cases h1 : (f.vars.length : Int) ≤ n
              · push_cast [decide_eq_false h0, decide_eq_true h1, List.length_map]
                exact .inr ⟨_, rfl, rfl, by rw [hr, rn_big h1]⟩
              · obtain ⟨m, rfl⟩ : ∃ m : Nat, n = (m : Int) := ⟨n.toNat, by omega⟩
                have hv : f.vars[m]? = some f.vars[m] := List.getElem?_eq_getElem (by omega)
                have hm : f.vars[m] ∈ f.vars := List.getElem_mem _
                generalize f.vars[m] = v at hv hm
                push_cast [decide_eq_false h0, decide_eq_false h1, List.length_map, atI_mn, hv, Option.map_some, Var.dat]
                by_cases hno : v.price.isNone = true ∨ v.plug ≠ g
                · have hres := rn_no (st := st) (ns := post) hv hno
                  cases hpr : v.price with
                  | none =>
                    push_cast [priceD_none]
                    exact .inr ⟨_, rfl, rfl, by rw [hr, hres]⟩
                  | some p =>
                    rw [hpr] at hno
                    have hpg : v.plug ≠ g := by simpa using hno
                    push_cast [priceD_some, gMu_pop, natD_eq, show ((v.plug : Int) == (g : Int)) = false by rw [beq_eq_false_iff_ne]; omega]
                    exact .inr ⟨_, rfl, rfl, by rw [hr, hres]⟩
                · have hres := rn_yes (st := st) (ns := post) hv hno
                  have hsl := hs3 v hm
                  have hpg : v.plug = g := by
                    rcases Decidable.em (v.plug = g) with h | h
                    · exact h
                    · exact absurd (.inr h) hno
                  obtain ⟨p, hpr⟩ : ∃ p, v.price = some p := by
                    cases hq : v.price with
                    | some p => exact ⟨p, rfl⟩
                    | none => exact absurd (.inl (by rw [hq]; rfl)) hno
                  simp only [List.length_cons] at hst
                  rw [hpr]
                  push_cast [priceD_some, gMu_pop, natD_eq, show ((v.plug : Int) == (g : Int)) = true by rw [hpg]; exact beq_self_eq_true _, ← List.map_reverse]
                  push_cast [gMu_extT]
                  refine .inl ⟨by simp, v.slots ++ st, some (.d (.int (m : Int))), some (.d (.int (v.plug : Int))), some (.d (.tuple (v.slots.map natD))), some (.d (.int p)), ?_, ?_, fun post' h' => ?_⟩
                  · rw [List.reverse_append, List.map_append]
                  · simp only [List.length_append, List.length_cons, List.length_nil]; omega
                  · rw [hx, List.append_assoc, List.append_cancel_left_eq] at h'
                    cases h'
                    rw [hr, hres]; rfl) with ⟨e', h1, st, x5, x6, x7, x8, rfl, _, hr⟩ | h
      · exact .inl ⟨_, h1, st, x5, x6, x7, x8, rfl, hr [] (by simp)⟩
      · exact .inr h
    have seq : ∃ e1, iAny (eV 2) [some (.d f.dat), some (.d (.int (s : Int))), some (.d (numD k ns)), some (.d (.tuple (f.vars.map Var.dat))), some (.l ([PyData.int (s : Int)])), none, none, none, none] = .ok (ns.map PyData.int) e1 ∧ e1 = [some (.d f.dat), some (.d (.int (s : Int))), some (.d (numD k ns)), some (.d (.tuple (f.vars.map Var.dat))), some (.l ([PyData.int (s : Int)])), none, none, none, none] := by
      cases k <;> exact ⟨_, rfl, rfl⟩
    obtain ⟨_, seq, rfl⟩ := seq
    rw [sSeq_step (e' := [some (.d f.dat), some (.d (.int (s : Int))), some (.d (numD k ns)), some (.d (.tuple (f.vars.map Var.dat))), none, none, none, none, none]) (by push_cast [Fam.ix2])]
    rw [sSeq_step (e' := [some (.d f.dat), some (.d (.int (s : Int))), some (.d (numD k ns)), some (.d (.tuple (f.vars.map Var.dat))), some (.l ([PyData.int (s : Int)])), none, none, none, none]) (by push_cast [])]
    have hfor : ∀ e, sFor (iAny (eV 2)) (tgN 5) (M89b0 C) e = bnd (iAny (eV 2) e) fun xs e1 => forL (tgN 5) (M89b0 C) xs e1 := fun _ => rfl
    rcases step with ⟨e', h1, st, x5, x6, x7, x8, rfl, hr⟩ | ⟨w, e', h1, rfl, hr⟩
    · rw [sSeq_step (e' := [some (.d f.dat), some (.d (.int (s : Int))), some (.d (numD k ns)), some (.d (.tuple (f.vars.map Var.dat))), some (.l (st.reverse.map natD)), x5, x6, x7, x8]) (by rw [hfor, seq]; exact h1)]
      push_cast [hr, cEq_nats_nil]
      exact ⟨by rw [List.isEmpty_reverse], by trivial⟩
    · have e2 : ∀ r : MS, sSeq (sFor (iAny (eV 2)) (tgN 5) (M89b0 C)) r [some (.d f.dat), some (.d (.int (s : Int))), some (.d (numD k ns)), some (.d (.tuple (f.vars.map Var.dat))), some (.l ([PyData.int (s : Int)])), none, none, none, none] = .ok (.rt (.d (.bool false))) e' := fun r => by
        unfold sSeq
        rw [hfor, seq]
        show bnd (forL _ _ _ _) _ = _
        rw [h1]; rfl
      rw [e2, hr]
      push_cast []
      trivial
  obtain ⟨w, o, h, rfl, rfl⟩ := run
  exact h
theorem is_product_ok (C : Orc) (f : Fam) (ns : List Int) (hr : f.roots.length ≤ 1000) (h89 : ∀ s : Nat, C 89 [.d f.dat, .d (.int (s : Int)), .d (.tuple (ns.map PyData.int))] = .ok (.d (.bool (isT f s ns))) []) : F90 C [.d f.dat, .d (.tuple (ns.map PyData.int))] = .ok (.d (.bool (f.roots.any fun s => isT f s ns))) [] := by
  have run : WpC (F90 C [.d f.dat, .d (.tuple (ns.map PyData.int))]) fun w o => w = .d (.bool (f.roots.any fun s => isT f s ns)) ∧ o = [] := by
    refine wpC_run (m := M90 C) rfl rfl rfl ?_
    simp only [List.map_cons, List.map_nil, List.cons_append, List.nil_append, List.replicate]
    unfold M90
    push_cast [Fam.ix1]
    rw [cmpT_map (f := fun s => PyData.bool (isT f s ns)) (fun s hs => ⟨_, rfl, by
      push_cast [natD_eq, h89]
      exact ⟨by trivial, by trivial⟩⟩)]
    rw [show f.roots.map (fun s => PyData.bool (isT f s ns)) = (f.roots.map fun s => isT f s ns).map PyData.bool by rw [List.map_map]; rfl]
    push_cast [bAny_b]
    refine ⟨?_, by trivial⟩
    rw [List.any_map]; rfl
  obtain ⟨w, o, h, rfl, rfl⟩ := run
  exact h
theorem repr_b (b : Bool) : ∃ s : Str, bRepr [.bool b] = some (.d (.str s)) := by
  cases b
  · exact ⟨_, rfl⟩
  · exact ⟨_, rfl⟩
theorem sh_bools (bs : List Bool) : Sh (.list (bs.map PyData.bool)) := by
  constructor
  · unfold SeqAt.shaped
    rw [Bool.and_eq_true]
    constructor
    · simp only [PyData.canLay0]
      induction bs with
      | nil => rfl
      | cons z zs ih => simp only [List.map_cons, PyData.canLayAll0, PyData.canLay0, ih, Bool.and_self]
    · have : PyData.depthAll (bs.map PyData.bool) = 0 := by
        induction bs with
        | nil => simp [PyData.depthAll]
        | cons z zs ih => simp only [List.map_cons, PyData.depthAll, PyData.depth, ih, Nat.max_self]
      simp only [PyData.depth, this]
      decide
  · simp only [noD]
    induction bs with
    | nil => rfl
    | cons z zs ih => simp only [List.map_cons, noDs, ih, Bool.and_true, noD]
theorem cIn_bools (bs : List Bool) : cIn (.bool true) (.list (bs.map PyData.bool)) = some (bs.any id) := by
  rw [cIn_l ⟨by decide, by decide⟩ (sh_bools bs)]
  congr 1
  rw [List.any_map]
  congr 1
  funext b
  cases b <;> rfl
theorem cmpT_inv {α : Type} {dat : α → D} {tg : Tg} {te : ME} {vs : List Nat} (Inv : List α → List D → Env → Prop) {xs : List α} {e : Env} (h0 : Inv [] [] e)
    (step : ∀ pre x post acc e, xs = pre ++ x :: post → Inv pre acc e → ∃ e0, tg (dat x) e = some e0 ∧ Wp (te e0) fun w e2 => Inv (pre ++ [x]) (acc ++ [vw w]) (wipeE e2 vs)) :
    ∃ ds e', cmpL tg mYes te vs (xs.map dat) e = .ok ds e' ∧ Inv xs ds e' := by
  have main : ∀ (post pre : List α) (acc : List D) (e : Env), xs = pre ++ post → Inv pre acc e → ∃ ds e', cmpL tg mYes te vs (post.map dat) e = .ok ds e' ∧ Inv xs (acc ++ ds) e' := by
    intro post
    induction post with
    | nil => intro pre acc e h i; rw [List.append_nil] at h; subst h; exact ⟨[], e, rfl, by rw [List.append_nil]; exact i⟩
    | cons x post ih =>
      intro pre acc e h i
      obtain ⟨e0, h1, w, e2, h3, i1⟩ := step pre x post acc e h i
      obtain ⟨ds, e', h4, i2⟩ := ih (pre ++ [x]) (acc ++ [vw w]) (wipeE e2 vs) (by rw [h]; simp) i1
      refine ⟨vw w :: ds, e', ?_, by simpa using i2⟩
      rw [List.map_cons, cmpL_c, h1, kc0_s, ev_yes, kc1_t, h3, kc2_ok, h4]
      rfl
  obtain ⟨ds, e', h1, h2⟩ := main xs [] [] e rfl h0
  exact ⟨ds, e', h1, h2⟩
theorem at3i {a b c : Int} {i : Int} (h0 : 0 ≤ i) (h1 : i < 3) : ∃ z, (z = a ∨ z = b ∨ z = c) ∧ atI [PyData.int a, PyData.int b, PyData.int c] i = some (.int z) := by
  rcases at3 (x := PyData.int a) (y := PyData.int b) (z := PyData.int c) h0 h1 with ⟨_, h⟩ | ⟨_, h⟩ | ⟨_, h⟩
  · exact ⟨a, by simp, h⟩
  · exact ⟨b, by simp, h⟩
  · exact ⟨c, by simp, h⟩
theorem at4i {a b c d : Int} {i : Int} (h0 : 0 ≤ i) (h1 : i < 4) : ∃ z, (z = a ∨ z = b ∨ z = c ∨ z = d) ∧ atI [PyData.int a, PyData.int b, PyData.int c, PyData.int d] i = some (.int z) := by
  rcases at4 (x := PyData.int a) (y := PyData.int b) (z := PyData.int c) (u := PyData.int d) h0 h1 with ⟨_, h⟩ | ⟨_, h⟩ | ⟨_, h⟩ | ⟨_, h⟩
  · exact ⟨a, by simp, h⟩
  · exact ⟨b, by simp, h⟩
  · exact ⟨c, by simp, h⟩
  · exact ⟨d, by simp, h⟩
theorem bInt_tt : bInt [.bool true] = some (.d (.int 1)) := Eq.trans rfl rfl
theorem bInt_ff : bInt [.bool false] = some (.d (.int 0)) := Eq.trans rfl rfl
theorem depthAll_ints : ∀ ns : List Int, PyData.depthAll (ns.map PyData.int) = 0
  | [] => by simp [PyData.depthAll]
  | n :: ns => by
    have := depthAll_ints ns
    simp only [List.map_cons, PyData.depthAll, PyData.depth]
    omega
theorem canLay_ints : ∀ ns : List Int, PyData.canLayAll0 (ns.map PyData.int) = true
  | [] => rfl
  | n :: ns => by simp only [List.map_cons, PyData.canLayAll0, PyData.canLay0, canLay_ints ns, Bool.and_self]
theorem noDs_int : ∀ ns : List Int, noDs (ns.map PyData.int) = true
  | [] => rfl
  | n :: ns => by simp only [List.map_cons, noDs, noD, noDs_int ns, Bool.and_self]
theorem sh_ints (ns : List Int) : Sh (.list (ns.map PyData.int)) := by
  constructor
  · unfold SeqAt.shaped
    rw [Bool.and_eq_true]
    exact ⟨by simp only [PyData.canLay0]; exact canLay_ints ns, by simp only [PyData.depth, depthAll_ints ns]; decide⟩
  · simp only [noD]; exact noDs_int ns
theorem sh_none : Sh .none := ⟨by decide, by decide⟩
theorem cIn_none_ints (ns : List Int) : cIn .none (.list (ns.map PyData.int)) = some false := by
  rw [cIn_l sh_none (sh_ints ns)]
  congr 1
  rw [List.any_eq_false]
  intro x hx
  obtain ⟨n, _, rfl⟩ := List.mem_map.mp hx
  simp [PyData.eqv]
theorem cNe_bool (a b : Bool) : cNe (.bool a) (.bool b) = some (!(a == b)) := by cases a <;> cases b <;> rfl
theorem cEq_bool (a b : Bool) : cEq (.bool a) (.bool b) = some (a == b) := by cases a <;> cases b <;> rfl
/-! ### prices of trees by a table -/
theorem prT_bd {f : Fam} {m : Nat} (hp : f.Pr m) : ∀ tr : List Nat, (prT f tr).natAbs ≤ tr.length * m
  | [] => by simp [prT]
  | n :: tr => by
    have ih := prT_bd hp tr
    have hn : (prN f n).natAbs ≤ m := by
      unfold prN
      cases hv : f.vars[n]? with
      | none => simp
      | some v =>
        cases hq : v.price with
        | none => simp [hq]
        | some p =>
          have := hp v (List.mem_of_getElem? hv) p hq
          simpa [hq] using this
    have e : prT f (n :: tr) = prN f n + prT f tr := by simp [prT]
    rw [e, List.length_cons, Nat.succ_mul]
    omega
def tgt (T : Row) (s : Nat) : Int := (T.getD s none).getD 0
def mgN (f : Fam) (T : Row) (n : Nat) : Int := ((f.vars[n]?.bind (·.margin T)).getD 0)
/-- a variant whose slots have prices has one for its plug -/
def Clo (f : Fam) (T : Row) : Prop := ∀ v ∈ f.vars, v.price ≠ none → (∀ s ∈ v.slots, ∃ x, T.getD s none = some x) → ∃ x, T.getD v.plug none = some x
theorem cst_all {T : Row} : ∀ (sl : List Nat) (p : Int), (∀ s ∈ sl, ∃ x, T.getD s none = some x) → cst T (some p) sl = some (p + (sl.map (tgt T)).sum)
  | [], p, _ => by simp [cst_nil]
  | s :: sl, p, h => by
    obtain ⟨x, hx⟩ := h s List.mem_cons_self
    rw [cst_some hx, cst_all sl _ fun z hz => h z (List.mem_cons_of_mem _ hz), List.map_cons, List.sum_cons]
    have : tgt T s = x := by unfold tgt; rw [hx]; rfl
    rw [this]
    congr 1
    omega
theorem tel {f : Fam} {T : Row} (hc : Clo f T) {st tr : List Nat} (h : Fills f st tr) : (∀ s ∈ st, ∃ x, T.getD s none = some x) ∧ (∀ n ∈ tr, ∃ v m, f.vars[n]? = some v ∧ v.margin T = some m) ∧ (st.map (tgt T)).sum + (tr.map (mgN f T)).sum = prT f tr := by
  induction h with
  | nil => exact ⟨fun _ h => (nomatch h), fun _ h => (nomatch h), rfl⟩
  | @cons g st n tr v hv hp hg _ ih =>
    obtain ⟨h1, h2, h3⟩ := ih
    subst hg
    have hs : ∀ s ∈ v.slots, ∃ x, T.getD s none = some x := fun s hs => h1 s (List.mem_append_left _ hs)
    obtain ⟨w, hw⟩ := hc v (List.mem_of_getElem? hv) hp hs
    cases hpr : v.price with
    | none => exact absurd hpr hp
    | some p =>
    have hcost : v.cost T = some (p + (v.slots.map (tgt T)).sum) := by
      unfold Var.cost
      rw [hpr]
      exact cst_all _ _ hs
    have hm := mg_some hcost hw
    refine ⟨fun s hs' => ?_, fun k hk => ?_, ?_⟩
    · rcases List.mem_cons.mp hs' with rfl | hs'
      · exact ⟨w, hw⟩
      · exact h1 s (List.mem_append_right _ hs')
    · rcases List.mem_cons.mp hk with rfl | hk
      · exact ⟨v, _, hv, hm⟩
      · exact h2 k hk
    · have e1 : mgN f T n = p + (v.slots.map (tgt T)).sum - w := by unfold mgN; rw [hv]; show (v.margin T).getD 0 = _; rw [hm]; rfl
      have e2 : tgt T v.plug = w := by unfold tgt; rw [hw]; rfl
      have e3 : prT f (n :: tr) = p + prT f tr := by
        unfold prT
        rw [List.map_cons, List.sum_cons]
        congr 1
        unfold prN
        rw [hv]
        show (v.price).getD 0 = p
        rw [hpr]; rfl
      rw [List.map_append, List.sum_append] at h3
      rw [List.map_cons, List.sum_cons, List.map_cons, List.sum_cons, e1, e2, e3]
      omega
theorem flo_clo {f : Fam} {T : Row} (h : f.Flo T) : Clo f T := fun v hv hp hs => by
  have := h v hv
  cases hpr : v.price with
  | none => exact absurd hpr hp
  | some p =>
    have hcost : v.cost T = some (p + (v.slots.map (tgt T)).sum) := by
      unfold Var.cost
      rw [hpr]
      exact cst_all _ _ hs
    rw [hcost] at this
    cases hq : T.getD v.plug none with
    | none => rw [hq] at this; exact this.elim
    | some x => exact ⟨x, rfl⟩
theorem flo_mg {f : Fam} {T : Row} (h : f.Flo T) {v : Var} (hv : v ∈ f.vars) {m : Int} (hm : v.margin T = some m) : 0 ≤ m := by
  have := h v hv
  unfold Var.margin at hm
  cases hc : v.cost T with
  | none => rw [hc] at hm; cases hm
  | some c =>
    cases hq : T.getD v.plug none with
    | none => rw [hc, hq] at hm; cases hm
    | some w =>
      rw [hc, hq] at hm this
      cases hm
      have : w ≤ c := this
      omega
theorem sum_nn : ∀ {ns : List Int}, (∀ n ∈ ns, 0 ≤ n) → 0 ≤ ns.sum ∧ (ns.sum = 0 → ∀ n ∈ ns, n = 0)
  | [], _ => ⟨by simp, fun _ _ h => by cases h⟩
  | n :: ns, h => by
    obtain ⟨h1, h2⟩ := sum_nn (ns := ns) fun z hz => h z (List.mem_cons_of_mem _ hz)
    have h0 := h n List.mem_cons_self
    rw [List.sum_cons]
    refine ⟨by omega, fun e z hz => ?_⟩
    rcases List.mem_cons.mp hz with rfl | hz
    · omega
    · exact h2 (by omega) z hz
theorem sum_z : ∀ {ns : List Int}, (∀ n ∈ ns, n = 0) → ns.sum = 0
  | [], _ => rfl
  | n :: ns, h => by
    rw [List.sum_cons, h n List.mem_cons_self, sum_z fun z hz => h z (List.mem_cons_of_mem _ hz)]; rfl
end Mi
set_option Elab.async false
set_option linter.all false
set_option maxRecDepth 100000
set_option maxHeartbeats 4000000
namespace Mi
open PySem L2
local macro_rules | `(tactic| push_cast [$hs,*]) => `(tactic| simp -implicitDefEqProofs (disch := first | omega | (simp only [rng_len, List.length_map, List.length_append, List.length_range, List.length_replicate, List.length_cons, List.length_nil, List.length_set, List.length_reverse, List.length_zipIdx]; omega)) only [ev_seq, ev_if, ev_ifE, ev_nx, ev_bk, ev_ct, ev_E, ev_set, ev_tg, ev_ret, ev_retO, ev_retN, ev_put, ev_for, ev_C, ev_V, ev_vr, ev_ex, ev_o1, ev_o2, ev_t2, ev_tru, ev_and, ev_or, ev_not, ev_yes, ev_andE, ev_orE, ev_notE, ev_LN, ev_LC, ev_B, ev_TN, ev_TC, ev_tup, ev_lst, ev_GN, ev_GV, ev_GR, ev_call, ev_mu, ev_lc, ev_any, ev_r1, ev_r2, ev_rep, kS_nx, kS_bk, kS_ct, kS_rt, kIf_t, kIf_f, kM_ok, kSet_ok, kAnd_t, kAnd_f, kOr_t, kOr_f, kAndE_t, kAndE_f, kOrE_t, kOrE_f, kNotE_b, oVr_s, kO2_ok, kO2'_ok, g2_ss, gv_l, gv_r, kL_ok, kL'_ok, kB_ok, gB_s, gvL_n, gvL_c, kV_ss, kT_ok, kT'_ok, kG_ok, kG'_ok, gG_l, gG_t, gG_d, kC_ok, kC1_s, kC2_ok, kP_s, take_n, take_l, take_r, put_n, put_l, put_r, pt1_s, kPut1_ok, kPut2_ok, isL_l, kMu_ok, kFor_ok, kSeqI_l, kSeqI_l', kSeqI_t, kR2_ok, kRep_ok, rV_d, rV_l, cont_n, cont_c, ct1_s, wp_ok, wpC_ok, atI_0, atI_1, atI_2, atI_3, fIx_l, fIx_t, List.length_cons, List.length_nil, Nat.zero_add, Nat.reduceAdd, Int.reduceLT, Int.reduceLE, Int.reduceAdd, Int.reduceMul, Int.reduceToNat, Int.reduceNeg, Int.reduceSub, Nat.reduceLT, Nat.reduceLeDiff, Nat.reduceMul, gt_iff_lt, ge_iff_le, ixN_4_0, ixN_4_1, ixN_4_2, ixN_4_3, wipe_n, wipe_c, tgN_r, tgT_r, tgL_n, tgL_c, ofO_some, vw_d, vw_l, fAddI_int, fSub_int, fNeg_int, fMod_p, fMul_31, fMul_48271, fMul_69621, fPow18, fPow9, cCmp_int, cEq_int, cNe_int, cEq_str, cNe_str, cOrd_int, ev_aug, kAug_ok, ev_en, kEn_t, fIs_int, fIs_bool, fIs_none, fIs_str, fIs_list, fIs_tuple, isTy_int_int, isTy_int_bool, isTy_tuple_tuple, cIs_none, cIsNot_none, isNone_none, isNone_int, isNone_str, isNone_tuple, isNone_list, isNone_bool, truD_l, truD_t, truD_b, truD_n, bLen_l, bLen_t, bAbs_int, bInt_int, bMax_int, bMin_int, bList_l, bList_t, bTuple_l, bTuple_t, Option.map_some, Option.bind_some, List.getD_cons_zero, List.getD_cons_succ, List.set_cons_zero, List.set_cons_succ, if_true, if_false, lB, ↓reduceIte, Bool.not_true, Bool.not_false, kO1_ok, g1_s, kTru_ok, vf_d, vf_l, tk1_s, tkW_s, isO_l, isO_t, kF_ok, endF_r, endF_n, kF_ex, endX_s, rV_t, lpos_n, lpos_l, lpos_t, lpos_d, fAdd_int, ev_pN, ev_pS, kP1_i, ev_sl, kSl_ok, kSl2_ok, kSl3_ok, fSl_l, fSl_t, fRev_l, fRev_t, kR1_c, kR1_n, kR2_c, kLc_c, kRep2_n, gPut_n, gPut_c, gMu_app, rep_n, vw_d, List.length_map, List.length_range, rng_len, Int.toNat_natCast, beq_self_eq_true, Bool.not_true, Bool.not_false, Option.isNone_none, Option.isNone_some, decide_true, decide_false, ev_forN, List.isEmpty_nil, List.isEmpty_cons, kTg_2, kTg_3, ev_mv, gMv_s, ev_rvA, kRvA_t, kRvA_d, kRvA_l, ev_g1, kg1_i, ev_g2, kg2a_i, kg2_i, fNotT_l, fNotT_b, ev_tupR, ev_lstR, kTupR_s, kLstR_s, ev_rvR, kRvR_s, $hs,*])
/-- cost_with -/
def M0 (C : Orc) : MS :=
 (sSeq (sIf (tOr' (tO2 cIs (.vr 0) (.ex (eC .none))) (tO2 cIn (.ex (eC .none)) (.vr 1)))
 (sRet (eC .none))
 sNx)
 (sSeq (sIf (tO2 cIn (.ex (eC (.str "unbounded"))) (.vr 1))
 (sRet (eC (.str "unbounded")))
 sNx)
 (sRet (eO2 fAddI (.vr 0) (.ex (eB bSum [(.vr 1)]))))))
def F0 (C : Orc) : List W → CRes := runF 2 2 [[]] (M0 C)
/-- cost_by -/
def M1 (C : Orc) : MS :=
 (sRet (eCall C 0 [.vl (eO2 fIx (.vr 0) (.ex (eC (.int 2)))), .vl (eLc (iAny (eO2 fIx (.vr 0) (.ex (eC (.int 1))))) (tgN 2) mYes (eO2 fIx (.vr 1) (.vr 2)) [2])]))
def F1 (C : Orc) : List W → CRes := runF 2 3 [[]] (M1 C)
/-- is_greater -/
def M2 (C : Orc) : MS :=
 (sSeq (sIf (tOr' (tO2 cIs (.vr 0) (.ex (eC .none))) (tO2 cEq (.vr 1) (.ex (eC (.str "unbounded")))))
 (sRet (eC (.bool false)))
 sNx)
 (sSeq (sIf (tOr' (tO2 cIs (.vr 1) (.ex (eC .none))) (tO2 cEq (.vr 0) (.ex (eC (.str "unbounded")))))
 (sRet (eC (.bool true)))
 sNx)
 (sRet (eO2 (lB cGt) (.vr 0) (.vr 1)))))
def F2 (C : Orc) : List W → CRes := runF 2 2 [[]] (M2 C)
def M3b0 (C : Orc) : MS :=
 (sSeq (sSet 4 (eCall C 1 [.vl (eV 3), .vl (eV 1)]))
 (sIf (tTru (.ex (eCall C 2 [.vl (eV 4), .vl (eO2 fIx (.vr 2) (.ex (eO2 fIx (.vr 3) (.ex (eC (.int 0))))))])))
 (sPut 2 (eO2 fIx (.vr 3) (.ex (eC (.int 0)))) (eV 4))
 sNx))
/-- greatest_round -/
def M3 (C : Orc) : MS :=
 (sSeq (sSet 2 (eRep (eLst [(eC .none)]) (eO2 fIx (.vr 0) (.ex (eC (.int 0))))))
 (sSeq (sFor (iAny (eO2 fIx (.vr 0) (.ex (eC (.int 2))))) (tgN 3)
 (M3b0 C))
 (sRet (eB bTuple [(.vr 2)]))))
def F3 (C : Orc) : List W → CRes := runF 2 5 [[]] (M3 C)
/-- joined -/
def M64 (C : Orc) : MS :=
 (sSeq (sSet 2 (eB bZipL [(.vr 0), (.vr 1)]))
 (sRet (eB bTuple [(.ex (eLc (iAny (eV 2)) (tgT [(tgN 3), (tgN 4)]) mYes (eIf (tTru (.ex (eCall C 2 [.vl (eV 3), .vl (eV 4)]))) (eV 3) (eV 4)) [3, 4]))])))
def F64 (C : Orc) : List W → CRes := runF 2 5 [[]] (M64 C)
def M65b0 (C : Orc) : MS :=
 (sSeq (sSet 1 (eV 2))
 (sSet 2 (eCall C 64 [.vl (eV 1), .vl (eCall C 3 [.vl (eV 0), .vl (eV 1)])])))
/-- with_unbounded -/
def M65 (C : Orc) : MS :=
 (sSeq (sSet 2 (eCall C 64 [.vl (eV 1), .vl (eCall C 3 [.vl (eV 0), .vl (eV 1)])]))
 (sSeq (sWh 1048576 (tO2 cNe (.vr 2) (.vr 1))
 (M65b0 C))
 (sRet (eV 1))))
def F65 (C : Orc) : List W → CRes := runF 2 3 [[]] (M65 C)
def M66b0 (C : Orc) : MS :=
 (sSeq (sSet 3 (eCall C 3 [.vl (eV 0), .vl (eV 1)]))
 (sSeq (sIf (tO2 cEq (.vr 3) (.vr 1))
 (sRet (eV 1))
 sNx)
 (sSet 1 (eV 3))))
/-- greatest_prices -/
def M66 (C : Orc) : MS :=
 (sSeq (sSet 1 (eO2 fRepT (.ex (eTup [(eC .none)])) (.ex (eO2 fIx (.vr 0) (.ex (eC (.int 0)))))))
 (sSeq (sFor (iR1 (eO2 fIx (.vr 0) (.ex (eC (.int 0))))) (tgN 2)
 (M66b0 C))
 (sSeq (sSet 4 (eB bZipL [(.vr 1), (.ex (eCall C 3 [.vl (eV 0), .vl (eV 1)]))]))
 (sRet (eCall C 65 [.vl (eV 0), .vl (eB bTuple [(.ex (eLc (iAny (eV 4)) (tgT [(tgN 5), (tgN 3)]) mYes (eIf (tO2 cEq (.vr 5) (.vr 3)) (eV 5) (eC (.str "unbounded"))) [5, 3]))])])))))
def F66 (C : Orc) : List W → CRes := runF 1 6 [[]] (M66 C)
/-- _law_dear -/
def M69 (C : Orc) : MS :=
 (sSeq (sSet 2 (eLc (iAny (eO2 fIx (.vr 0) (.ex (eC (.int 1))))) (tgN 3) mYes (eO2 fIx (.vr 1) (.vr 3)) [3]))
 (sSeq (sIf (tOr' (tO2 cIs (.ex (eO2 fIx (.vr 0) (.ex (eC (.int 2))))) (.ex (eC .none))) (tO2 cIn (.ex (eC .none)) (.vr 2)))
 (sRet (eC .none))
 sNx)
 (sSeq (sIf (tO2 cIn (.ex (eC (.str "unbounded"))) (.vr 2))
 (sRet (eC (.str "unbounded")))
 sNx)
 (sRet (eO2 fAddI (.ex (eO2 fIx (.vr 0) (.ex (eC (.int 2))))) (.ex (eB bSum [(.vr 2)])))))))
def F69 (C : Orc) : List W → CRes := runF 2 4 [[]] (M69 C)
/-- _law_above -/
def M10 (C : Orc) : MS :=
 (sSeq (sIf (tOr' (tO2 cIs (.vr 0) (.ex (eC .none))) (tO2 cEq (.vr 1) (.ex (eC (.str "unbounded")))))
 (sRet (eC (.bool false)))
 sNx)
 (sRet (eOr (eO2 (lB cIs) (.vr 1) (.ex (eC .none))) (eOr (eO2 (lB cEq) (.vr 0) (.ex (eC (.str "unbounded")))) (eO2 (lB cGt) (.vr 0) (.vr 1))))))
def F10 (C : Orc) : List W → CRes := runF 2 2 [[]] (M10 C)
def M70b0 (C : Orc) : MS :=
 (sSeq (sSet 4 (eCall C 69 [.vl (eV 3), .vl (eV 1)]))
 (sIf (tTru (.ex (eCall C 10 [.vl (eV 4), .vl (eO2 fIx (.vr 2) (.ex (eO2 fIx (.vr 3) (.ex (eC (.int 0))))))])))
 (sPut 2 (eO2 fIx (.vr 3) (.ex (eC (.int 0)))) (eV 4))
 sNx))
/-- _law_dears -/
def M70 (C : Orc) : MS :=
 (sSeq (sSet 2 (eLc (iR1 (eO2 fIx (.vr 0) (.ex (eC (.int 0))))) (tgN 5) mYes (eC .none) [5]))
 (sSeq (sFor (iAny (eO2 fIx (.vr 0) (.ex (eC (.int 2))))) (tgN 3)
 (M70b0 C))
 (sRet (eB bTuple [(.vr 2)]))))
def F70 (C : Orc) : List W → CRes := runF 2 6 [[]] (M70 C)
def M71b0 (C : Orc) : MS :=
 (sSeq (sSet 3 (eCall C 70 [.vl (eV 0), .vl (eV 1)]))
 (sSeq (sIf (tO2 cEq (.vr 3) (.vr 1))
 (sRet (eV 1))
 sNx)
 (sSet 1 (eV 3))))
def M71b1 (C : Orc) : MS :=
 (sIf (tAnd' (tNot' (tTru (.ex (eO2 fIx (.vr 4) (.ex (eO2 fIx (.vr 5) (.ex (eC (.int 0))))))))) (tO2 cIsNot (.ex (eCall C 69 [.vl (eV 5), .vl (eV 1)])) (.ex (eC .none))))
 (sPut 4 (eO2 fIx (.vr 5) (.ex (eC (.int 0)))) (eO2 (lB cIn) (.ex (eC (.bool true))) (.ex (eLc (iAny (eO2 fIx (.vr 5) (.ex (eC (.int 1))))) (tgN 6) mYes (eO2 fIx (.vr 4) (.vr 6)) [6]))))
 sNx)
def M71b2 (C : Orc) : MS :=
 (sFor (iAny (eO2 fIx (.vr 0) (.ex (eC (.int 2))))) (tgN 5)
 (M71b1 C))
/-- _law_greatest -/
def M71 (C : Orc) : MS :=
 (sSeq (sSet 1 (eB bTuple [(.ex (eLc (iR1 (eO2 fIx (.vr 0) (.ex (eC (.int 0))))) (tgN 6) mYes (eC .none) [6]))]))
 (sSeq (sFor (iR1 (eO2 fIx (.vr 0) (.ex (eC (.int 0))))) (tgN 2)
 (M71b0 C))
 (sSeq (sSet 3 (eCall C 70 [.vl (eV 0), .vl (eV 1)]))
 (sSeq (sSet 4 (eLc (iR1 (eO2 fIx (.vr 0) (.ex (eC (.int 0))))) (tgN 6) mYes (eO2 (lB cNe) (.ex (eO2 fIx (.vr 3) (.vr 6))) (.ex (eO2 fIx (.vr 1) (.vr 6)))) [6]))
 (sSeq (sFor (iR1 (eO2 fIx (.vr 0) (.ex (eC (.int 0))))) (tgN 2)
 (M71b2 C))
 (sRet (eB bTuple [(.ex (eLc (iR1 (eO2 fIx (.vr 0) (.ex (eC (.int 0))))) (tgN 6) mYes (eIf (tTru (.ex (eO2 fIx (.vr 4) (.vr 6)))) (eC (.str "unbounded")) (eO2 fIx (.vr 1) (.vr 6))) [6]))])))))))
def F71 (C : Orc) : List W → CRes := runF 1 7 [[]] (M71 C)
theorem wh_inv {t : MT} {b : MS} (Inv : Nat → Env → Prop) (Fin : Env → Prop)
    (step : ∀ m e, Inv m e → Wp (t e) fun c e1 => (c = false ∧ Fin e1) ∨ (c = true ∧ Wp (b e1) fun o e2 => (o = .nx ∨ o = .ct) ∧ ∃ m', m' < m ∧ Inv m' e2)) :
    ∀ (n m : Nat) (e : Env), m < n → Inv m e → ∃ e', sWh n t b e = .ok .nx e' ∧ Fin e' := by
  intro n
  induction n with
  | zero => intro m e h _; omega
  | succ n ih =>
    intro m e hm hI
    obtain ⟨c, e1, h1, h2⟩ := step m e hI
    show ∃ e', bnd (t e) _ = _ ∧ _
    rw [h1]
    rcases h2 with ⟨rfl, h2⟩ | ⟨rfl, o, e2, h3, ho, m', hm', hI'⟩
    · exact ⟨e1, rfl, h2⟩
    · show ∃ e', bnd (b e1) _ = _ ∧ _
      rw [h3]
      obtain ⟨e', h4, h5⟩ := ih m' e2 (by omega) hI'
      rcases ho with rfl | rfl
      · exact ⟨e', h4, h5⟩
      · exact ⟨e', h4, h5⟩
/-! ### prices that may be missing or unbounded -/
abbrev P3 := Option (Option Int)
def uStr : Str := "unbounded"
def p3D : P3 → D
  | none => .none
  | some none => .str uStr
  | some (some i) => .int i
def hasN (fs : List P3) : Bool := fs.any fun z => z == none
def hasU (fs : List P3) : Bool := fs.any fun z => z == some none
def valsI (fs : List P3) : List Int := fs.filterMap fun z => z.bind id
def dear (p : Option Int) (fs : List P3) : P3 := match p with
  | none => none
  | some i => if hasN fs then none else if hasU fs then some none else some (some (i + (valsI fs).sum))
def above : P3 → P3 → Bool
  | none, _ => false
  | some _, some none => false
  | some _, none => true
  | some none, some (some _) => true
  | some (some i), some (some j) => decide (j < i)
theorem uStr_beq : (uStr == uStr) = true := by decide +kernel
theorem u_is : (PyData.str (Str.ofString "unbounded")) = PyData.str uStr := rfl
theorem p3_none (z : P3) : PyData.eqv (p3D z) .none = (z == none) := by
  match z with
  | none => rfl
  | some none => rfl
  | some (some i) => rfl
theorem p3_u (z : P3) : PyData.eqv (p3D z) (.str uStr) = (z == some none) := by
  match z with
  | none => rfl
  | some none => exact uStr_beq
  | some (some i) => rfl
theorem p3_lay (z : P3) : (p3D z).canLay0 = true := by
  match z with
  | none => rfl
  | some none => decide +kernel
  | some (some i) => rfl
theorem p3_depth (z : P3) : (p3D z).depth = 0 := by
  match z with
  | none => rfl
  | some none => rfl
  | some (some i) => rfl
theorem p3s_lay : ∀ fs : List P3, PyData.canLayAll0 (fs.map p3D) = true
  | [] => rfl
  | z :: fs => by simp only [List.map_cons, PyData.canLayAll0, p3_lay, p3s_lay fs, Bool.and_self]
theorem p3s_depth : ∀ fs : List P3, PyData.depthAll (fs.map p3D) = 0
  | [] => rfl
  | z :: fs => by simp only [List.map_cons, PyData.depthAll, p3_depth, p3s_depth fs, Nat.max_self]
theorem p3s_noD : ∀ fs : List P3, noDs (fs.map p3D) = true
  | [] => rfl
  | z :: fs => by
    simp only [List.map_cons, noDs, p3s_noD fs, Bool.and_true]
    match z with
    | none => rfl
    | some none => rfl
    | some (some i) => rfl
theorem p3_sh (z : P3) : Sh (p3D z) := by
  constructor
  · unfold SeqAt.shaped; rw [p3_lay, p3_depth]; rfl
  · match z with
    | none => rfl
    | some none => rfl
    | some (some i) => rfl
theorem p3s_sh (fs : List P3) : Sh (.list (fs.map p3D)) := by
  constructor
  · unfold SeqAt.shaped
    simp only [PyData.canLay0, PyData.depth, p3s_lay, p3s_depth]
    rfl
  · simp only [noD]; exact p3s_noD fs
theorem p3t_sh (fs : List P3) : Sh (.tuple (fs.map p3D)) := by
  constructor
  · unfold SeqAt.shaped
    simp only [PyData.canLay0, PyData.depth, p3s_lay, p3s_depth]
    rfl
  · simp only [noD]; exact p3s_noD fs
theorem in_none (fs : List P3) : cIn .none (.list (fs.map p3D)) = some (hasN fs) := by
  rw [cIn_l sh_none (p3s_sh fs)]
  simp only [hasN, List.any_map]
  congr 2
  funext z
  exact p3_none z
theorem in_u (fs : List P3) : cIn (.str uStr) (.list (fs.map p3D)) = some (hasU fs) := by
  refine (cIn_l (x := .str uStr) (p3_sh (some none)) (p3s_sh fs)).trans ?_
  simp only [hasU, List.any_map]
  congr 2
  funext z
  exact p3_u z
theorem eq_u (z : P3) : cEq (p3D z) (.str uStr) = some (z == some none) := by
  refine (cEq_sh (p3_sh z) (p3_sh (some none))).trans ?_
  rw [← p3_u]; rfl
theorem eq_ui (i : Int) : cEq (.int i) (.str uStr) = some false := eq_u (some (some i))
theorem isNone_p3 (z : P3) : isNone (p3D z) = (z == none) := by
  match z with
  | none => rfl
  | some none => rfl
  | some (some i) => rfl
theorem isNone_price (p : Option Int) : isNone (priceD p) = (p == none) := by cases p <;> rfl
theorem valsI_int : ∀ {fs : List P3}, hasN fs = false → hasU fs = false → fs.map p3D = (valsI fs).map PyData.int
  | [], _, _ => rfl
  | z :: fs, h1, h2 => by
    simp only [hasN, hasU, List.any_cons, Bool.or_eq_false_iff] at h1 h2
    have ih := valsI_int (fs := fs) h1.2 h2.2
    match z, h1.1, h2.1 with
    | none, h, _ => cases h
    | some none, _, h => cases h
    | some (some i), _, _ => simp only [List.map_cons, ih, valsI, List.filterMap_cons, Option.bind_some, id]; rfl
theorem sum_p3 {fs : List P3} (h1 : hasN fs = false) (h2 : hasU fs = false) : bSum [.list (fs.map p3D)] = some (.d (.int (valsI fs).sum)) := by
  rw [valsI_int h1 h2, bSum_i]
theorem bq1 : ((none : P3) == none) = true := rfl
theorem bq2 {x : Option Int} : ((some x : P3) == none) = false := rfl
theorem bq3 : ((some none : P3) == some none) = true := rfl
theorem bq4 {i : Int} : ((some (some i) : P3) == some none) = false := rfl
theorem bq5 : ((none : P3) == some none) = false := rfl
theorem p3_ss {i : Int} : p3D (some (some i)) = .int i := rfl
theorem dear_p {i : Int} {fs : List P3} (h1 : hasN fs = true) : dear (some i) fs = none := by unfold dear; simp only [h1, if_true]
theorem dear_u {i : Int} {fs : List P3} (h1 : hasN fs = false) (h2 : hasU fs = true) : dear (some i) fs = some none := by simp [dear, h1, h2]
theorem dear_s {i : Int} {fs : List P3} (h1 : hasN fs = false) (h2 : hasU fs = false) : dear (some i) fs = some (some (i + (valsI fs).sum)) := by simp [dear, h1, h2]
theorem cost_with_ok (C : Orc) (p : Option Int) (fs : List P3) : F0 C [.d (priceD p), .d (.list (fs.map p3D))] = .ok (.d (p3D (dear p fs))) [] := by
  have run : WpC (F0 C [.d (priceD p), .d (.list (fs.map p3D))]) fun w o => w = .d (p3D (dear p fs)) ∧ o = [] := by
    refine wpC_run (m := M0 C) rfl rfl rfl ?_
    simp only [List.map_cons, List.map_nil, List.cons_append, List.nil_append, List.replicate]
    unfold M0
    cases p with
    | none =>
      push_cast [priceD_none]
      exact ⟨by trivial, by trivial⟩
    | some i =>
      cases h1 : hasN fs with
      | true =>
        push_cast [priceD_some, in_none, h1]
        exact ⟨by rw [dear_p h1]; rfl, by trivial⟩
      | false =>
        cases h2 : hasU fs with
        | true =>
          push_cast [priceD_some, in_none, h1, u_is, in_u, h2]
          exact ⟨by rw [dear_u h1 h2]; rfl, by trivial⟩
        | false =>
          push_cast [priceD_some, in_none, h1, u_is, in_u, h2, sum_p3 h1 h2]
          exact ⟨by rw [dear_s h1 h2]; rfl, by trivial⟩
  obtain ⟨w, o, h, rfl, rfl⟩ := run
  exact h
def dearV (v : Var) (ts : List P3) : P3 := dear v.price (v.slots.map fun s => ts.getD s none)
theorem tab_at {ts : List P3} {s : Nat} (h : s < ts.length) : atI (ts.map p3D) (s : Int) = some (p3D (ts.getD s none)) := by
  refine atI_get ?_
  rw [List.getElem?_map, List.getD_eq_getElem?_getD]
  simp [h]
theorem slots_map {ts : List P3} (sl : List Nat) : (sl.map fun s => p3D (ts.getD s none)) = (sl.map fun s => ts.getD s none).map p3D := by rw [List.map_map]; rfl
theorem cost_by_ok (C : Orc) (hC : ∀ p fs, C 0 [.d (priceD p), .d (.list (fs.map p3D))] = .ok (.d (p3D (dear p fs))) []) (v : Var) (ts : List P3) (hs : ∀ s ∈ v.slots, s < ts.length) (hz : v.slots.length ≤ 1000) : F1 C [.d v.dat, .d (.tuple (ts.map p3D))] = .ok (.d (p3D (dearV v ts))) [] := by
  have run : WpC (F1 C [.d v.dat, .d (.tuple (ts.map p3D))]) fun w o => w = .d (p3D (dearV v ts)) ∧ o = [] := by
    refine wpC_run (m := M1 C) rfl rfl rfl ?_
    simp only [List.map_cons, List.map_nil, List.cons_append, List.nil_append, List.replicate]
    unfold M1
    push_cast [Var.ix1, Var.ix2]
    rw [cmpT_map (dat := natD) (f := fun s => p3D (ts.getD s none)) (fun s h => ⟨_, rfl, by
      push_cast [natD_eq, tab_at (hs s h)]
      exact ⟨by trivial, by trivial⟩⟩)]
    rw [slots_map]
    push_cast [hC]
    exact ⟨rfl, by trivial⟩
  obtain ⟨w, o, h, rfl, rfl⟩ := run
  exact h
theorem is_greater_ok (C : Orc) (a b : P3) : F2 C [.d (p3D a), .d (p3D b)] = .ok (.d (.bool (above a b))) [] := by
  have run : WpC (F2 C [.d (p3D a), .d (p3D b)]) fun w o => w = .d (.bool (above a b)) ∧ o = [] := by
    refine wpC_run (m := M2 C) rfl rfl rfl ?_
    simp only [List.map_cons, List.map_nil, List.cons_append, List.nil_append, List.replicate]
    unfold M2
    match a, b with
    | none, b =>
      push_cast [u_is, eq_u, isNone_p3, bq1, bq2, bq3, bq4, bq5]
      exact ⟨by trivial, by trivial⟩
    | some none, none =>
      push_cast [u_is, eq_u, isNone_p3, bq1, bq2, bq3, bq4, bq5]
      exact ⟨by trivial, by trivial⟩
    | some none, some none =>
      push_cast [u_is, eq_u, isNone_p3, bq1, bq2, bq3, bq4, bq5]
      exact ⟨by trivial, by trivial⟩
    | some none, some (some j) =>
      push_cast [u_is, eq_u, isNone_p3, bq1, bq2, bq3, bq4, bq5]
      exact ⟨by trivial, by trivial⟩
    | some (some i), none =>
      push_cast [u_is, eq_u, isNone_p3, bq1, bq2, bq3, bq4, bq5]
      exact ⟨by trivial, by trivial⟩
    | some (some i), some none =>
      push_cast [u_is, eq_u, isNone_p3, bq1, bq2, bq3, bq4, bq5]
      exact ⟨by trivial, by trivial⟩
    | some (some i), some (some j) =>
      push_cast [u_is, eq_u, isNone_p3, bq1, bq2, bq3, bq4, bq5, p3_ss, eq_ui]
      exact ⟨by trivial, by trivial⟩
  obtain ⟨w, o, h, rfl, rfl⟩ := run
  exact h
/-! ### a round -/
def gStep (ts : List P3) (row : List P3) (v : Var) : List P3 := if above (dearV v ts) (row.getD v.plug none) = true then row.set v.plug (dearV v ts) else row
def gRound (f : Fam) (ts : List P3) : List P3 := f.vars.foldl (gStep ts) (List.replicate f.count none)
structure TabFor (f : Fam) (ts : List P3) : Prop where
  len : ts.length = f.count
  inn : f.In f.count
  few : ∀ v ∈ f.vars, v.slots.length ≤ 1000
  small : f.count ≤ 1000
theorem gStep_len {ts row : List P3} {v : Var} : (gStep ts row v).length = row.length := by
  unfold gStep
  split <;> simp
theorem g_set {row : List P3} {i : Nat} {x : P3} : (row.map p3D).set i (p3D x) = (row.set i x).map p3D := (List.map_set ..).symm
theorem g_rep (n : Nat) : List.replicate n PyData.none = (List.replicate n (none : P3)).map p3D := by simp [p3D]
theorem gfold_len (ts : List P3) : ∀ (vs : List Var) (row : List P3), (vs.foldl (gStep ts) row).length = row.length
  | [], _ => rfl
  | v :: vs, row => by rw [List.foldl_cons, gfold_len ts vs, gStep_len]
theorem g_step (C : Orc) (m : Orc → MS) (a b : Nat) (hm : m C = (sSeq (sSet 4 (eCall C a [.vl (eV 3), .vl (eV 1)]))
 (sIf (tTru (.ex (eCall C b [.vl (eV 4), .vl (eO2 fIx (.vr 2) (.ex (eO2 fIx (.vr 3) (.ex (eC (.int 0))))))])))
 (sPut 2 (eO2 fIx (.vr 3) (.ex (eC (.int 0)))) (eV 4))
 sNx)))
    (f : Fam) (ts row : List P3) (hf : TabFor f ts) (v : Var) (hv : v ∈ f.vars) (hr : row.length = f.count) (h1 : C a [.d v.dat, .d (.tuple (ts.map p3D))] = .ok (.d (p3D (dearV v ts))) []) (h2 : ∀ x y : P3, C b [.d (p3D x), .d (p3D y)] = .ok (.d (.bool (above x y))) [])
    (x4 : Option W) (r : List (Option W)) :
    Wp (m C (some (.d f.dat) :: some (.d (.tuple (ts.map p3D))) :: some (.l (row.map p3D)) :: some (.d v.dat) :: x4 :: r)) fun o e => o = .nx ∧ ∃ x3 x4, e = some (.d f.dat) :: some (.d (.tuple (ts.map p3D))) :: some (.l ((gStep ts row v).map p3D)) :: x3 :: x4 :: r := by
  rw [hm]
  have hp : v.plug < row.length := by rw [hr]; exact hf.inn.plug v hv
  push_cast [h1, Var.ix0, tab_at hp, h2]
  unfold gStep
  cases hab : above (dearV v ts) (row.getD v.plug none) with
  | false =>
    push_cast []
    exact ⟨by trivial, _, _, by rw [if_neg (by decide)]⟩
  | true =>
    push_cast [Var.ix0]
    exact ⟨by trivial, _, _, by rw [g_set]⟩
theorem ground_ok (C : Orc) (h1 : ∀ (v : Var) (ts : List P3), (∀ s ∈ v.slots, s < ts.length) → v.slots.length ≤ 1000 → C 1 [.d v.dat, .d (.tuple (ts.map p3D))] = .ok (.d (p3D (dearV v ts))) [])
    (h2 : ∀ a b : P3, C 2 [.d (p3D a), .d (p3D b)] = .ok (.d (.bool (above a b))) []) (f : Fam) (ts : List P3) (hf : TabFor f ts) : F3 C [.d f.dat, .d (.tuple (ts.map p3D))] = .ok (.d (.tuple ((gRound f ts).map p3D))) [] := by
  have run : WpC (F3 C [.d f.dat, .d (.tuple (ts.map p3D))]) fun w o => w = .d (.tuple ((gRound f ts).map p3D)) ∧ o = [] := by
    refine wpC_run (m := M3 C) rfl rfl rfl ?_
    simp only [List.map_cons, List.map_nil, List.cons_append, List.nil_append, List.replicate]
    unfold M3
    have := hf.small
    push_cast [Fam.ix0, Fam.ix2, g_rep]
    obtain ⟨e', hfor, x3, x4, rfl⟩ := forT_inv (tg := tgN 3) (b := M3b0 C) (dat := Var.dat) (xs := f.vars)
      (fun pre e => ∃ x3 x4 : Option W, e = [some (.d f.dat), some (.d (.tuple (ts.map p3D))), some (.l ((pre.foldl (gStep ts) (List.replicate f.count none)).map p3D)), x3, x4])
      (e := [some (.d f.dat), some (.d (.tuple (ts.map p3D))), some (.l ((List.replicate f.count (none : P3)).map p3D)), none, none]) ⟨_, _, rfl⟩ (fun pre v post e hx hI => by
        obtain ⟨x3, x4, rfl⟩ := hI
        have hv : v ∈ f.vars := by rw [hx]; simp
        refine ⟨_, rfl, (g_step C M3b0 1 2 rfl f ts _ hf v hv (by rw [gfold_len]; simp) (h1 v ts (fun s hs => by rw [hf.len]; exact hf.inn.slots v hv s hs) (hf.few v hv)) h2 x4 []).mono fun o e q => ?_⟩
        obtain ⟨rfl, x3, x4, rfl⟩ := q
        exact ⟨.inl rfl, _, _, by rw [List.foldl_append]; rfl⟩)
    rw [hfor]
    push_cast []
    exact ⟨rfl, by trivial⟩
  obtain ⟨w, o, h, rfl, rfl⟩ := run
  exact h
theorem law_dear_ok (C : Orc) (v : Var) (ts : List P3) (hs : ∀ s ∈ v.slots, s < ts.length) (hz : v.slots.length ≤ 1000) : F69 C [.d v.dat, .d (.tuple (ts.map p3D))] = .ok (.d (p3D (dearV v ts))) [] := by
  have run : WpC (F69 C [.d v.dat, .d (.tuple (ts.map p3D))]) fun w o => w = .d (p3D (dearV v ts)) ∧ o = [] := by
    refine wpC_run (m := M69 C) rfl rfl rfl ?_
    simp only [List.map_cons, List.map_nil, List.cons_append, List.nil_append, List.replicate]
    unfold M69
    push_cast [Var.ix1, Var.ix2]
    rw [cmpT_map (dat := natD) (f := fun s => p3D (ts.getD s none)) (fun s h => ⟨_, rfl, by
      push_cast [natD_eq, tab_at (hs s h)]
      exact ⟨by trivial, by trivial⟩⟩)]
    rw [slots_map]
    unfold dearV
    generalize v.slots.map (fun s => ts.getD s none) = fs
    cases hp : v.price with
    | none =>
      push_cast [Var.ix2, hp, priceD_none]
      exact ⟨by trivial, by trivial⟩
    | some i =>
      cases h1 : hasN fs with
      | true =>
        push_cast [Var.ix2, hp, priceD_some, in_none, h1]
        exact ⟨by rw [dear_p h1]; rfl, by trivial⟩
      | false =>
        cases h2 : hasU fs with
        | true =>
          push_cast [Var.ix2, hp, priceD_some, in_none, h1, u_is, in_u, h2]
          exact ⟨by rw [dear_u h1 h2]; rfl, by trivial⟩
        | false =>
          push_cast [Var.ix2, hp, priceD_some, in_none, h1, u_is, in_u, h2, sum_p3 h1 h2]
          exact ⟨by rw [dear_s h1 h2]; rfl, by trivial⟩
  obtain ⟨w, o, h, rfl, rfl⟩ := run
  exact h
theorem law_above_ok (C : Orc) (a b : P3) : F10 C [.d (p3D a), .d (p3D b)] = .ok (.d (.bool (above a b))) [] := by
  have run : WpC (F10 C [.d (p3D a), .d (p3D b)]) fun w o => w = .d (.bool (above a b)) ∧ o = [] := by
    refine wpC_run (m := M10 C) rfl rfl rfl ?_
    simp only [List.map_cons, List.map_nil, List.cons_append, List.nil_append, List.replicate]
    unfold M10
    match a, b with
    | none, b =>
      push_cast [u_is, eq_u, isNone_p3, bq1, bq2, bq3, bq4, bq5]
      exact ⟨by trivial, by trivial⟩
    | some none, none =>
      push_cast [u_is, eq_u, isNone_p3, bq1, bq2, bq3, bq4, bq5]
      exact ⟨by trivial, by trivial⟩
    | some none, some none =>
      push_cast [u_is, eq_u, isNone_p3, bq1, bq2, bq3, bq4, bq5]
      exact ⟨by trivial, by trivial⟩
    | some none, some (some j) =>
      push_cast [u_is, eq_u, isNone_p3, bq1, bq2, bq3, bq4, bq5]
      exact ⟨by trivial, by trivial⟩
    | some (some i), none =>
      push_cast [u_is, eq_u, isNone_p3, bq1, bq2, bq3, bq4, bq5]
      exact ⟨by trivial, by trivial⟩
    | some (some i), some none =>
      push_cast [u_is, eq_u, isNone_p3, bq1, bq2, bq3, bq4, bq5]
      exact ⟨by trivial, by trivial⟩
    | some (some i), some (some j) =>
      push_cast [u_is, eq_u, isNone_p3, bq1, bq2, bq3, bq4, bq5, p3_ss, eq_ui]
      exact ⟨by trivial, by trivial⟩
  obtain ⟨w, o, h, rfl, rfl⟩ := run
  exact h
theorem law_dears_ok (C : Orc) (h1 : ∀ (v : Var) (ts : List P3), (∀ s ∈ v.slots, s < ts.length) → v.slots.length ≤ 1000 → C 69 [.d v.dat, .d (.tuple (ts.map p3D))] = .ok (.d (p3D (dearV v ts))) [])
    (h2 : ∀ a b : P3, C 10 [.d (p3D a), .d (p3D b)] = .ok (.d (.bool (above a b))) []) (f : Fam) (ts : List P3) (hf : TabFor f ts) : F70 C [.d f.dat, .d (.tuple (ts.map p3D))] = .ok (.d (.tuple ((gRound f ts).map p3D))) [] := by
  have run : WpC (F70 C [.d f.dat, .d (.tuple (ts.map p3D))]) fun w o => w = .d (.tuple ((gRound f ts).map p3D)) ∧ o = [] := by
    refine wpC_run (m := M70 C) rfl rfl rfl ?_
    simp only [List.map_cons, List.map_nil, List.cons_append, List.nil_append, List.replicate]
    unfold M70
    have := hf.small
    push_cast [Fam.ix0]
    rw [cmpN_map (f := fun _ => PyData.none) (fun j hj => ⟨_, rfl, by push_cast []; exact ⟨by trivial, by trivial⟩⟩)]
    rw [show (List.range f.count).map (fun _ => PyData.none) = List.replicate f.count PyData.none by simp [List.map_const']]
    push_cast [Fam.ix2, g_rep]
    obtain ⟨e', hfor, x3, x4, rfl⟩ := forT_inv (tg := tgN 3) (b := M70b0 C) (dat := Var.dat) (xs := f.vars)
      (fun pre e => ∃ x3 x4 : Option W, e = [some (.d f.dat), some (.d (.tuple (ts.map p3D))), some (.l ((pre.foldl (gStep ts) (List.replicate f.count none)).map p3D)), x3, x4, none])
      (e := [some (.d f.dat), some (.d (.tuple (ts.map p3D))), some (.l ((List.replicate f.count (none : P3)).map p3D)), none, none, none]) ⟨_, _, rfl⟩ (fun pre v post e hx hI => by
        obtain ⟨x3, x4, rfl⟩ := hI
        have hv : v ∈ f.vars := by rw [hx]; simp
        refine ⟨_, rfl, (g_step C M70b0 69 10 rfl f ts _ hf v hv (by rw [gfold_len]; simp) (h1 v ts (fun s hs => by rw [hf.len]; exact hf.inn.slots v hv s hs) (hf.few v hv)) h2 x4 [none]).mono fun o e q => ?_⟩
        obtain ⟨rfl, x3, x4, rfl⟩ := q
        exact ⟨.inl rfl, _, _, by rw [List.foldl_append]; rfl⟩)
    rw [hfor]
    push_cast []
    exact ⟨rfl, by trivial⟩
  obtain ⟨w, o, h, rfl, rfl⟩ := run
  exact h
/-! ### plain: the order, a round -/
def plt (a b : P3) : Prop := above b a = true
def ple (a b : P3) : Prop := ¬ plt b a
theorem plt_irrefl (a : P3) : ¬ plt a a := by
  match a with
  | none => intro h; cases h
  | some none => intro h; cases h
  | some (some i) => intro h; have := of_decide_eq_true h; omega
theorem plt_trans {a b c : P3} (h : plt a b) (g : plt b c) : plt a c := by
  match a, b, c with
  | none, none, _ => cases h
  | some _, none, _ => cases h
  | _, some none, none => cases g
  | _, some none, some none => cases g
  | _, some none, some (some _) => cases g
  | _, some (some _), none => cases g
  | none, some (some _), some none => rfl
  | none, some (some _), some (some _) => rfl
  | some none, some (some _), _ => cases h
  | some (some i), some (some j), some none => rfl
  | some (some i), some (some j), some (some k) =>
    have h1 := of_decide_eq_true h
    have h2 := of_decide_eq_true g
    exact decide_eq_true (by omega)
theorem plt_tri (a b : P3) : plt a b ∨ a = b ∨ plt b a := by
  match a, b with
  | none, none => exact .inr (.inl rfl)
  | none, some none => exact .inl rfl
  | none, some (some _) => exact .inl rfl
  | some none, none => exact .inr (.inr rfl)
  | some none, some none => exact .inr (.inl rfl)
  | some none, some (some _) => exact .inr (.inr rfl)
  | some (some _), none => exact .inr (.inr rfl)
  | some (some _), some none => exact .inl rfl
  | some (some i), some (some j) =>
    rcases Int.lt_trichotomy i j with h | h | h
    · exact .inl (decide_eq_true h)
    · exact .inr (.inl (by rw [h]))
    · exact .inr (.inr (decide_eq_true h))
theorem ple_refl (a : P3) : ple a a := plt_irrefl a
theorem ple_of_lt {a b : P3} (h : plt a b) : ple a b := fun g => plt_irrefl a (plt_trans h g)
theorem ple_trans {a b c : P3} (h : ple a b) (g : ple b c) : ple a c := fun q => by
  rcases plt_tri a b with h1 | h1 | h1
  · exact g (plt_trans q h1)
  · subst h1; exact g q
  · exact h h1
theorem ple_antisymm {a b : P3} (h : ple a b) (g : ple b a) : a = b := by
  rcases plt_tri a b with h1 | h1 | h1
  · exact absurd h1 g
  · exact h1
  · exact absurd h1 h
theorem ple_none {a : P3} : ple none a := fun h => by cases a <;> cases h
theorem ple_top {a : P3} : ple a (some none) := fun h => by
  match a with
  | none => cases h
  | some none => cases h
  | some (some _) => cases h
theorem top_le {a : P3} (h : ple (some none) a) : a = some none := ple_antisymm ple_top h
theorem setG {α : Type} {ts : List (Option α)} {i : Nat} {x : Option α} (h : i < ts.length) (s : Nat) : (ts.set i x).getD s none = if s = i then x else ts.getD s none := by
  rw [List.getD_eq_getElem?_getD, List.getElem?_set, List.getD_eq_getElem?_getD]
  by_cases e : i = s
  · subst e
    rw [if_pos rfl, if_pos h, if_pos rfl]; rfl
  · rw [if_neg e, if_neg fun z => e z.symm]
theorem repG {α : Type} {n s : Nat} : (List.replicate n (none : Option α)).getD s none = none := by
  rw [List.getD_eq_getElem?_getD, List.getElem?_replicate]
  split <;> rfl
theorem extG {α : Type} {ws us : List (Option α)} (hl : ws.length = us.length) (h : ∀ s, s < ws.length → ws.getD s none = us.getD s none) : ws = us := by
  refine List.ext_getElem hl fun i h1 h2 => ?_
  have := h i h1
  rw [List.getD_eq_getElem?_getD, List.getD_eq_getElem?_getD, List.getElem?_eq_getElem h1, List.getElem?_eq_getElem h2] at this
  exact this
theorem gStep_get {ts row : List P3} {v : Var} (hp : v.plug < row.length) (s : Nat) : (gStep ts row v).getD s none = if s = v.plug ∧ above (dearV v ts) (row.getD v.plug none) = true then dearV v ts else row.getD s none := by
  unfold gStep
  by_cases h : above (dearV v ts) (row.getD v.plug none) = true
  · rw [if_pos h, setG hp]
    by_cases e : s = v.plug
    · rw [if_pos e, if_pos ⟨e, h⟩]
    · rw [if_neg e, if_neg fun z => e z.1]
  · rw [if_neg h, if_neg fun z => h z.2]
theorem gfold_ge (ts : List P3) : ∀ (vs : List Var) (row : List P3), (∀ v ∈ vs, v.plug < row.length) → (∀ s, ple (row.getD s none) ((vs.foldl (gStep ts) row).getD s none)) ∧ ∀ v ∈ vs, ple (dearV v ts) ((vs.foldl (gStep ts) row).getD v.plug none)
  | [], row, _ => ⟨fun s => ple_refl _, fun v hv => by cases hv⟩
  | v :: vs, row, h => by
    have hp := h v List.mem_cons_self
    obtain ⟨h1, h2⟩ := gfold_ge ts vs (gStep ts row v) fun u hu => by rw [gStep_len]; exact h u (List.mem_cons_of_mem _ hu)
    have g1 : ∀ s, ple (row.getD s none) ((gStep ts row v).getD s none) := fun s => by
      rw [gStep_get hp]
      split
      · rename_i z; rw [z.1]; exact ple_of_lt z.2
      · exact ple_refl _
    have g2 : ple (dearV v ts) ((gStep ts row v).getD v.plug none) := by
      rw [gStep_get hp]
      split
      · exact ple_refl _
      · rename_i z
        exact fun q => z ⟨rfl, q⟩
    rw [List.foldl_cons]
    refine ⟨fun s => ple_trans (g1 s) (h1 s), fun u hu => ?_⟩
    rcases List.mem_cons.mp hu with rfl | hu
    · exact ple_trans g2 (h1 _)
    · exact h2 u hu
theorem gfold_is (ts : List P3) : ∀ (vs : List Var) (row : List P3) (s : Nat), (∀ v ∈ vs, v.plug < row.length) → (vs.foldl (gStep ts) row).getD s none = row.getD s none ∨ ∃ v ∈ vs, v.plug = s ∧ (vs.foldl (gStep ts) row).getD s none = dearV v ts
  | [], row, s, _ => .inl rfl
  | v :: vs, row, s, h => by
    have hp := h v List.mem_cons_self
    rw [List.foldl_cons]
    rcases gfold_is ts vs (gStep ts row v) s fun u hu => by rw [gStep_len]; exact h u (List.mem_cons_of_mem _ hu) with h1 | ⟨u, hu, h1, h2⟩
    · rw [gStep_get hp] at h1
      split at h1
      · rename_i z
        exact .inr ⟨v, List.mem_cons_self, z.1.symm, h1⟩
      · exact .inl h1
    · exact .inr ⟨u, List.mem_cons_of_mem _ hu, h1, h2⟩
section
variable {f : Fam} (hin : f.In f.count)
include hin
theorem gRound_len (ts : List P3) : (gRound f ts).length = f.count := by unfold gRound; rw [gfold_len]; simp
theorem gRound_ge {ts : List P3} {v : Var} (hv : v ∈ f.vars) : ple (dearV v ts) ((gRound f ts).getD v.plug none) :=
  (gfold_ge ts f.vars _ fun u hu => by simpa using hin.plug u hu).2 v hv
theorem gRound_is {ts : List P3} {s : Nat} {x : Option Int} (h : (gRound f ts).getD s none = some x) : ∃ v ∈ f.vars, v.plug = s ∧ dearV v ts = some x := by
  rcases gfold_is ts f.vars (List.replicate f.count none) s fun u hu => by simpa using hin.plug u hu with h1 | ⟨v, hv, h1, h2⟩
  · unfold gRound at h
    rw [h1, repG] at h
    cases h
  · exact ⟨v, hv, h1, by rw [← h2]; exact h⟩
/-- a round at a state depends on what its variants cost -/
theorem gRound_le {ts us : List P3} {s : Nat} (h : ∀ v ∈ f.vars, v.plug = s → ple (dearV v ts) (dearV v us)) : ple ((gRound f ts).getD s none) ((gRound f us).getD s none) := by
  cases hx : (gRound f ts).getD s none with
  | none => exact ple_none
  | some x =>
    obtain ⟨v, hv, h1, h2⟩ := gRound_is hin hx
    rw [← h2]
    have := gRound_ge hin (ts := us) hv
    rw [h1] at this
    exact ple_trans (h v hv h1) this
theorem gRound_congr {ts us : List P3} {s : Nat} (h : ∀ v ∈ f.vars, v.plug = s → dearV v ts = dearV v us) : (gRound f ts).getD s none = (gRound f us).getD s none :=
  ple_antisymm (gRound_le hin fun v hv e => by rw [h v hv e]; exact ple_refl _) (gRound_le hin fun v hv e => by rw [h v hv e]; exact ple_refl _)
end
theorem hasN_iff {v : Var} {ts : List P3} : hasN (v.slots.map fun s => ts.getD s none) = true ↔ ∃ s ∈ v.slots, ts.getD s none = none := by
  unfold hasN
  rw [List.any_map, List.any_eq_true]
  simp
theorem hasU_iff {v : Var} {ts : List P3} : hasU (v.slots.map fun s => ts.getD s none) = true ↔ ∃ s ∈ v.slots, ts.getD s none = some none := by
  unfold hasU
  rw [List.any_map, List.any_eq_true]
  simp
theorem dear_none {v : Var} {ts : List P3} : dearV v ts = none ↔ v.price = none ∨ ∃ s ∈ v.slots, ts.getD s none = none := by
  rw [← hasN_iff]
  unfold dearV
  generalize (v.slots.map fun s => ts.getD s none) = fs
  cases v.price with
  | none => simp [dear]
  | some i =>
    cases h1 : hasN fs with
    | true => simp [dear_p h1]
    | false =>
      cases h2 : hasU fs with
      | true => simp [dear_u h1 h2]
      | false => simp [dear_s h1 h2]
theorem dear_top {v : Var} {ts : List P3} (h : dearV v ts ≠ none) : dearV v ts = some none ↔ ∃ s ∈ v.slots, ts.getD s none = some none := by
  rw [← hasU_iff]
  have h1 : hasN (v.slots.map fun s => ts.getD s none) = false := by
    cases q : hasN (v.slots.map fun s => ts.getD s none) with
    | false => rfl
    | true => exact absurd (dear_none.mpr (.inr (hasN_iff.mp q))) h
  unfold dearV at h ⊢
  generalize (v.slots.map fun s => ts.getD s none) = fs at *
  cases hp : v.price with
  | none => rw [hp] at h; exact absurd rfl h
  | some i =>
    cases h2 : hasU fs with
    | true => simp [dear_u h1 h2]
    | false => simp [dear_s h1 h2]
theorem dear_ext {v : Var} {ts us : List P3} (h : ∀ s ∈ v.slots, ts.getD s none = us.getD s none) : dearV v ts = dearV v us := by
  unfold dearV
  congr 1
  exact List.map_congr_left h
def gIt (f : Fam) : Nat → List P3
  | 0 => List.replicate f.count none
  | k + 1 => gRound f (gIt f k)
def pat (ts : List P3) (ws : List Wt) : Prop := ∀ s, ts.getD s none = none ↔ ws.getD s none = none
theorem weight_none_iff {v : Var} {ws : List Wt} : weight v ws = none ↔ v.price = none ∨ ∃ s ∈ v.slots, ws.getD s none = none := by
  have main : ∀ (sl : List Nat) (p n : Int), wsum ws sl p n = none ↔ ∃ s ∈ sl, ws.getD s none = none := by
    intro sl
    induction sl with
    | nil => intro p n; simp [wsum]
    | cons s sl ih =>
      intro p n
      cases h : ws.getD s none with
      | none => rw [ws_no h]; exact ⟨fun _ => ⟨s, List.mem_cons_self, h⟩, fun _ => rfl⟩
      | some q =>
        rw [ws_some h, ih]
        constructor
        · rintro ⟨t, ht, e⟩
          exact ⟨t, List.mem_cons_of_mem _ ht, e⟩
        · rintro ⟨t, ht, e⟩
          rcases List.mem_cons.mp ht with rfl | ht
          · rw [h] at e; cases e
          · exact ⟨t, ht, e⟩
  cases hp : v.price with
  | none => rw [weight_none hp]; simp
  | some p => rw [weight_some hp, main]; simp
theorem one_w {v : Var} {ws : List Wt} : weight v.one ws = none ↔ v.price = none ∨ ∃ s ∈ v.slots, ws.getD s none = none := by
  rw [weight_none_iff]
  unfold Var.one
  cases v.price <;> simp
section
variable {f : Fam} (hin : f.In f.count)
include hin
theorem gIt_len (k : Nat) : (gIt f k).length = f.count := by
  cases k with
  | zero => simp [gIt]
  | succ k => exact gRound_len hin _
theorem pat_round {g : Fam} {ts : List P3} {ws : List Wt} (hg : g.In g.count) (hgv : g.count = f.count) (h : pat ts ws)
    (h1 : ∀ v ∈ f.vars, ∃ u ∈ g.vars, u.plug = v.plug ∧ (dearV v ts = none ↔ weight u ws = none)) (h2 : ∀ u ∈ g.vars, ∃ v ∈ f.vars, u.plug = v.plug ∧ (dearV v ts = none ↔ weight u ws = none)) : pat (gRound f ts) (wRound g ws) := fun s => by
  constructor
  · intro h3
    cases hx : (wRound g ws).getD s none with
    | none => rfl
    | some x =>
      obtain ⟨u, hu, e1, e2⟩ := round_is hg.plug hx
      obtain ⟨v, hv, e3, e4⟩ := h2 u hu
      have := gRound_ge hin (ts := ts) hv
      rw [← e3, e1, h3] at this
      have hn : dearV v ts = none := ple_antisymm this ple_none
      rw [e4.mp hn] at e2
      cases e2
  · intro h3
    cases hx : (gRound f ts).getD s none with
    | none => rfl
    | some x =>
      obtain ⟨v, hv, e1, e2⟩ := gRound_is hin hx
      obtain ⟨u, hu, e3, e4⟩ := h1 v hv
      have := round_le (ws := ws) hg.plug hu
      rw [e3, e1, h3] at this
      have hn : weight u ws = none := by
        cases hw : weight u ws with
        | none => rfl
        | some y => rw [hw] at this; exact absurd wlt_sn this
      rw [e4.mpr hn] at e2
      cases e2
theorem one_in : f.one.In f.one.count := ⟨fun v hv => by
    obtain ⟨u, hu, rfl⟩ := List.mem_map.mp hv
    exact hin.plug u hu, fun v hv => by
    obtain ⟨u, hu, rfl⟩ := List.mem_map.mp hv
    exact hin.slots u hu⟩
theorem pat_dw {v : Var} {ts : List P3} {ws : List Wt} (h : pat ts ws) : dearV v ts = none ↔ weight v.one ws = none := by
  rw [dear_none, one_w]
  constructor
  · rintro (h1 | ⟨s, h1, h2⟩)
    · exact .inl h1
    · exact .inr ⟨s, h1, (h s).mp h2⟩
  · rintro (h1 | ⟨s, h1, h2⟩)
    · exact .inl h1
    · exact .inr ⟨s, h1, (h s).mpr h2⟩
theorem pat_it : ∀ k, pat (gIt f k) (wIt f.one k)
  | 0 => fun s => by
    show (List.replicate f.count (none : P3)).getD s none = none ↔ (List.replicate f.one.count (none : Wt)).getD s none = none
    rw [repG, repG]
    simp
  | k + 1 => by
    have ih := pat_it k
    refine pat_round hin (one_in hin) rfl ih (fun v hv => ⟨v.one, List.mem_map.mpr ⟨v, hv, rfl⟩, rfl, pat_dw hin ih⟩) fun u hu => ?_
    obtain ⟨v, hv, rfl⟩ := List.mem_map.mp hu
    exact ⟨v, hv, rfl, pat_dw hin ih⟩
/-- after as many rounds as there are states no further state gets a price -/
theorem pat_stay {s : Nat} : (gIt f f.count).getD s none = none ↔ (gIt f (f.count + 1)).getD s none = none := by
  rw [pat_it hin f.count s, pat_it hin (f.count + 1) s]
  have : wIt f.one (f.count + 1) = wIt f.one f.count := it_fix (one_plain hin)
  rw [this]
end
/-! ### rows of these, compared -/
theorem eqv_p3 (a b : P3) : PyData.eqv (p3D a) (p3D b) = decide (a = b) := by
  match a, b with
  | none, none => rfl
  | none, some none => rfl
  | none, some (some _) => rfl
  | some none, none => rfl
  | some none, some none => exact uStr_beq
  | some none, some (some _) => rfl
  | some (some _), none => rfl
  | some (some _), some none => rfl
  | some (some i), some (some j) =>
    show (i == j) = _
    rw [Bool.eq_iff_iff, beq_iff_eq, decide_eq_true_eq]
    simp
theorem eqvs_p3 : ∀ as bs : List P3, PyData.eqvAll (as.map p3D) (bs.map p3D) = decide (as = bs)
  | [], [] => rfl
  | [], _ :: _ => rfl
  | _ :: _, [] => rfl
  | a :: as, b :: bs => by
    show (PyData.eqv (p3D a) (p3D b) && PyData.eqvAll (as.map p3D) (bs.map p3D)) = _
    rw [eqv_p3, eqvs_p3 as bs, Bool.eq_iff_iff]
    simp
theorem cEq_p3 (a b : P3) : cEq (p3D a) (p3D b) = some (decide (a = b)) := by rw [cEq_sh (p3_sh a) (p3_sh b), eqv_p3]
theorem cNe_p3 (a b : P3) : cNe (p3D a) (p3D b) = some (!decide (a = b)) := by rw [cNe_sh (p3_sh a) (p3_sh b), eqv_p3]
theorem cEq_p3s (as bs : List P3) : cEq (.tuple (as.map p3D)) (.tuple (bs.map p3D)) = some (decide (as = bs)) := by
  rw [cEq_sh (p3t_sh as) (p3t_sh bs)]
  exact congrArg some (eqvs_p3 as bs)
theorem cNe_p3s (as bs : List P3) : cNe (.tuple (as.map p3D)) (.tuple (bs.map p3D)) = some (!decide (as = bs)) := by
  rw [cNe_sh (p3t_sh as) (p3t_sh bs)]
  exact congrArg (fun b => some (!b)) (eqvs_p3 as bs)
/-! ### sets of states, as rows of truth values -/
def cnt : List Bool → Nat
  | [] => 0
  | b :: bs => (if b = true then 1 else 0) + cnt bs
theorem cnt_len : ∀ bs : List Bool, cnt bs ≤ bs.length
  | [] => Nat.le_refl _
  | b :: bs => by
    have := cnt_len bs
    simp only [cnt, List.length_cons]
    split <;> omega
theorem cnt_le : ∀ (as bs : List Bool), as.length = bs.length → (∀ s, as.getD s false = true → bs.getD s false = true) → cnt as ≤ cnt bs ∧ (cnt as = cnt bs → as = bs)
  | [], [], _, _ => ⟨Nat.le_refl _, fun _ => rfl⟩
  | [], _ :: _, h, _ => by simp at h
  | _ :: _, [], h, _ => by simp at h
  | a :: as, b :: bs, h, g => by
    obtain ⟨h1, h2⟩ := cnt_le as bs (by simpa using h) fun s hs => g (s + 1) hs
    have h0 : a = true → b = true := g 0
    cases a with
    | true =>
      rw [h0 rfl]
      simp only [cnt, if_true]
      exact ⟨by omega, fun e => by rw [h2 (by omega)]⟩
    | false =>
      cases b with
      | true =>
        simp only [cnt, if_true, Bool.false_eq_true, if_false]
        exact ⟨by omega, fun e => by omega⟩
      | false =>
        simp only [cnt, Bool.false_eq_true, if_false]
        exact ⟨by omega, fun e => by rw [h2 (by omega)]⟩
theorem cnt_all : ∀ bs : List Bool, bs.length ≤ cnt bs → ∀ s, s < bs.length → bs.getD s false = true
  | [], _, _, h => by simp at h
  | b :: bs, h, s, hs => by
    have := cnt_len bs
    simp only [cnt, List.length_cons] at h
    cases b with
    | false => simp only [Bool.false_eq_true, if_false] at h; omega
    | true =>
      cases s with
      | zero => rfl
      | succ s =>
        have := cnt_all bs (by simp only [if_true] at h; omega) s (by simpa using hs)
        simpa using this
theorem bset {bs : List Bool} {i : Nat} {x : Bool} (h : i < bs.length) (s : Nat) : (bs.set i x).getD s false = if s = i then x else bs.getD s false := by
  rw [List.getD_eq_getElem?_getD, List.getElem?_set, List.getD_eq_getElem?_getD]
  by_cases e : i = s
  · subst e
    rw [if_pos rfl, if_pos h, if_pos rfl]; rfl
  · rw [if_neg e, if_neg fun z => e z.symm]
theorem bext {as bs : List Bool} (hl : as.length = bs.length) (h : ∀ s, s < as.length → as.getD s false = bs.getD s false) : as = bs := by
  refine List.ext_getElem hl fun i h1 h2 => ?_
  have := h i h1
  rw [List.getD_eq_getElem?_getD, List.getD_eq_getElem?_getD, List.getElem?_eq_getElem h1, List.getElem?_eq_getElem h2] at this
  exact this
theorem bmap {n : Nat} {p : Nat → Bool} {s : Nat} (h : s < n) : ((List.range n).map p).getD s false = p s := by
  rw [List.getD_eq_getElem?_getD, List.getElem?_map, List.getElem?_range h]; rfl
theorem gmap {α : Type} {n : Nat} {p : Nat → Option α} {s : Nat} (h : s < n) : ((List.range n).map p).getD s none = p s := by
  rw [List.getD_eq_getElem?_getD, List.getElem?_map, List.getElem?_range h]; rfl
theorem btrue {bs : List Bool} {s : Nat} (h : bs.getD s false = true) : s < bs.length := by
  by_cases hs : s < bs.length
  · exact hs
  · rw [List.getD_eq_getElem?_getD, List.getElem?_eq_none (by omega)] at h
    cases h
/-! ### what still rises -/
abbrev gP (f : Fam) : List P3 := gIt f f.count
inductive Ris (f : Fam) : Nat → Prop
  | base {s : Nat} : s < f.count → (gIt f (f.count + 1)).getD s none ≠ (gP f).getD s none → Ris f s
  | step {v : Var} {t : Nat} : v ∈ f.vars → dearV v (gP f) ≠ none → t ∈ v.slots → Ris f t → Ris f v.plug
structure RB (f : Fam) (bs : List Bool) : Prop where
  len : bs.length = f.count
  sound : ∀ s, bs.getD s false = true → Ris f s
  base : ∀ s, s < f.count → (gIt f (f.count + 1)).getD s none ≠ (gP f).getD s none → bs.getD s false = true
def ClB (f : Fam) (bs : List Bool) : Prop := ∀ v ∈ f.vars, dearV v (gP f) ≠ none → (∃ t ∈ v.slots, bs.getD t false = true) → bs.getD v.plug false = true
theorem rb_iff {f : Fam} {bs : List Bool} (h : RB f bs) (c : ClB f bs) (s : Nat) : bs.getD s false = true ↔ Ris f s := by
  refine ⟨h.sound s, fun r => ?_⟩
  induction r with
  | base h1 h2 => exact h.base _ h1 h2
  | step h1 h2 h3 _ ih => exact c _ h1 h2 ⟨_, h3, ih⟩
open Classical in
noncomputable def gp (f : Fam) : List P3 := (List.range f.count).map fun s => if Ris f s then some none else (gP f).getD s none
def qrow (f : Fam) (bs : List Bool) : List P3 := (List.range f.count).map fun s => if bs.getD s false = true then some none else (gP f).getD s none
theorem qrow_get {f : Fam} {bs : List Bool} {s : Nat} (h : s < f.count) : (qrow f bs).getD s none = if bs.getD s false = true then some none else (gP f).getD s none := gmap h
theorem qrow_len {f : Fam} {bs : List Bool} : (qrow f bs).length = f.count := by simp [qrow]
theorem gp_len {f : Fam} : (gp f).length = f.count := by simp [gp]
theorem qrow_gp {f : Fam} {bs : List Bool} (h : RB f bs) (c : ClB f bs) : qrow f bs = gp f := by
  unfold qrow gp
  refine List.map_congr_left fun s _ => ?_
  by_cases r : Ris f s
  · rw [if_pos r, if_pos ((rb_iff h c s).mpr r)]
  · rw [if_neg r, if_neg fun z => r ((rb_iff h c s).mp z)]
section
variable {f : Fam} (hin : f.In f.count)
include hin
theorem ris_some {s : Nat} (h : Ris f s) : (gP f).getD s none ≠ none := by
  cases h with
  | base _ h2 =>
    intro e
    exact h2 (((pat_stay hin).mp e).trans e.symm)
  | @step v t hv h2 _ _ =>
    intro e
    have := gRound_ge hin (ts := gP f) hv
    have e2 : (gRound f (gP f)).getD v.plug none = none := (pat_stay hin).mp e
    rw [e2] at this
    exact h2 (ple_antisymm this ple_none)
theorem gIt_noU : ∀ (k s : Nat), (gIt f k).getD s none ≠ some none
  | 0, s => by
    show (List.replicate f.count (none : P3)).getD s none ≠ _
    rw [repG]; intro h; cases h
  | k + 1, s => fun h => by
    obtain ⟨v, hv, _, e⟩ := gRound_is hin h
    obtain ⟨t, _, ht⟩ := (dear_top (by rw [e]; intro h; cases h)).mp e
    exact gIt_noU k t ht
def spreadB (f : Fam) (bs : List Bool) : List Bool := (List.range f.count).map fun s => bs.getD s false || f.vars.any fun v => decide (v.plug = s) && (dearV v (gP f) != none) && v.slots.any fun t => bs.getD t false
omit hin in
theorem spread_get {bs : List Bool} {s : Nat} (h : s < f.count) : (spreadB f bs).getD s false = true ↔ bs.getD s false = true ∨ ∃ v ∈ f.vars, v.plug = s ∧ dearV v (gP f) ≠ none ∧ ∃ t ∈ v.slots, bs.getD t false = true := by
  unfold spreadB
  rw [bmap h, Bool.or_eq_true, List.any_eq_true]
  refine or_congr Iff.rfl (exists_congr fun v => and_congr Iff.rfl ?_)
  rw [Bool.and_eq_true, Bool.and_eq_true, decide_eq_true_eq, bne_iff_ne, List.any_eq_true, and_assoc]
omit hin in
theorem spread_rb {bs : List Bool} (h : RB f bs) : RB f (spreadB f bs) := by
  refine ⟨by simp [spreadB], fun s hs => ?_, fun s hs hb => ?_⟩
  · have hl := btrue hs
    rw [show (spreadB f bs).length = f.count by simp [spreadB]] at hl
    rcases (spread_get hl).mp hs with h1 | ⟨v, hv, rfl, h2, t, ht, h3⟩
    · exact h.sound s h1
    · exact .step hv h2 ht (h.sound t h3)
  · exact (spread_get hs).mpr (.inl (h.base s hs hb))
omit hin in
theorem spread_fix {bs : List Bool} (hf : ∀ v ∈ f.vars, v.plug < f.count) (e : spreadB f bs = bs) : ClB f bs := fun v hv h1 h2 => by
  have := (spread_get (f := f) (bs := bs) (hf v hv)).mpr (.inr ⟨v, hv, rfl, h1, h2⟩)
  rwa [e] at this
def jn (a b : P3) : P3 := if above a b = true then a else b
def jnR (as bs : List P3) : List P3 := (as.zip bs).map fun p => jn p.1 p.2
omit hin in
theorem jnR_get : ∀ (as bs : List P3) (s : Nat), as.length = bs.length → s < as.length → (jnR as bs).getD s none = jn (as.getD s none) (bs.getD s none)
  | [], _, _, _, h => by simp at h
  | _ :: _, [], _, h, _ => by simp at h
  | a :: as, b :: bs, 0, _, _ => rfl
  | a :: as, b :: bs, s + 1, h, g => by
    have := jnR_get as bs s (by simpa using h) (by simpa using g)
    simpa [jnR] using this
omit hin in
theorem jnR_len {as bs : List P3} (h : as.length = bs.length) : (jnR as bs).length = as.length := by
  unfold jnR
  rw [List.length_map, List.length_zip]; omega
omit hin in
theorem jn_top (b : P3) : jn (some none) b = some none := by
  unfold jn
  match b with
  | none => rfl
  | some none => rfl
  | some (some _) => rfl
omit hin in
theorem jn_top2 (a : P3) : jn a (some none) = some none := by
  unfold jn
  match a with
  | none => rfl
  | some none => rfl
  | some (some _) => rfl
omit hin in
theorem jn_self (a : P3) : jn a a = a := by unfold jn; split <;> rfl
theorem spread_ok {bs : List Bool} (h : RB f bs) : jnR (qrow f bs) (gRound f (qrow f bs)) = qrow f (spreadB f bs) := by
  have l1 : (qrow f bs).length = f.count := qrow_len
  have l2 := gRound_len hin (qrow f bs)
  refine extG (by rw [jnR_len (by omega), l1, qrow_len]) fun s hs => ?_
  rw [jnR_len (by omega), l1] at hs
  rw [jnR_get _ _ _ (by omega) (by omega), qrow_get hs, qrow_get hs]
  by_cases hb : bs.getD s false = true
  · rw [if_pos hb, jn_top, if_pos ((spread_get hs).mpr (.inl hb))]
  · rw [if_neg hb]
    have slot : ∀ v ∈ f.vars, ∀ t ∈ v.slots, (qrow f bs).getD t none = if bs.getD t false = true then some none else (gP f).getD t none := fun v hv t ht => qrow_get (hin.slots v hv t ht)
    by_cases hx : ∃ v ∈ f.vars, v.plug = s ∧ dearV v (gP f) ≠ none ∧ ∃ t ∈ v.slots, bs.getD t false = true
    · rw [if_pos ((spread_get hs).mpr (.inr hx))]
      obtain ⟨v, hv, rfl, h1, t, ht, h2⟩ := hx
      have hn : dearV v (qrow f bs) ≠ none := by
        intro e
        rcases dear_none.mp e with e | ⟨u, hu, e⟩
        · exact h1 (dear_none.mpr (.inl e))
        · rw [slot v hv u hu] at e
          split at e
          · cases e
          · exact h1 (dear_none.mpr (.inr ⟨u, hu, e⟩))
      have ht2 : dearV v (qrow f bs) = some none := (dear_top hn).mpr ⟨t, ht, by rw [slot v hv t ht, if_pos h2]⟩
      have := gRound_ge hin (ts := qrow f bs) hv
      rw [ht2] at this
      rw [top_le this, jn_top2]
    · rw [if_neg fun z => ((spread_get hs).mp z).elim hb hx]
      have e1 : (gRound f (qrow f bs)).getD s none = (gRound f (gP f)).getD s none := gRound_congr hin fun v hv e => by
        by_cases hd : dearV v (gP f) = none
        · rw [hd]
          rcases dear_none.mp hd with e2 | ⟨u, hu, e2⟩
          · exact dear_none.mpr (.inl e2)
          · refine dear_none.mpr (.inr ⟨u, hu, ?_⟩)
            rw [slot v hv u hu, if_neg fun z => ris_some hin (h.sound u z) e2]
            exact e2
        · refine dear_ext fun u hu => ?_
          rw [slot v hv u hu, if_neg fun z => hx ⟨v, hv, e, hd, u, hu, z⟩]
      have e2 : (gRound f (gP f)).getD s none = (gP f).getD s none := by
        by_cases z : (gRound f (gP f)).getD s none = (gP f).getD s none
        · exact z
        · exact absurd (h.base s hs z) hb
      rw [e1, e2, jn_self]
theorem qrow_inj {as bs : List Bool} (ha : as.length = f.count) (hb : bs.length = f.count) (e : qrow f as = qrow f bs) : as = bs := by
  refine bext (by omega) fun s hs => ?_
  rw [ha] at hs
  have h1 := qrow_get (f := f) (bs := as) hs
  rw [e, qrow_get hs] at h1
  have nu := gIt_noU hin f.count s
  cases h2 : as.getD s false <;> cases h3 : bs.getD s false <;> simp only [h2, h3, if_true, Bool.false_eq_true, if_false] at h1 ⊢
  · exact absurd h1.symm nu
  · exact absurd h1 nu
theorem cnt_spread {bs : List Bool} (h : RB f bs) (ne : spreadB f bs ≠ bs) : cnt bs < cnt (spreadB f bs) := by
  obtain ⟨h1, h2⟩ := cnt_le bs (spreadB f bs) (by rw [h.len]; simp [spreadB]) fun s hs => by
    have := btrue hs
    rw [h.len] at this
    exact (spread_get this).mpr (.inl hs)
  rcases Nat.lt_or_ge (cnt bs) (cnt (spreadB f bs)) with h3 | h3
  · exact h3
  · exact absurd (h2 (by omega)).symm ne
/-- the first mark -/
def mark0 (f : Fam) : List Bool := (List.range f.count).map fun s => decide (¬ (gP f).getD s none = (gIt f (f.count + 1)).getD s none)
omit hin in
theorem mark_rb : RB f (mark0 f) := by
  refine ⟨by simp [mark0], fun s hs => ?_, fun s hs hb => ?_⟩
  · have hl := btrue hs
    rw [show (mark0 f).length = f.count by simp [mark0]] at hl
    unfold mark0 at hs
    rw [bmap hl] at hs
    exact .base hl fun z => of_decide_eq_true hs z.symm
  · unfold mark0
    rw [bmap hs]
    exact decide_eq_true fun z => hb z.symm
theorem gIt_fix {k : Nat} (hk : k ≤ f.count) (e : gRound f (gIt f k) = gIt f k) : gp f = gIt f k := by
  have st : ∀ j, k ≤ j → gIt f j = gIt f k := fun j hj => by
    induction j with
    | zero => rw [show k = 0 by omega]
    | succ j ih =>
      rcases Nat.lt_or_ge j k with h | h
      · rw [show k = j + 1 by omega]
      · show gRound f (gIt f j) = _
        rw [ih h, e]
  have nr : ∀ s, ¬ Ris f s := fun s r => by
    induction r with
    | base _ h2 => exact h2 (by rw [st (f.count + 1) (by omega), show gP f = gIt f k from st _ hk])
    | step _ _ _ _ ih => exact ih
  refine extG (by rw [gp_len, gIt_len hin]) fun s hs => ?_
  rw [gp_len] at hs
  unfold gp
  rw [gmap hs, if_neg (nr s), show gP f = gIt f k from st _ hk]
end
/-! ### the program's and the oracle's greatest prices -/
def p3t (ts : List P3) : D := .tuple (ts.map p3D)
theorem p3t_eq (ts : List P3) : p3t ts = .tuple (ts.map p3D) := rfl
theorem cEq_p3t (as bs : List P3) : cEq (p3t as) (p3t bs) = some (decide (as = bs)) := cEq_p3s as bs
theorem cNe_p3t (as bs : List P3) : cNe (p3t as) (p3t bs) = some (!decide (as = bs)) := cNe_p3s as bs
theorem zip_p3t {as bs : List P3} (h : as.length = bs.length ∧ as.length ≤ 16777216) : bZipL [p3t as, p3t bs] = some (.l ((as.zip bs).map fun p => PyData.tuple [p3D p.1, p3D p.2])) := by
  rw [p3t_eq, p3t_eq, bZipL_t (by rw [List.length_map, List.length_map]; exact h), zip_maps]
theorem ix_p3t {ts : List P3} {s : Nat} (h : s < ts.length) : fIx (p3t ts) (.int (s : Int)) = some (.d (p3D (ts.getD s none))) := by
  show (atI (ts.map p3D) (s : Int)).map W.d = _
  rw [tab_at h]; rfl
def AboveS (C : Orc) (k : Nat) : Prop := ∀ a b : P3, C k [.d (p3D a), .d (p3D b)] = .ok (.d (.bool (above a b))) []
def GRoundS (C : Orc) (k : Nat) : Prop := ∀ (f : Fam) (ts : List P3), TabFor f ts → C k [.d f.dat, .d (p3t ts)] = .ok (.d (p3t (gRound f ts))) []
structure Fam.Ge (f : Fam) : Prop where
  pos : 0 < f.count
  small : f.count ≤ 1000
  inn : f.In f.count
  few : ∀ v ∈ f.vars, v.slots.length ≤ 1000
theorem Fam.Ge.tab {f : Fam} (h : f.Ge) {ts : List P3} (hl : ts.length = f.count) : TabFor f ts := ⟨hl, h.inn, h.few, h.small⟩
theorem joined_ok (C : Orc) (h2 : AboveS C 2) (as bs : List P3) (hl : as.length = bs.length) (hz : as.length ≤ 1000) : F64 C [.d (p3t as), .d (p3t bs)] = .ok (.d (p3t (jnR as bs))) [] := by
  have run : WpC (F64 C [.d (p3t as), .d (p3t bs)]) fun w o => w = .d (p3t (jnR as bs)) ∧ o = [] := by
    refine wpC_run (m := M64 C) rfl rfl rfl ?_
    simp only [List.map_cons, List.map_nil, List.cons_append, List.nil_append, List.replicate]
    unfold M64
    push_cast [zip_p3t (as := as) (bs := bs) ⟨hl, by omega⟩]
    rw [kLc_c (by rw [List.length_map, List.length_zip]; omega)]
    push_cast []
    rw [cmpT_map (dat := fun p : P3 × P3 => PyData.tuple [p3D p.1, p3D p.2]) (f := fun p => p3D (jn p.1 p.2)) (fun p hp => ⟨_, rfl, by
      obtain ⟨x, y⟩ := p
      unfold jn
      cases h : above x y with
      | true =>
        push_cast [h2 x y, h]
        exact ⟨by trivial, by trivial⟩
      | false =>
        push_cast [h2 x y, h]
        exact ⟨rfl, by trivial⟩⟩)]
    push_cast []
    refine ⟨?_, by trivial⟩
    unfold jnR
    rw [p3t_eq, List.map_map]; rfl
  obtain ⟨w, o, h, rfl, rfl⟩ := run
  exact h
theorem unb_ok (C : Orc) (h3 : GRoundS C 3) (h64 : ∀ as bs : List P3, as.length = bs.length → as.length ≤ 1000 → C 64 [.d (p3t as), .d (p3t bs)] = .ok (.d (p3t (jnR as bs))) []) (f : Fam) (hf : f.Ge) (bs : List Bool) (hb : RB f bs) :
    F65 C [.d f.dat, .d (p3t (qrow f bs))] = .ok (.d (p3t (gp f))) [] := by
  have hin := hf.inn
  have hs := hf.small
  have st : ∀ bs, RB f bs → C 3 [.d f.dat, .d (p3t (qrow f bs))] = .ok (.d (p3t (gRound f (qrow f bs)))) [] ∧ C 64 [.d (p3t (qrow f bs)), .d (p3t (gRound f (qrow f bs)))] = .ok (.d (p3t (qrow f (spreadB f bs)))) [] := fun bs hb => by
    refine ⟨h3 f _ (hf.tab qrow_len), ?_⟩
    rw [h64 _ _ (by rw [qrow_len, gRound_len hin]) (by rw [qrow_len]; exact hs), spread_ok hin hb]
  have run : WpC (F65 C [.d f.dat, .d (p3t (qrow f bs))]) fun w o => w = .d (p3t (gp f)) ∧ o = [] := by
    refine wpC_run (m := M65 C) rfl rfl rfl ?_
    simp only [List.map_cons, List.map_nil, List.cons_append, List.nil_append, List.replicate]
    unfold M65
    obtain ⟨s1, s2⟩ := st bs hb
    push_cast [s1, s2]
    obtain ⟨e', h1, x2, rfl⟩ := wh_inv (t := (tO2 cNe (.vr 2) (.vr 1))) (b := M65b0 C)
      (fun m e => ∃ bs, RB f bs ∧ e = [some (.d f.dat), some (.d (p3t (qrow f bs))), some (.d (p3t (qrow f (spreadB f bs))))] ∧ m = f.count - cnt bs)
      (fun e => ∃ x2, e = [some (.d f.dat), some (.d (p3t (gp f))), x2]) (fun m e hI => by
        obtain ⟨bs, hb, rfl, rfl⟩ := hI
        obtain ⟨s1, s2⟩ := st (spreadB f bs) (spread_rb hb)
        push_cast [cNe_p3t]
        by_cases he : qrow f (spreadB f bs) = qrow f bs
        · rw [decide_eq_true he]
          push_cast []
          have e2 := qrow_inj hin (by simp [spreadB]) hb.len he
          refine .inl ⟨by trivial, some (.d (p3t (qrow f (spreadB f bs)))), ?_⟩
          rw [qrow_gp hb (spread_fix hin.plug e2)]
        · rw [decide_eq_false he]
          push_cast []
          refine .inr ⟨by trivial, ?_⟩
          unfold M65b0
          push_cast [s1, s2]
          refine ⟨by simp, f.count - cnt (spreadB f bs), ?_, spreadB f bs, spread_rb hb, rfl, rfl⟩
          have h1 := cnt_spread hin hb (fun e => he (by rw [e]))
          have h2 := cnt_len (spreadB f bs)
          rw [(spread_rb hb).len] at h2
          omega)
      1048576 (f.count - cnt bs) _ (by omega) ⟨bs, hb, rfl, rfl⟩
    rw [h1]
    push_cast []
    exact ⟨by trivial, by trivial⟩
  obtain ⟨w, o, h, rfl, rfl⟩ := run
  exact h
theorem greatest_ok (C : Orc) (h3 : GRoundS C 3) (h65 : ∀ (f : Fam), f.Ge → ∀ bs : List Bool, RB f bs → C 65 [.d f.dat, .d (p3t (qrow f bs))] = .ok (.d (p3t (gp f))) []) (f : Fam) (hf : f.Ge) :
    F66 C [.d f.dat] = .ok (.d (p3t (gp f))) [] := by
  have hin := hf.inn
  have hs := hf.small
  have hp := hf.pos
  have run : WpC (F66 C [.d f.dat]) fun w o => w = .d (p3t (gp f)) ∧ o = [] := by
    refine wpC_run (m := M66 C) rfl rfl rfl ?_
    simp only [List.map_cons, List.map_nil, List.cons_append, List.nil_append, List.replicate]
    unfold M66
    push_cast [Fam.ix0, g_rep]
    rcases forN_rt (tg := tgN 2) (b := M66b0 C) (n := f.count)
      (fun i e => ∃ x2 x3 : Option W, e = [some (.d f.dat), some (.d (p3t (gIt f i))), x2, x3, none, none])
      (fun w e => w = .d (p3t (gp f))) (e := [some (.d f.dat), some (.d (p3t (gIt f 0))), none, none, none, none]) ⟨none, none, rfl⟩ (fun i e hi hI => by
        obtain ⟨x2, x3, rfl⟩ := hI
        refine ⟨_, rfl, ?_⟩
        unfold M66b0
        push_cast [h3 f _ (hf.tab (gIt_len hin i)), cEq_p3t]
        by_cases hc : gRound f (gIt f i) = gIt f i
        · rw [decide_eq_true hc]
          push_cast []
          refine .inr ⟨_, rfl, ?_⟩
          rw [gIt_fix hin (Nat.le_of_lt hi) hc]
        · rw [decide_eq_false hc]
          push_cast []
          exact .inl ⟨by simp, _, _, rfl⟩) with ⟨e', h1, x2, x3, rfl⟩ | ⟨w, e', h1, rfl⟩
    · rw [show PyData.tuple ((List.replicate f.count (none : P3)).map p3D) = p3t (gIt f 0) from rfl, h1]
      have l1 := gIt_len hin f.count
      have l2 := gIt_len hin (f.count + 1)
      have e3 := h3 f _ (hf.tab l1)
      rw [show gRound f (gIt f f.count) = gIt f (f.count + 1) from rfl] at e3
      push_cast [e3, zip_p3t (as := gIt f f.count) (bs := gIt f (f.count + 1)) ⟨by omega, by omega⟩]
      rw [kLc_c (by rw [List.length_map, List.length_zip]; omega)]
      push_cast []
      rw [cmpT_map (dat := fun p : P3 × P3 => PyData.tuple [p3D p.1, p3D p.2]) (f := fun p => p3D (if p.1 = p.2 then p.1 else some none)) (fun p hp => ⟨_, rfl, by
        obtain ⟨x, y⟩ := p
        by_cases h : x = y
        · push_cast [cEq_p3, decide_eq_true h]
          exact ⟨by rw [if_pos h], by trivial⟩
        · push_cast [cEq_p3, decide_eq_false h]
          exact ⟨by rw [if_neg h]; rfl, by trivial⟩⟩)]
      have em : (((gIt f f.count).zip (gIt f (f.count + 1))).map fun p => p3D (if p.1 = p.2 then p.1 else some none)) = (qrow f (mark0 f)).map p3D := by
        have : (((gIt f f.count).zip (gIt f (f.count + 1))).map fun p => if p.1 = p.2 then p.1 else some none) = qrow f (mark0 f) := by
          refine extG (by rw [List.length_map, List.length_zip, qrow_len]; omega) fun s hs => ?_
          rw [List.length_map, List.length_zip] at hs
          rw [qrow_get (by omega)]
          unfold mark0
          rw [bmap (by omega)]
          have e1 : (gIt f f.count)[s]? = some ((gP f).getD s none) := by
            rw [List.getD_eq_getElem?_getD, List.getElem?_eq_getElem (by omega)]; rfl
          have e2 : (gIt f (f.count + 1))[s]? = some ((gIt f (f.count + 1)).getD s none) := by
            rw [List.getD_eq_getElem?_getD, List.getElem?_eq_getElem (by omega)]; rfl
          rw [List.getD_eq_getElem?_getD, List.getElem?_map, List.getElem?_zip_eq_some (z := ((gP f).getD s none, (gIt f (f.count + 1)).getD s none)) |>.mpr ⟨e1, e2⟩]
          show (if (gP f).getD s none = (gIt f (f.count + 1)).getD s none then (gP f).getD s none else some none) = _
          by_cases h : (gP f).getD s none = (gIt f (f.count + 1)).getD s none
          · rw [if_pos h, if_neg (by simpa using h)]
          · rw [if_neg h, if_pos (by simpa using h)]
        rw [← this, List.map_map]; rfl
      rw [em]
      have := h65 f hf (mark0 f) mark_rb
      rw [p3t_eq] at this
      push_cast [this]
      exact ⟨by trivial, by trivial⟩
    · rw [show PyData.tuple ((List.replicate f.count (none : P3)).map p3D) = p3t (gIt f 0) from rfl, h1]
      push_cast []
      exact ⟨by trivial, by trivial⟩
  obtain ⟨w, o, h, rfl, rfl⟩ := run
  exact h
/-! ### the oracle: in place -/
open Classical in
noncomputable def stepB (f : Fam) (bs : List Bool) (v : Var) : List Bool := if bs.getD v.plug false = false ∧ dearV v (gP f) ≠ none then bs.set v.plug (v.slots.any fun t => bs.getD t false) else bs
theorem stepB_len {f : Fam} {bs : List Bool} {v : Var} : (stepB f bs v).length = bs.length := by
  unfold stepB; split <;> simp
theorem stepB_get {f : Fam} {bs : List Bool} {v : Var} (hp : v.plug < bs.length) (s : Nat) : (stepB f bs v).getD s false = true ↔ bs.getD s false = true ∨ (s = v.plug ∧ dearV v (gP f) ≠ none ∧ ∃ t ∈ v.slots, bs.getD t false = true) := by
  unfold stepB
  split
  · rename_i z
    rw [bset hp]
    by_cases e : s = v.plug
    · rw [if_pos e, List.any_eq_true]
      subst e
      constructor
      · intro h; exact .inr ⟨rfl, z.2, h⟩
      · rintro (h | ⟨_, _, h⟩)
        · rw [z.1] at h; cases h
        · exact h
    · rw [if_neg e]
      exact ⟨.inl, fun h => h.elim id fun h => absurd h.1 e⟩
  · rename_i z
    constructor
    · exact .inl
    · rintro (h | ⟨rfl, h1, h2⟩)
      · exact h
      · cases hb : bs.getD v.plug false with
        | true => rfl
        | false => exact absurd ⟨hb, h1⟩ z
theorem stepB_rb {f : Fam} {bs : List Bool} {v : Var} (hin : f.In f.count) (hv : v ∈ f.vars) (h : RB f bs) : RB f (stepB f bs v) := by
  have hp : v.plug < bs.length := by rw [h.len]; exact hin.plug v hv
  refine ⟨stepB_len.trans h.len, fun s hs => ?_, fun s hs hb => (stepB_get hp s).mpr (.inl (h.base s hs hb))⟩
  rcases (stepB_get hp s).mp hs with h1 | ⟨rfl, h1, t, ht, h2⟩
  · exact h.sound s h1
  · exact .step hv h1 ht (h.sound t h2)
theorem stepB_cnt {f : Fam} {bs : List Bool} {v : Var} (hp : v.plug < bs.length) : cnt bs ≤ cnt (stepB f bs v) ∧ (cnt bs = cnt (stepB f bs v) → bs = stepB f bs v) :=
  cnt_le bs _ stepB_len.symm fun s hs => (stepB_get hp s).mpr (.inl hs)
noncomputable def passB (f : Fam) (vs : List Var) (bs : List Bool) : List Bool := vs.foldl (stepB f) bs
theorem passB_rb {f : Fam} (hin : f.In f.count) : ∀ (vs : List Var) (bs : List Bool), (∀ v ∈ vs, v ∈ f.vars) → RB f bs → RB f (passB f vs bs)
  | [], _, _, h => h
  | v :: vs, bs, hv, h => passB_rb hin vs _ (fun u hu => hv u (List.mem_cons_of_mem _ hu)) (stepB_rb hin (hv v List.mem_cons_self) h)
theorem passB_cnt {f : Fam} : ∀ (vs : List Var) (bs : List Bool), (∀ v ∈ vs, v.plug < bs.length) → cnt bs ≤ cnt (passB f vs bs) ∧ (cnt bs = cnt (passB f vs bs) → ∀ v ∈ vs, stepB f bs v = bs)
  | [], _, _ => ⟨Nat.le_refl _, fun _ v hv => by cases hv⟩
  | v :: vs, bs, hv => by
    have hp := hv v List.mem_cons_self
    obtain ⟨h1, h2⟩ := stepB_cnt (f := f) hp
    obtain ⟨h3, h4⟩ := passB_cnt (f := f) vs (stepB f bs v) fun u hu => by rw [stepB_len]; exact hv u (List.mem_cons_of_mem _ hu)
    have e : passB f (v :: vs) bs = passB f vs (stepB f bs v) := rfl
    rw [e]
    refine ⟨by omega, fun g u hu => ?_⟩
    have e1 := h2 (by omega)
    rcases List.mem_cons.mp hu with rfl | hu
    · exact e1.symm
    · have := h4 (by omega) u hu
      rwa [← e1] at this
theorem stepB_cl {f : Fam} (hin : f.In f.count) {bs : List Bool} (h : RB f bs) (e : ∀ v ∈ f.vars, stepB f bs v = bs) : ClB f bs := fun v hv h1 h2 => by
  have hp : v.plug < bs.length := by rw [h.len]; exact hin.plug v hv
  have := (stepB_get (f := f) (bs := bs) hp v.plug).mpr (.inr ⟨rfl, h1, h2⟩)
  rwa [e v hv] at this
theorem cl_stepB {f : Fam} (hin : f.In f.count) {bs : List Bool} (h : RB f bs) (c : ClB f bs) {v : Var} (hv : v ∈ f.vars) : stepB f bs v = bs := by
  have hp : v.plug < bs.length := by rw [h.len]; exact hin.plug v hv
  refine bext stepB_len fun s hs => ?_
  rw [Bool.eq_iff_iff, stepB_get hp]
  exact ⟨fun z => z.elim id fun z => by rw [z.1]; exact c v hv z.2.1 z.2.2, .inl⟩
theorem cl_passB {f : Fam} (hin : f.In f.count) {bs : List Bool} (h : RB f bs) (c : ClB f bs) : ∀ vs : List Var, (∀ v ∈ vs, v ∈ f.vars) → passB f vs bs = bs
  | [], _ => rfl
  | v :: vs, hv => by
    show passB f vs (stepB f bs v) = bs
    rw [cl_stepB hin h c (hv v List.mem_cons_self)]
    exact cl_passB hin h c vs fun u hu => hv u (List.mem_cons_of_mem _ hu)
theorem pass_next {f : Fam} (hin : f.In f.count) {bs : List Bool} (h : RB f bs) {k : Nat} (g : ClB f bs ∨ k ≤ cnt bs) : ClB f (passB f f.vars bs) ∨ k + 1 ≤ cnt (passB f f.vars bs) := by
  by_cases c : ClB f bs
  · rw [cl_passB hin h c f.vars fun _ z => z]; exact .inl c
  · obtain ⟨h1, h2⟩ := passB_cnt (f := f) f.vars bs fun v hv => by rw [h.len]; exact hin.plug v hv
    rcases Nat.lt_or_ge (cnt bs) (cnt (passB f f.vars bs)) with h3 | h3
    · have := g.resolve_left c
      exact .inr (by omega)
    · exact absurd (stepB_cl hin h (h2 (by omega))) c
theorem pass_end {f : Fam} (hin : f.In f.count) {bs : List Bool} (h : RB f bs) (g : ClB f bs ∨ f.count ≤ cnt bs) : ClB f bs := by
  rcases g with g | g
  · exact g
  · intro v hv _ _
    exact cnt_all bs (by rw [h.len]; exact g) _ (by rw [h.len]; exact hin.plug v hv)
theorem bool_at {bs : List Bool} {s : Nat} (h : s < bs.length) : atI (bs.map PyData.bool) (s : Int) = some (.bool (bs.getD s false)) := by
  refine atI_get ?_
  rw [List.getElem?_map, List.getD_eq_getElem?_getD]
  simp [h]
theorem any_slots {bs : List Bool} (sl : List Nat) : ((sl.map fun t => bs.getD t false).any id) = sl.any fun t => bs.getD t false := by
  rw [List.any_map]; rfl
theorem bnone {z : P3} : (z == none) = decide (z = none) := by
  rw [Bool.eq_iff_iff, beq_iff_eq, decide_eq_true_eq]
theorem dec_ne (x y : P3) : decide (¬ x = y) = !decide (y = x) := by
  by_cases h : x = y
  · rw [decide_eq_false (fun z => z h), decide_eq_true h.symm]; rfl
  · rw [decide_eq_true h, decide_eq_false (fun z => h z.symm)]; rfl
theorem lgr_b1 (C : Orc) (f : Fam) (hf : f.Ge) (h69 : ∀ v ∈ f.vars, C 69 [.d v.dat, .d (p3t (gP f))] = .ok (.d (p3D (dearV v (gP f)))) []) (v : Var) (hv : v ∈ f.vars) (bs : List Bool) (hl : bs.length = f.count) (x2 x3 : Option W) :
    Wp (M71b1 C [some (.d f.dat), some (.d (p3t (gP f))), x2, x3, some (.l (bs.map PyData.bool)), some (.d v.dat), none]) fun o e => o = .nx ∧ e = [some (.d f.dat), some (.d (p3t (gP f))), x2, x3, some (.l ((stepB f bs v).map PyData.bool)), some (.d v.dat), none] := by
  have hp : v.plug < bs.length := by rw [hl]; exact hf.inn.plug v hv
  have hz := hf.few v hv
  unfold M71b1
  push_cast [Var.ix0, bool_at hp]
  cases hb : bs.getD v.plug false with
  | true =>
    push_cast []
    refine ⟨by trivial, ?_⟩
    have : stepB f bs v = bs := by unfold stepB; rw [if_neg fun z => by rw [hb] at z; exact absurd z.1 (by decide)]
    rw [this]
  | false =>
    push_cast [h69 v hv, isNone_p3, bnone]
    by_cases hd : dearV v (gP f) = none
    · rw [decide_eq_true hd]
      push_cast []
      refine ⟨by trivial, ?_⟩
      have : stepB f bs v = bs := by unfold stepB; rw [if_neg fun z => z.2 hd]
      rw [this]
    · rw [decide_eq_false hd]
      push_cast [Var.ix1]
      rw [cmpT_map (dat := natD) (f := fun s => PyData.bool (bs.getD s false)) (fun s h => ⟨_, rfl, by
        push_cast [natD_eq, bool_at (by rw [hl]; exact hf.inn.slots v hv s h)]
        exact ⟨by trivial, by trivial⟩⟩)]
      rw [show (v.slots.map fun s => PyData.bool (bs.getD s false)) = (v.slots.map fun s => bs.getD s false).map PyData.bool by rw [List.map_map]; rfl]
      push_cast [cIn_bools, any_slots, Var.ix0]
      refine ⟨by trivial, ?_⟩
      have : stepB f bs v = bs.set v.plug (v.slots.any fun t => bs.getD t false) := by unfold stepB; rw [if_pos ⟨hb, hd⟩]
      rw [this, List.map_set]
theorem law_greatest_ok (C : Orc) (h70 : GRoundS C 70) (f : Fam) (hf : f.Ge) (h69 : ∀ v ∈ f.vars, C 69 [.d v.dat, .d (p3t (gP f))] = .ok (.d (p3D (dearV v (gP f)))) []) :
    F71 C [.d f.dat] = .ok (.d (p3t (gp f))) [] := by
  have hin := hf.inn
  have hs := hf.small
  have hp := hf.pos
  have run : WpC (F71 C [.d f.dat]) fun w o => w = .d (p3t (gp f)) ∧ o = [] := by
    refine wpC_run (m := M71 C) rfl rfl rfl ?_
    simp only [List.map_cons, List.map_nil, List.cons_append, List.nil_append, List.replicate]
    unfold M71
    push_cast [Fam.ix0]
    rw [cmpN_map (f := fun _ => PyData.none) (fun j hj => ⟨_, rfl, by push_cast []; exact ⟨by trivial, by trivial⟩⟩)]
    rw [show (List.range f.count).map (fun _ => PyData.none) = (gIt f 0).map p3D by simp [List.map_const', gIt, p3D]]
    push_cast [Fam.ix0]
    rw [show PyData.tuple ((gIt f 0).map p3D) = p3t (gIt f 0) from rfl]
    rcases forN_rt (tg := tgN 2) (b := M71b0 C) (n := f.count)
      (fun i e => ∃ x2 x3 : Option W, e = [some (.d f.dat), some (.d (p3t (gIt f i))), x2, x3, none, none, none])
      (fun w e => w = .d (p3t (gp f))) (e := [some (.d f.dat), some (.d (p3t (gIt f 0))), none, none, none, none, none]) ⟨none, none, rfl⟩ (fun i e hi hI => by
        obtain ⟨x2, x3, rfl⟩ := hI
        refine ⟨_, rfl, ?_⟩
        unfold M71b0
        push_cast [h70 f _ (hf.tab (gIt_len hin i)), cEq_p3t]
        by_cases hc : gRound f (gIt f i) = gIt f i
        · rw [decide_eq_true hc]
          push_cast []
          refine .inr ⟨_, rfl, ?_⟩
          rw [gIt_fix hin (Nat.le_of_lt hi) hc]
        · rw [decide_eq_false hc]
          push_cast []
          exact .inl ⟨by simp, _, _, rfl⟩) with ⟨e', h1, x2, x3, rfl⟩ | ⟨w, e', h1, rfl⟩
    · rw [h1]
      have l1 := gIt_len hin f.count
      have l2 := gIt_len hin (f.count + 1)
      have e3 := h70 f _ (hf.tab l1)
      rw [show gRound f (gIt f f.count) = gIt f (f.count + 1) from rfl] at e3
      push_cast [e3, Fam.ix0]
      rw [cmpN_map (f := fun s => PyData.bool (decide (¬ (gP f).getD s none = (gIt f (f.count + 1)).getD s none))) (fun s hs => ⟨_, rfl, by
        push_cast [ix_p3t (ts := gIt f (f.count + 1)) (s := s) (by omega), ix_p3t (ts := gIt f f.count) (s := s) (by omega), cNe_p3]
        refine ⟨?_, by trivial⟩
        exact congrArg PyData.bool (dec_ne _ _).symm⟩)]
      rw [show ((List.range f.count).map fun s => PyData.bool (decide (¬ (gP f).getD s none = (gIt f (f.count + 1)).getD s none))) = (mark0 f).map PyData.bool by unfold mark0; rw [List.map_map]; rfl]
      push_cast [Fam.ix0]
      obtain ⟨e', h2, bs, x2, x5, rfl, hb, hc⟩ := forN_inv (tg := tgN 2) (b := M71b2 C) (n := f.count)
        (fun i e => ∃ (bs : List Bool) (x2 x5 : Option W), e = [some (.d f.dat), some (.d (p3t (gP f))), x2, some (.d (p3t (gIt f (f.count + 1)))), some (.l (bs.map PyData.bool)), x5, none] ∧ RB f bs ∧ (ClB f bs ∨ i ≤ cnt bs))
        (e := [some (.d f.dat), some (.d (p3t (gIt f f.count))), x2, some (.d (p3t (gIt f (f.count + 1)))), some (.l ((mark0 f).map PyData.bool)), none, none]) ⟨mark0 f, _, _, rfl, mark_rb, .inr (Nat.zero_le _)⟩ (fun i e hi hI => by
          obtain ⟨bs, x2, x5, rfl, hb, hc⟩ := hI
          refine ⟨_, rfl, ?_⟩
          unfold M71b2
          push_cast [Fam.ix2]
          obtain ⟨e', h3, x5, rfl⟩ := forT_inv (tg := tgN 5) (b := M71b1 C) (dat := Var.dat) (xs := f.vars)
            (fun pre e => ∃ x5 : Option W, e = [some (.d f.dat), some (.d (p3t (gP f))), some (.d (.int (i : Int))), some (.d (p3t (gIt f (f.count + 1)))), some (.l ((passB f pre bs).map PyData.bool)), x5, none])
            (e := [some (.d f.dat), some (.d (p3t (gP f))), some (.d (.int (i : Int))), some (.d (p3t (gIt f (f.count + 1)))), some (.l (bs.map PyData.bool)), x5, none]) ⟨_, rfl⟩ (fun pre v post e hx hI => by
              obtain ⟨x5, rfl⟩ := hI
              have hv : v ∈ f.vars := by rw [hx]; simp
              have hb2 := passB_rb hin pre bs (fun u hu => by rw [hx]; exact List.mem_append_left _ hu) hb
              refine ⟨_, rfl, (lgr_b1 C f hf h69 v hv (passB f pre bs) hb2.len _ _).mono fun o e q => ?_⟩
              obtain ⟨rfl, rfl⟩ := q
              exact ⟨.inl rfl, _, by unfold passB; rw [List.foldl_append]; rfl⟩)
          rw [h3]
          push_cast []
          exact ⟨by simp, _, _, _, rfl, passB_rb hin f.vars bs (fun _ z => z) hb, pass_next hin hb hc⟩)
      rw [h2]
      have cl := pass_end hin hb hc
      push_cast [Fam.ix0]
      rw [cmpN_map (f := fun s => p3D (if bs.getD s false = true then some none else (gP f).getD s none)) (fun s hs => ⟨_, rfl, by
        cases hq : bs.getD s false with
        | true =>
          push_cast [bool_at (bs := bs) (s := s) (by rw [hb.len]; exact hs), hq]
          exact ⟨rfl, by trivial⟩
        | false =>
          push_cast [bool_at (bs := bs) (s := s) (by rw [hb.len]; exact hs), hq, ix_p3t (ts := gP f) (s := s) (by show s < (gIt f f.count).length; omega)]
          exact ⟨rfl, by trivial⟩⟩)]
      push_cast []
      refine ⟨?_, by trivial⟩
      rw [← qrow_gp hb cl, p3t_eq]
      unfold qrow
      rw [List.map_map]; rfl
    · rw [h1]
      push_cast []
      exact ⟨by trivial, by trivial⟩
  obtain ⟨w, o, h, rfl, rfl⟩ := run
  exact h
end Mi
set_option Elab.async false
set_option linter.all false
set_option maxRecDepth 100000
set_option maxHeartbeats 4000000
namespace Mi
open PySem L2
local macro_rules | `(tactic| push_cast [$hs,*]) => `(tactic| simp -implicitDefEqProofs (disch := first | omega | (simp only [rng_len, List.length_map, List.length_append, List.length_range, List.length_replicate, List.length_cons, List.length_nil, List.length_set, List.length_reverse, List.length_zipIdx]; omega)) only [ev_seq, ev_if, ev_ifE, ev_nx, ev_bk, ev_ct, ev_E, ev_set, ev_tg, ev_ret, ev_retO, ev_retN, ev_put, ev_for, ev_C, ev_V, ev_vr, ev_ex, ev_o1, ev_o2, ev_t2, ev_tru, ev_and, ev_or, ev_not, ev_yes, ev_andE, ev_orE, ev_notE, ev_LN, ev_LC, ev_B, ev_TN, ev_TC, ev_tup, ev_lst, ev_GN, ev_GV, ev_GR, ev_call, ev_mu, ev_lc, ev_any, ev_r1, ev_r2, ev_rep, kS_nx, kS_bk, kS_ct, kS_rt, kIf_t, kIf_f, kM_ok, kSet_ok, kAnd_t, kAnd_f, kOr_t, kOr_f, kAndE_t, kAndE_f, kOrE_t, kOrE_f, kNotE_b, oVr_s, kO2_ok, kO2'_ok, g2_ss, gv_l, gv_r, kL_ok, kL'_ok, kB_ok, gB_s, gvL_n, gvL_c, kV_ss, kT_ok, kT'_ok, kG_ok, kG'_ok, gG_l, gG_t, gG_d, kC_ok, kC1_s, kC2_ok, kP_s, take_n, take_l, take_r, put_n, put_l, put_r, pt1_s, kPut1_ok, kPut2_ok, isL_l, kMu_ok, kFor_ok, kSeqI_l, kSeqI_l', kSeqI_t, kR2_ok, kRep_ok, rV_d, rV_l, cont_n, cont_c, ct1_s, wp_ok, wpC_ok, atI_0, atI_1, atI_2, atI_3, fIx_l, fIx_t, List.length_cons, List.length_nil, Nat.zero_add, Nat.reduceAdd, Int.reduceLT, Int.reduceLE, Int.reduceAdd, Int.reduceMul, Int.reduceToNat, Int.reduceNeg, Int.reduceSub, Nat.reduceLT, Nat.reduceLeDiff, Nat.reduceMul, gt_iff_lt, ge_iff_le, ixN_4_0, ixN_4_1, ixN_4_2, ixN_4_3, wipe_n, wipe_c, tgN_r, tgT_r, tgL_n, tgL_c, ofO_some, vw_d, vw_l, fAddI_int, fSub_int, fNeg_int, fMod_p, fMul_31, fMul_48271, fMul_69621, fPow18, fPow9, cCmp_int, cEq_int, cNe_int, cEq_str, cNe_str, cOrd_int, ev_aug, kAug_ok, ev_en, kEn_t, fIs_int, fIs_bool, fIs_none, fIs_str, fIs_list, fIs_tuple, isTy_int_int, isTy_int_bool, isTy_tuple_tuple, cIs_none, cIsNot_none, isNone_none, isNone_int, isNone_str, isNone_tuple, isNone_list, isNone_bool, truD_l, truD_t, truD_b, truD_n, bLen_l, bLen_t, bAbs_int, bInt_int, bMax_int, bMin_int, bList_l, bList_t, bTuple_l, bTuple_t, Option.map_some, Option.bind_some, List.getD_cons_zero, List.getD_cons_succ, List.set_cons_zero, List.set_cons_succ, if_true, if_false, lB, ↓reduceIte, Bool.not_true, Bool.not_false, kO1_ok, g1_s, kTru_ok, vf_d, vf_l, tk1_s, tkW_s, isO_l, isO_t, kF_ok, endF_r, endF_n, kF_ex, endX_s, rV_t, lpos_n, lpos_l, lpos_t, lpos_d, fAdd_int, ev_pN, ev_pS, kP1_i, ev_sl, kSl_ok, kSl2_ok, kSl3_ok, fSl_l, fSl_t, fRev_l, fRev_t, kR1_c, kR1_n, kR2_c, kLc_c, kRep2_n, gPut_n, gPut_c, gMu_app, rep_n, vw_d, List.length_map, List.length_range, rng_len, Int.toNat_natCast, beq_self_eq_true, Bool.not_true, Bool.not_false, Option.isNone_none, Option.isNone_some, decide_true, decide_false, ev_forN, List.isEmpty_nil, List.isEmpty_cons, kTg_2, kTg_3, ev_mv, gMv_s, ev_rvA, kRvA_t, kRvA_d, kRvA_l, ev_g1, kg1_i, ev_g2, kg2a_i, kg2_i, fNotT_l, fNotT_b, ev_tupR, ev_lstR, kTupR_s, kLstR_s, ev_rvR, kRvR_s, $hs,*])
def M67b0 (C : Orc) : MS :=
 (sSeq (sSet 9 (eO2 fSub (.ex (eO2 fMod (.ex (eB bInt [(.ex (eO2 fAdd (.ex (eO2 fMul (.vr 8) (.vr 5))) (.vr 3)))])) (.ex (eC (.int 10))))) (.ex (eO2 fMul (.ex (eC (.int 4))) (.vr 1)))))
 (sSeq (sSet 10 (eO2 fAdd (.vr 8) (.vr 3)))
 (sSeq (sIf (tO2 cEq (.vr 4) (.ex (eC (.int 1))))
 (sSet 10 (eO2 fMod (.ex (eB bInt [(.ex (eO2 fAdd (.vr 8) (.vr 3)))])) (.vr 2)))
 sNx)
 (sSeq (sIf (tO2 cLt (.vr 10) (.vr 2))
 (sE (eMu mApp 7 [(eTup [(eV 8), (eTup [(eV 10)]), (eV 9)])]))
 sNx)
 (sIf (tO2 cEq (.ex (eO2 fMod (.ex (eB bInt [(.vr 8)])) (.vr 6))) (.ex (eC (.int 0))))
 (sE (eMu mApp 7 [(eTup [(eV 8), (eTup []), (eO2 fSub (.ex (eO2 fSub (.ex (eC (.int 9))) (.ex (eO2 fMul (.ex (eC (.int 4))) (.vr 1))))) (.ex (eO2 fMod (.ex (eB bInt [(.vr 8)])) (.ex (eC (.int 10))))))])]))
 sNx)))))
/-- _law_large -/
def M67 (C : Orc) : MS :=
 (sSeq (sSet 2 (eO2 fAddI (.ex (eC (.int 20))) (.ex (eCall C 5 [.rf 0, .vl (eC (.int 21))]))))
 (sSeq (sSet 3 (eO2 fAddI (.ex (eC (.int 1))) (.ex (eCall C 5 [.rf 0, .vl (eC (.int 7))]))))
 (sSeq (sSet 4 (eCall C 5 [.rf 0, .vl (eC (.int 2))]))
 (sSeq (sSet 5 (eO2 fAddI (.ex (eC (.int 1))) (.ex (eCall C 5 [.rf 0, .vl (eC (.int 9))]))))
 (sSeq (sSet 6 (eO2 fAddI (.ex (eC (.int 1))) (.ex (eCall C 5 [.rf 0, .vl (eC (.int 9))]))))
 (sSeq (sSet 7 (eLst []))
 (sSeq (sFor (iR1 (eV 2)) (tgN 8)
 (M67b0 C))
 (sRet (eTup [(eV 2), (eB bTuple [(.ex (eSl (.ex (eLst [(eC (.int 0)), (eO2 fDiv (.vr 2) (.ex (eC (.int 2))))])) (some (eCall C 5 [.rf 0, .vl (eC (.int 2))])) none))]), (eB bTuple [(.vr 7)])])))))))))
def F67 (C : Orc) : List W → CRes := runF 2 11 [[0]] (M67 C)
def M68b0 (C : Orc) : MS :=
 (sSeq (sSet 4 (eO2 fIx (.vr 3) (.ex (eC (.int 2)))))
 (sSeq (sIf (tO2 cIsNot (.vr 4) (.ex (eC .none)))
 (sSet 4 (eO2 fMul (.vr 4) (.vr 1)))
 sNx)
 (sE (eMu mApp 2 [(eTup [(eO2 fIx (.vr 3) (.ex (eC (.int 0)))), (eO2 fIx (.vr 3) (.ex (eC (.int 1)))), (eV 4)])]))))
/-- _law_times -/
def M68 (C : Orc) : MS :=
 (sSeq (sSet 2 (eLst []))
 (sSeq (sFor (iAny (eO2 fIx (.vr 0) (.ex (eC (.int 2))))) (tgN 3)
 (M68b0 C))
 (sRet (eTup [(eO2 fIx (.vr 0) (.ex (eC (.int 0)))), (eO2 fIx (.vr 0) (.ex (eC (.int 1)))), (eB bTuple [(.vr 2)])]))))
def F68 (C : Orc) : List W → CRes := runF 2 5 [[]] (M68 C)
/-! ### rows and rings of many states -/
structure Var.Lg (c : Nat) (low : Int) (v : Var) : Prop where
  plug : v.plug < c
  slots : ∀ s ∈ v.slots, s < c
  len : v.slots.length ≤ 1
  price : ∃ p, v.price = some p ∧ p.natAbs ≤ 13 ∧ (low = 0 → 0 ≤ p)
structure Fam.Lg (low : Int) (f : Fam) : Prop where
  count : 20 ≤ f.count ∧ f.count ≤ 40
  roots : ∀ s ∈ f.roots, s < f.count
  asc : f.roots.Pairwise (· < ·)
  vars : ∀ v ∈ f.vars, v.Lg f.count low
  len : f.vars.length ≤ 80
theorem lg_b0 (C : Orc) {c low step ring factor leaves : Int} (hc : 20 ≤ c ∧ c ≤ 40) (hl : 0 ≤ low ∧ low ≤ 1) (hs : 1 ≤ step ∧ step ≤ 7) (hf : 1 ≤ factor ∧ factor ≤ 9) (hv : 1 ≤ leaves ∧ leaves ≤ 9) (vs : List Var) (hvs : ∀ v ∈ vs, v.Lg c.toNat low) (j : Nat) (hj : (j : Int) < c) (hlen : vs.length ≤ 2 * j) (x0 x9 x10 : Option W) :
    Wp (M67b0 C [x0, some (.d (.int low)), some (.d (.int c)), some (.d (.int step)), some (.d (.int ring)), some (.d (.int factor)), some (.d (.int leaves)), some (.l (vs.map Var.dat)), some (.d (.int (j : Int))), x9, x10]) fun o e => o = .nx ∧
      ∃ (us : List Var) (x9 x10 : Option W), e = [x0, some (.d (.int low)), some (.d (.int c)), some (.d (.int step)), some (.d (.int ring)), some (.d (.int factor)), some (.d (.int leaves)), some (.l (us.map Var.dat)), some (.d (.int (j : Int))), x9, x10] ∧ (∀ v ∈ us, v.Lg c.toNat low) ∧ us.length ≤ 2 * (j + 1) := by
  have add : ∀ (us : List Var) (u : Var), (∀ v ∈ us, v.Lg c.toNat low) → u.Lg c.toNat low → ∀ v ∈ us ++ [u], v.Lg c.toNat low := fun us u h1 h2 v hv => by
    rcases List.mem_append.mp hv with hv | hv
    · exact h1 v hv
    · rw [List.mem_singleton.mp hv]; exact h2
  have m1 : fMul (.int (j : Int)) (.int factor) = some (.d (.int ((j : Int) * factor))) := fMul_r (by omega)
  have m2 : fMul (.int 4) (.int low) = some (.d (.int (4 * low))) := fMul_r (by omega)
  have hr1 : 0 ≤ ((j : Int) * factor + step) % 10 ∧ ((j : Int) * factor + step) % 10 < 10 := ⟨Int.emod_nonneg _ (by decide), Int.emod_lt_of_pos _ (by decide)⟩
  have hr2 : 0 ≤ (j : Int) % 10 ∧ (j : Int) % 10 < 10 := ⟨Int.emod_nonneg _ (by decide), Int.emod_lt_of_pos _ (by decide)⟩
  -- the goal
  obtain ⟨g, hg0, hg⟩ : ∃ g : Int, 0 ≤ g ∧ sIf (tO2 cEq (.vr 4) (.ex (eC (.int 1)))) (sSet 10 (eO2 fMod (.ex (eB bInt [(.ex (eO2 fAdd (.vr 8) (.vr 3)))])) (.vr 2))) sNx
      [x0, some (.d (.int low)), some (.d (.int c)), some (.d (.int step)), some (.d (.int ring)), some (.d (.int factor)), some (.d (.int leaves)), some (.l (vs.map Var.dat)), some (.d (.int (j : Int))), some (.d (.int (((j : Int) * factor + step) % 10 - 4 * low))), some (.d (.int ((j : Int) + step)))]
      = .ok .nx [x0, some (.d (.int low)), some (.d (.int c)), some (.d (.int step)), some (.d (.int ring)), some (.d (.int factor)), some (.d (.int leaves)), some (.l (vs.map Var.dat)), some (.d (.int (j : Int))), some (.d (.int (((j : Int) * factor + step) % 10 - 4 * low))), some (.d (.int g))] := by
    by_cases hr : ring = 1
    · subst hr
      exact ⟨((j : Int) + step) % c, Int.emod_nonneg _ (by omega), by push_cast [fMod_p (i := (j : Int) + step) (j := c) (by omega)]⟩
    · exact ⟨(j : Int) + step, by omega, by push_cast [show (ring == 1) = false by simpa using hr]⟩
  unfold M67b0
  rw [sSeq_step (e' := [x0, some (.d (.int low)), some (.d (.int c)), some (.d (.int step)), some (.d (.int ring)), some (.d (.int factor)), some (.d (.int leaves)), some (.l (vs.map Var.dat)), some (.d (.int (j : Int))), some (.d (.int (((j : Int) * factor + step) % 10 - 4 * low))), x10]) (by push_cast [m1, m2, fMod_p (i := (j : Int) * factor + step) (j := 10) (by decide)])]
  rw [sSeq_step (e' := [x0, some (.d (.int low)), some (.d (.int c)), some (.d (.int step)), some (.d (.int ring)), some (.d (.int factor)), some (.d (.int leaves)), some (.l (vs.map Var.dat)), some (.d (.int (j : Int))), some (.d (.int (((j : Int) * factor + step) % 10 - 4 * low))), some (.d (.int ((j : Int) + step)))]) (by push_cast [])]
  rw [sSeq_step hg]
  have lv : (vs.map Var.dat).length < 16777216 := by rw [List.length_map]; omega
  obtain ⟨us, hus, hul, hx⟩ : ∃ us : List Var, (∀ v ∈ us, v.Lg c.toNat low) ∧ us.length ≤ 2 * j + 1 ∧ sIf (tO2 cLt (.vr 10) (.vr 2)) (sE (eMu mApp 7 [(eTup [(eV 8), (eTup [(eV 10)]), (eV 9)])])) sNx
      [x0, some (.d (.int low)), some (.d (.int c)), some (.d (.int step)), some (.d (.int ring)), some (.d (.int factor)), some (.d (.int leaves)), some (.l (vs.map Var.dat)), some (.d (.int (j : Int))), some (.d (.int (((j : Int) * factor + step) % 10 - 4 * low))), some (.d (.int g))]
      = .ok .nx [x0, some (.d (.int low)), some (.d (.int c)), some (.d (.int step)), some (.d (.int ring)), some (.d (.int factor)), some (.d (.int leaves)), some (.l (us.map Var.dat)), some (.d (.int (j : Int))), some (.d (.int (((j : Int) * factor + step) % 10 - 4 * low))), some (.d (.int g))] := by
    by_cases hgc : g < c
    · refine ⟨vs ++ [⟨j, [g.toNat], some (((j : Int) * factor + step) % 10 - 4 * low)⟩], add vs _ hvs ⟨by show j < c.toNat; omega, fun s hs => ?_, Nat.le_refl _, _, rfl, by omega, fun h => by omega⟩, by simp; omega, ?_⟩
      · have : s = g.toNat := by simpa using hs
        omega
      · push_cast [decide_eq_true hgc]
        rw [List.map_append]
        have : PyData.int g = natD g.toNat := by unfold natD; congr 1; omega
        rw [this]; rfl
    · exact ⟨vs, hvs, by omega, by push_cast [decide_eq_false hgc]⟩
  rw [sSeq_step hx]
  have lu : (us.map Var.dat).length < 16777216 := by rw [List.length_map]; omega
  by_cases hm : (j : Int) % leaves = 0
  · push_cast [fMod_p (i := (j : Int)) (j := leaves) (by omega), hm, m2, fMod_p (i := (j : Int)) (j := 10) (by decide)]
    refine ⟨by trivial, us ++ [⟨j, [], some (9 - 4 * low - (j : Int) % 10)⟩], _, _, by rw [List.map_append]; rfl, add us _ hus ⟨by show j < c.toNat; omega, fun s hs => (nomatch hs), Nat.zero_le _, _, rfl, by omega, fun h => by omega⟩, by simp; omega⟩
  · push_cast [fMod_p (i := (j : Int)) (j := leaves) (by omega), show ((j : Int) % leaves == 0) = false by simpa using hm]
    exact ⟨by trivial, us, _, _, rfl, hus, by omega⟩
theorem large_ok (C : Orc) (hD : DrawS C) {t : List D} (ht : TapeOk t) (low : Int) (hl : 0 ≤ low ∧ low ≤ 1) :
    ∃ (f : Fam) (t' : List D), F67 C [.l t, .d (.int low)] = .ok (.d f.dat) [.l t'] ∧ TapeOk t' ∧ f.Lg low := by
  have run : WpC (F67 C [.l t, .d (.int low)]) fun w o => ∃ (f : Fam) (t' : List D), w = .d f.dat ∧ o = [.l t'] ∧ TapeOk t' ∧ f.Lg low := by
    refine wpC_run (m := M67 C) rfl rfl rfl ?_
    simp only [List.map_cons, List.map_nil, List.cons_append, List.nil_append, List.replicate]
    unfold M67
    obtain ⟨c, t1, h1, ht1, c0, c1⟩ := hD t ht 21 (by decide)
    obtain ⟨st, t2, h2, ht2, s0, s1⟩ := hD t1 ht1 7 (by decide)
    obtain ⟨ring, t3, h3, ht3, r0, r1⟩ := hD t2 ht2 2 (by decide)
    obtain ⟨fa, t4, h4, ht4, f0, f1⟩ := hD t3 ht3 9 (by decide)
    obtain ⟨lv, t5, h5, ht5, v0, v1⟩ := hD t4 ht4 9 (by decide)
    obtain ⟨k, t6, h6, ht6, k0, k1⟩ := hD t5 ht5 2 (by decide)
    push_cast [h1, h2, h3, h4, h5]
    obtain ⟨e', h7, vs, x8, x9, x10, rfl, hvs, hvl⟩ := forN_inv (tg := tgN 8) (b := M67b0 C) (n := (20 + c).toNat)
      (fun j e => ∃ (vs : List Var) (x8 x9 x10 : Option W), e = [some (.l t5), some (.d (.int low)), some (.d (.int (20 + c))), some (.d (.int (1 + st))), some (.d (.int ring)), some (.d (.int (1 + fa))), some (.d (.int (1 + lv))), some (.l (vs.map Var.dat)), x8, x9, x10] ∧ (∀ v ∈ vs, v.Lg (20 + c).toNat low) ∧ vs.length ≤ 2 * j)
      (e := [some (.l t5), some (.d (.int low)), some (.d (.int (20 + c))), some (.d (.int (1 + st))), some (.d (.int ring)), some (.d (.int (1 + fa))), some (.d (.int (1 + lv))), some (.l []), none, none, none]) ⟨[], _, _, _, rfl, (fun v h => by cases h), Nat.le_refl _⟩ (fun j e hj hI => by
        obtain ⟨vs, x8, x9, x10, rfl, hvs, hvl⟩ := hI
        refine ⟨_, rfl, (lg_b0 C (c := 20 + c) (by omega) hl (step := 1 + st) (by omega) (ring := ring) (factor := 1 + fa) (by omega) (leaves := 1 + lv) (by omega) vs hvs j (by omega) hvl _ x9 x10).mono fun o e q => ?_⟩
        obtain ⟨rfl, us, x9, x10, rfl, h1, h2⟩ := q
        exact ⟨.inl rfl, us, _, _, _, rfl, h1, h2⟩)
    rw [h7]
    have hdv : (20 + c) / 2 < 20 + c ∧ 1 ≤ (20 + c) / 2 := by omega
    obtain ⟨rs, hrs, hra, hrc⟩ : ∃ rs : List Nat, (∀ s ∈ rs, s < (20 + c).toNat) ∧ rs.Pairwise (· < ·) ∧ cutD [PyData.int 0, .int ((20 + c) / 2)] (some k) none = rs.map natD := by
      have e2 : PyData.int ((20 + c) / 2) = natD ((20 + c) / 2).toNat := by unfold natD; congr 1; omega
      rcases (show k = 0 ∨ k = 1 by omega) with rfl | rfl
      · refine ⟨[0, ((20 + c) / 2).toNat], fun s hs => ?_, ?_, ?_⟩
        · rcases (show s = 0 ∨ s = ((20 + c) / 2).toNat by simpa using hs) with rfl | rfl <;> omega
        · refine List.pairwise_cons.mpr ⟨fun s hs => ?_, List.pairwise_singleton _ _⟩
          rw [List.mem_singleton.mp hs]; omega
        · rw [e2]; exact cutD_from (k := 0)
      · refine ⟨[((20 + c) / 2).toNat], fun s hs => ?_, List.pairwise_singleton _ _, ?_⟩
        · rw [List.mem_singleton.mp hs]; omega
        · rw [e2]; exact cutD_from (k := 1)
    push_cast [fDiv_p (i := 20 + c) (j := 2) (by decide) (by decide), h6, hrc]
    refine ⟨⟨(20 + c).toNat, rs, vs⟩, t6, ?_, by trivial, ht6, ⟨⟨by show 20 ≤ (20 + c).toNat; omega, by show (20 + c).toNat ≤ 40; omega⟩, hrs, hra, hvs, by show vs.length ≤ 80; omega⟩⟩
    have : PyData.int (20 + c) = natD (20 + c).toNat := by unfold natD; congr 1; omega
    rw [this]; rfl
  obtain ⟨w, o, h, f, t', rfl, rfl, h1⟩ := run
  exact ⟨f, t', h, h1⟩
/-! ### how large prices get -/
def Bd (p d k : Nat) : Nat := p * (d + 1) ^ k
theorem bd_step {p d k : Nat} : p + d * Bd p d k ≤ Bd p d (k + 1) := by
  unfold Bd
  have h1 : p * 1 ≤ p * (d + 1) ^ k := Nat.mul_le_mul_left _ (Nat.one_le_pow _ _ (by omega))
  have h2 : p * (d + 1) ^ (k + 1) = p * (d + 1) ^ k * (d + 1) := by rw [Nat.pow_succ, Nat.mul_assoc]
  rw [h2, Nat.mul_succ, Nat.mul_comm d]
  omega
theorem bd_mono {p d : Nat} {j k : Nat} (h : j ≤ k) : Bd p d j ≤ Bd p d k := Nat.mul_le_mul_left _ (Nat.pow_le_pow_right (by omega) h)
theorem valsI_bd {g : Nat → P3} {B : Nat} : ∀ (sl : List Nat), (∀ s ∈ sl, ∀ i, g s = some (some i) → i.natAbs ≤ B) → (valsI (sl.map g)).sum.natAbs ≤ sl.length * B
  | [], _ => by simp [valsI]
  | s :: sl, h => by
    have ih := valsI_bd (g := g) sl fun t ht => h t (List.mem_cons_of_mem _ ht)
    rw [List.length_cons, Nat.succ_mul]
    cases hg : g s with
    | none =>
      have : valsI ((s :: sl).map g) = valsI (sl.map g) := by simp [valsI, hg]
      rw [this]; omega
    | some z =>
      cases z with
      | none =>
        have : valsI ((s :: sl).map g) = valsI (sl.map g) := by simp [valsI, hg]
        rw [this]; omega
      | some i =>
        have : valsI ((s :: sl).map g) = i :: valsI (sl.map g) := by simp [valsI, hg]
        have h1 := h s List.mem_cons_self i hg
        rw [this, List.sum_cons]
        omega
theorem gIt_bd {f : Fam} (hin : f.In f.count) {p d : Nat} (hp : f.Pr p) (hd : ∀ v ∈ f.vars, v.slots.length ≤ d) : ∀ (k s : Nat) (i : Int), (gIt f k).getD s none = some (some i) → i.natAbs ≤ Bd p d k
  | 0, s, i, h => by
    have : (gIt f 0).getD s none = none := repG
    rw [this] at h; cases h
  | k + 1, s, i, h => by
    obtain ⟨v, hv, _, e⟩ := gRound_is hin h
    have ih := gIt_bd hin hp hd k
    have h1 := valsI_bd (g := fun s => (gIt f k).getD s none) (B := Bd p d k) v.slots fun s _ i hi => ih s i hi
    unfold dearV at e
    generalize (v.slots.map fun s => (gIt f k).getD s none) = fs at *
    cases hpr : v.price with
    | none => rw [hpr] at e; cases e
    | some q =>
      rw [hpr] at e
      cases hN : hasN fs with
      | true => rw [dear_p hN] at e; cases e
      | false =>
        cases hU : hasU fs with
        | true => rw [dear_u hN hU] at e; cases e
        | false =>
          rw [dear_s hN hU] at e
          cases e
          have h2 := hp v hv q hpr
          have h3 := bd_step (p := p) (d := d) (k := k)
          have h4 : v.slots.length * Bd p d k ≤ d * Bd p d k := Nat.mul_le_mul_right _ (hd v hv)
          omega
theorem wsum_bd {ws : List Wt} {B : Nat} : ∀ (sl : List Nat) (p n : Int) (q : Int × Int), (∀ s ∈ sl, ∀ z, ws.getD s none = some z → z.1.natAbs ≤ B) → wsum ws sl p n = some q → q.1.natAbs ≤ p.natAbs + sl.length * B
  | [], p, n, q, _, h => by cases h; simp
  | s :: sl, p, n, q, g, h => by
    cases hs : ws.getD s none with
    | none => rw [ws_no hs] at h; cases h
    | some z =>
      rw [ws_some hs] at h
      have ih := wsum_bd sl _ _ q (fun t ht => g t (List.mem_cons_of_mem _ ht)) h
      have h1 := g s List.mem_cons_self z hs
      rw [List.length_cons, Nat.succ_mul]
      omega
theorem wIt_bd {f : Fam} (hin : f.In f.count) {p d : Nat} (hp : f.Pr p) (hd : ∀ v ∈ f.vars, v.slots.length ≤ d) : ∀ (k s : Nat) (q : Int × Int), (wIt f k).getD s none = some q → q.1.natAbs ≤ Bd p d k
  | 0, s, q, h => by
    have : (wIt f 0).getD s none = none := repG
    rw [this] at h; cases h
  | k + 1, s, q, h => by
    obtain ⟨v, hv, _, e⟩ := round_is hin.plug h
    have ih := wIt_bd hin hp hd k
    cases hpr : v.price with
    | none => rw [weight_none hpr] at e; cases e
    | some x =>
      rw [weight_some hpr] at e
      have h1 := wsum_bd v.slots x 1 q (fun s _ z hz => ih s z hz) e
      have h2 := hp v hv x hpr
      have h3 := bd_step (p := p) (d := d) (k := k)
      have h4 : v.slots.length * Bd p d k ≤ d * Bd p d k := Nat.mul_le_mul_right _ (hd v hv)
      omega
theorem gp_bd {f : Fam} (hin : f.In f.count) {p d : Nat} (hp : f.Pr p) (hd : ∀ v ∈ f.vars, v.slots.length ≤ d) {s : Nat} (hs : s < f.count) {i : Int} (h : (gp f).getD s none = some (some i)) : i.natAbs ≤ Bd p d f.count := by
  unfold gp at h
  rw [gmap hs] at h
  split at h
  · cases h
  · exact gIt_bd hin hp hd _ _ _ h
theorem pat_lw {f : Fam} (hin : f.In f.count) : ∀ k, pat (gIt f k) (wIt f k)
  | 0 => fun s => by
    show (List.replicate f.count (none : P3)).getD s none = none ↔ (List.replicate f.count (none : Wt)).getD s none = none
    rw [repG, repG]
    simp
  | k + 1 => by
    have ih := pat_lw hin k
    have dw : ∀ v : Var, dearV v (gIt f k) = none ↔ weight v (wIt f k) = none := fun v => by
      rw [dear_none, weight_none_iff]
      constructor
      · rintro (h1 | ⟨s, h1, h2⟩)
        · exact .inl h1
        · exact .inr ⟨s, h1, (ih s).mp h2⟩
      · rintro (h1 | ⟨s, h1, h2⟩)
        · exact .inl h1
        · exact .inr ⟨s, h1, (ih s).mpr h2⟩
    exact pat_round hin hin rfl ih (fun v hv => ⟨v, hv, rfl, dw v⟩) fun v hv => ⟨v, hv, rfl, dw v⟩
theorem gp_none {f : Fam} (hin : f.In f.count) {s : Nat} (hs : s < f.count) : (gp f).getD s none = none ↔ f.lw.getD s none = none := by
  have h1 := pat_lw hin f.count s
  show _ ↔ (wIt f f.count).getD s none = none
  rw [← h1]
  unfold gp
  rw [gmap hs]
  split
  · rename_i r
    have := ris_some hin r
    simp
    intro h
    exact this (by rw [List.getD_eq_getElem?_getD]; exact h)
  · exact Iff.rfl
theorem nice_i {i : Int} {B : Nat} (h : i.natAbs ≤ B) (hB : B < 2 ^ 1000) : nice (.int i) = true := by
  show decide (i.natAbs.log2 < 1000) = true
  refine decide_eq_true ?_
  by_cases h0 : i.natAbs = 0
  · rw [h0]; decide
  · exact (Nat.log2_lt h0).mpr (Nat.lt_of_le_of_lt h hB)
def Var.times (k : Int) (v : Var) : Var := ⟨v.plug, v.slots, v.price.map (· * k)⟩
def Fam.times (k : Int) (f : Fam) : Fam := ⟨f.count, f.roots, f.vars.map (Var.times k)⟩
theorem times_ok (C : Orc) (f : Fam) (k : Int) (hp : ∀ v ∈ f.vars, ∀ i, v.price = some i → i.natAbs < 18446744073709551616) (hl : f.vars.length ≤ 1000000) : F68 C [.d f.dat, .d (.int k)] = .ok (.d (f.times k).dat) [] := by
  have run : WpC (F68 C [.d f.dat, .d (.int k)]) fun w o => w = .d (f.times k).dat ∧ o = [] := by
    refine wpC_run (m := M68 C) rfl rfl rfl ?_
    simp only [List.map_cons, List.map_nil, List.cons_append, List.nil_append, List.replicate]
    unfold M68
    push_cast [Fam.ix2]
    obtain ⟨e', h1, x3, x4, rfl⟩ := forT_inv (dat := Var.dat) (tg := tgN 3) (b := M68b0 C) (xs := f.vars)
      (fun pre e => ∃ x3 x4, e = [some (.d f.dat), some (.d (.int k)), some (.l ((pre.map (Var.times k)).map Var.dat)), x3, x4])
      (e := [some (.d f.dat), some (.d (.int k)), some (.l []), none, none]) ⟨_, _, rfl⟩ (fun pre v post e hx hI => by
        obtain ⟨x3, x4, rfl⟩ := hI
        refine ⟨_, rfl, ?_⟩
        have hv : v ∈ f.vars := by rw [hx]; simp
        have hlen : ((pre.map (Var.times k)).map Var.dat).length ≤ 1000000 := by
          have := congrArg List.length hx
          simp at this ⊢; omega
        unfold M68b0
        cases hpr : v.price with
        | none =>
          push_cast [Var.ix0, Var.ix1, Var.ix2, hpr, priceD_none]
          exact ⟨by simp, _, _, by simp [Var.times, Var.dat, hpr, priceD, natD]; exact ⟨rfl, rfl⟩⟩
        | some i =>
          have := hp v hv i hpr
          push_cast [Var.ix0, Var.ix1, Var.ix2, hpr, priceD_some, fMul_l this]
          exact ⟨by simp, _, _, by simp [Var.times, Var.dat, hpr, priceD, natD]; exact ⟨rfl, rfl⟩⟩)
    rw [h1]
    push_cast [Fam.ix0, Fam.ix1]
    exact ⟨by simp [Fam.times, Fam.dat, natD], by trivial⟩
  obtain ⟨w, o, h, rfl, rfl⟩ := run
  exact h
/-! ### one further round changes nothing -/
theorem dear_val {v : Var} {ts : List P3} {p : Int} (hp : v.price = some p) (h : ∀ s ∈ v.slots, ∃ i, ts.getD s none = some (some i)) : dearV v ts = some (some (p + (v.slots.map fun s => ((ts.getD s none).bind id).getD 0).sum)) := by
  unfold dearV
  rw [hp]
  have h1 : hasN (v.slots.map fun s => ts.getD s none) = false := by
    cases q : hasN (v.slots.map fun s => ts.getD s none) with
    | false => rfl
    | true =>
      obtain ⟨s, hs, e⟩ := hasN_iff.mp q
      obtain ⟨i, hi⟩ := h s hs
      rw [hi] at e; cases e
  have h2 : hasU (v.slots.map fun s => ts.getD s none) = false := by
    cases q : hasU (v.slots.map fun s => ts.getD s none) with
    | false => rfl
    | true =>
      obtain ⟨s, hs, e⟩ := hasU_iff.mp q
      obtain ⟨i, hi⟩ := h s hs
      rw [hi] at e; cases e
  rw [dear_s h1 h2]
  congr 3
  have main : ∀ sl : List Nat, (∀ s ∈ sl, ∃ i, ts.getD s none = some (some i)) → valsI (sl.map fun s => ts.getD s none) = sl.map fun s => ((ts.getD s none).bind id).getD 0 := by
    intro sl
    induction sl with
    | nil => intro _; rfl
    | cons s sl ih =>
      intro h
      obtain ⟨i, hi⟩ := h s List.mem_cons_self
      have := ih fun t ht => h t (List.mem_cons_of_mem _ ht)
      unfold valsI at this ⊢
      rw [List.map_cons, List.filterMap_cons, hi, this, List.map_cons, hi]
      rfl
  rw [main v.slots h]
section
variable {f : Fam} (hin : f.In f.count)
include hin
theorem gIt_cases (k s : Nat) : (gIt f k).getD s none = none ∨ ∃ i, (gIt f k).getD s none = some (some i) := by
  cases h : (gIt f k).getD s none with
  | none => exact .inl rfl
  | some z =>
    cases z with
    | none => exact absurd h (gIt_noU hin k s)
    | some i => exact .inr ⟨i, rfl⟩
/-- dearer slots, a dearer variant -/
theorem dear_mono {j k : Nat} (h : ∀ s, ple ((gIt f j).getD s none) ((gIt f k).getD s none)) (v : Var) : ple (dearV v (gIt f j)) (dearV v (gIt f k)) := by
  by_cases hd : dearV v (gIt f j) = none
  · rw [hd]; exact ple_none
  · cases hp : v.price with
    | none => exact absurd (dear_none.mpr (.inl hp)) hd
    | some p =>
      have a1 : ∀ s ∈ v.slots, ∃ i, (gIt f j).getD s none = some (some i) := fun s hs => (gIt_cases hin j s).resolve_left fun e => hd (dear_none.mpr (.inr ⟨s, hs, e⟩))
      have a2 : ∀ s ∈ v.slots, ∃ i, (gIt f k).getD s none = some (some i) := fun s hs => (gIt_cases hin k s).resolve_left fun e => by
        obtain ⟨i, hi⟩ := a1 s hs
        have := h s
        rw [hi, e] at this
        exact this rfl
      rw [dear_val hp a1, dear_val hp a2]
      have main : ∀ sl : List Nat, (∀ s ∈ sl, ∃ i, (gIt f j).getD s none = some (some i)) → (∀ s ∈ sl, ∃ i, (gIt f k).getD s none = some (some i)) → (sl.map fun s => (((gIt f j).getD s none).bind id).getD 0).sum ≤ (sl.map fun s => (((gIt f k).getD s none).bind id).getD 0).sum := by
        intro sl
        induction sl with
        | nil => intro _ _; exact Int.le_refl _
        | cons s sl ih =>
          intro g1 g2
          have := ih (fun t ht => g1 t (List.mem_cons_of_mem _ ht)) fun t ht => g2 t (List.mem_cons_of_mem _ ht)
          obtain ⟨x, hx⟩ := g1 s List.mem_cons_self
          obtain ⟨y, hy⟩ := g2 s List.mem_cons_self
          have hxy : x ≤ y := by
            have q := h s
            rw [hx, hy] at q
            rcases Int.lt_or_le y x with z | z
            · exact absurd (decide_eq_true z) q
            · exact z
          simp only [List.map_cons, List.sum_cons, hx, hy]
          show x + _ ≤ y + _
          omega
      have := main v.slots a1 a2
      intro q
      have := of_decide_eq_true (show decide _ = true from q)
      omega
theorem gIt_up : ∀ (k s : Nat), ple ((gIt f k).getD s none) ((gIt f (k + 1)).getD s none)
  | 0, s => by
    have : (gIt f 0).getD s none = none := repG
    rw [this]; exact ple_none
  | k + 1, s => gRound_le hin fun v _ _ => dear_mono hin (gIt_up k) v
theorem gIt_le {j k : Nat} (h : j ≤ k) (s : Nat) : ple ((gIt f j).getD s none) ((gIt f k).getD s none) := by
  induction k with
  | zero => rw [show j = 0 by omega]; exact ple_refl _
  | succ k ih =>
    rcases Nat.lt_or_ge k j with z | z
    · rw [show j = k + 1 by omega]; exact ple_refl _
    · exact ple_trans (ih z) (gIt_up hin k s)
def pv (f : Fam) (k s : Nat) : Int := (((gIt f k).getD s none).bind id).getD 0
theorem pv_le {j k s : Nat} (h : j ≤ k) (hs : (gIt f j).getD s none ≠ none) : pv f j s ≤ pv f k s := by
  obtain ⟨x, hx⟩ := (gIt_cases hin j s).resolve_left hs
  have q := gIt_le hin h s
  obtain ⟨y, hy⟩ := (gIt_cases hin k s).resolve_left fun e => by rw [hx, e] at q; exact q rfl
  unfold pv
  rw [hx, hy]
  rw [hx, hy] at q
  rcases Int.lt_or_le y x with z | z
  · exact absurd (decide_eq_true z) q
  · exact z
theorem sum_up {j k : Nat} (h : j ≤ k) : ∀ (sl : List Nat), (∀ s ∈ sl, (gIt f j).getD s none ≠ none) → (sl.map (pv f j)).sum ≤ (sl.map (pv f k)).sum ∧ ∀ t ∈ sl, pv f k t - pv f j t ≤ (sl.map (pv f k)).sum - (sl.map (pv f j)).sum
  | [], _ => ⟨Int.le_refl _, fun t ht => by cases ht⟩
  | s :: sl, g => by
    obtain ⟨h1, h2⟩ := sum_up h sl fun t ht => g t (List.mem_cons_of_mem _ ht)
    have h3 := pv_le hin h (g s List.mem_cons_self)
    simp only [List.map_cons, List.sum_cons]
    refine ⟨by omega, fun t ht => ?_⟩
    rcases List.mem_cons.mp ht with rfl | ht
    · omega
    · have := h2 t ht
      omega
/-- it changed in the round behind k -/
def Chg (f : Fam) (k s : Nat) : Prop := plt ((gIt f k).getD s none) ((gIt f (k + 1)).getD s none)
theorem chg_of {k s : Nat} (h : (gIt f (k + 1)).getD s none ≠ (gIt f k).getD s none) : Chg f k s := by
  rcases plt_tri ((gIt f k).getD s none) ((gIt f (k + 1)).getD s none) with z | z | z
  · exact z
  · exact absurd z.symm h
  · exact absurd z (gIt_up hin k s)
theorem chg_lt {k s : Nat} (h : Chg f k s) : s < f.count := by
  by_cases hs : s < f.count
  · exact hs
  · have e : (gIt f (k + 1)).getD s none = none := by
      rw [List.getD_eq_getElem?_getD, List.getElem?_eq_none (by rw [gIt_len hin]; omega)]; rfl
    unfold Chg at h
    rw [e] at h
    exact absurd h ple_none
theorem chg_back {k s : Nat} (h : Chg f (k + 1) s) : ∃ v ∈ f.vars, v.plug = s ∧ dearV v (gIt f (k + 1)) = (gIt f (k + 2)).getD s none ∧ ∃ t ∈ v.slots, Chg f k t := by
  have hn : (gIt f (k + 2)).getD s none ≠ none := fun e => by
    unfold Chg at h
    rw [e] at h
    exact absurd h ple_none
  obtain ⟨x, hx⟩ := Option.ne_none_iff_exists'.mp hn
  obtain ⟨v, hv, e1, e2⟩ := gRound_is hin (ts := gIt f (k + 1)) hx
  refine ⟨v, hv, e1, by rw [e2]; exact hx.symm, ?_⟩
  have h1 : plt (dearV v (gIt f k)) (dearV v (gIt f (k + 1))) := by
    rcases plt_tri (dearV v (gIt f k)) (dearV v (gIt f (k + 1))) with z | z | z
    · exact z
    · exfalso
      have g1 := gRound_ge hin (ts := gIt f k) hv
      rw [e1, z, e2] at g1
      unfold Chg at h
      rw [show (gIt f (k + 1 + 1)).getD s none = some x from hx] at h
      exact g1 h
    · exact absurd z (dear_mono hin (gIt_up hin k) v)
  by_cases hex : ∃ t ∈ v.slots, Chg f k t
  · exact hex
  · exfalso
    have : dearV v (gIt f k) = dearV v (gIt f (k + 1)) := dear_ext fun t ht => by
      by_cases z : (gIt f (k + 1)).getD t none = (gIt f k).getD t none
      · exact z.symm
      · exact absurd ⟨t, ht, chg_of hin z⟩ hex
    rw [this] at h1
    exact plt_irrefl _ h1
theorem chg_chain : ∀ (k s : Nat), Chg f k s → ∃ (σ : Nat → Nat) (ν : Nat → Var), σ 0 = s ∧ ∀ l, l ≤ k → Chg f (k - l) (σ l) ∧ (l < k → ν l ∈ f.vars ∧ (ν l).plug = σ l ∧ σ (l + 1) ∈ (ν l).slots ∧ dearV (ν l) (gIt f (k - l)) = (gIt f (k - l + 1)).getD (σ l) none)
  | 0, s, h => ⟨fun _ => s, fun _ => ⟨0, [], none⟩, rfl, fun l hl => ⟨by rw [show 0 - l = 0 by omega]; exact h, fun z => by omega⟩⟩
  | k + 1, s, h => by
    obtain ⟨v, hv, e1, e2, t, ht, hc⟩ := chg_back hin h
    obtain ⟨σ, ν, h0, h1⟩ := chg_chain k t hc
    refine ⟨fun l => match l with | 0 => s | l + 1 => σ l, fun l => match l with | 0 => v | l + 1 => ν l, rfl, fun l hl => ?_⟩
    cases l with
    | zero => exact ⟨h, fun _ => ⟨hv, e1, by show σ 0 ∈ _; rw [h0]; exact ht, e2⟩⟩
    | succ l =>
      obtain ⟨h2, h3⟩ := h1 l (by omega)
      rw [show k + 1 - (l + 1) = k - l by omega]
      exact ⟨h2, fun z => h3 (by omega)⟩
theorem pigeon {n : Nat} {σ : Nat → Nat} (h : ∀ l, l ≤ n → σ l < n) : ∃ i j, i < j ∧ j ≤ n ∧ σ i = σ j := by
  refine Classical.byContradiction fun no => ?_
  have nd : ((List.range (n + 1)).map σ).Nodup := by
    unfold List.Nodup
    rw [List.pairwise_map]
    refine List.Pairwise.imp_of_mem (R := (· < ·)) (fun {a b} ha hb hab e => no ⟨a, b, hab, ?_, e⟩) List.pairwise_lt_range
    have := List.mem_range.mp hb
    omega
  have := nodup_le nd fun t ht => by
    obtain ⟨l, hl, rfl⟩ := List.mem_map.mp ht
    have := List.mem_range.mp hl
    exact h l (by omega)
  rw [List.length_map, List.length_range] at this
  omega
/-- a price that still rises is fed by one that still rises -/
theorem ris_fed {s : Nat} (h : Chg f f.count s) : ∃ v ∈ f.vars, v.plug = s ∧ dearV v (gP f) ≠ none ∧ ∃ t ∈ v.slots, Ris f t := by
  obtain ⟨σ, ν, h0, h1⟩ := chg_chain hin f.count s h
  have hpos : 0 < f.count := by have := chg_lt hin h; omega
  have some_ : ∀ l, l ≤ f.count → (gIt f (f.count - l + 1)).getD (σ l) none ≠ none := fun l hl e => by
    have := (h1 l hl).1
    unfold Chg at this
    rw [e] at this
    exact absurd this ple_none
  -- somewhere behind the first one a price still rises
  have key : ∃ l, 1 ≤ l ∧ l ≤ f.count ∧ Ris f (σ l) := by
    refine Classical.byContradiction fun no => ?_
    have nb : ∀ l, 1 ≤ l → l ≤ f.count → (gIt f (f.count + 1)).getD (σ l) none = (gP f).getD (σ l) none := fun l l1 l2 =>
      Classical.byContradiction fun z => no ⟨l, l1, l2, .base (chg_lt hin (h1 l l2).1) z⟩
    obtain ⟨i, j, hij, hj, e⟩ := pigeon hin fun l hl => chg_lt hin (h1 l hl).1
    rcases Nat.eq_zero_or_pos i with hi | hi
    · subst hi
      refine no ⟨j, hij, hj, ?_⟩
      rw [← e, h0]
      refine .base (chg_lt hin h) fun z => ?_
      unfold Chg at h
      rw [z] at h
      exact plt_irrefl _ h
    · -- the distances to the end do not shrink
      have dist : ∀ l, 1 ≤ l → l < f.count → pv f f.count (σ (l + 1)) - pv f (f.count - l) (σ (l + 1)) ≤ pv f f.count (σ l) - pv f (f.count - l + 1) (σ l) := fun l l1 l2 => by
        obtain ⟨hv, e1, ht, e2⟩ := (h1 l (by omega)).2 l2
        have al : dearV (ν l) (gIt f (f.count - l)) ≠ none := by rw [e2]; exact some_ l (by omega)
        obtain ⟨p, hp⟩ : ∃ p, (ν l).price = some p := by
          cases q : (ν l).price with
          | none => exact absurd (dear_none.mpr (.inl q)) al
          | some p => exact ⟨p, rfl⟩
        have sn : ∀ u ∈ (ν l).slots, (gIt f (f.count - l)).getD u none ≠ none := fun u hu z => al (dear_none.mpr (.inr ⟨u, hu, z⟩))
        have a1 : ∀ u ∈ (ν l).slots, ∃ i, (gIt f (f.count - l)).getD u none = some (some i) := fun u hu => (gIt_cases hin _ u).resolve_left (sn u hu)
        have a2 : ∀ u ∈ (ν l).slots, ∃ i, (gIt f f.count).getD u none = some (some i) := fun u hu => (gIt_cases hin _ u).resolve_left fun z => by
          have q := gIt_le hin (show f.count - l ≤ f.count by omega) u
          obtain ⟨i, hi⟩ := a1 u hu
          rw [hi, z] at q
          exact q rfl
        have d1 := dear_val hp a1
        have d2 := dear_val hp a2
        obtain ⟨_, hsum⟩ := sum_up hin (show f.count - l ≤ f.count by omega) (ν l).slots sn
        have g := hsum _ ht
        -- the variant at the end
        have g2 := gRound_ge hin (ts := gIt f f.count) hv
        rw [e1, show (gRound f (gIt f f.count)).getD (σ l) none = (gP f).getD (σ l) none from nb l l1 (by omega), d2] at g2
        obtain ⟨y, hy⟩ := (gIt_cases hin f.count (σ l)).resolve_left fun z => by
          rw [show (gP f).getD (σ l) none = none from z] at g2
          exact g2 rfl
        rw [show (gP f).getD (σ l) none = some (some y) from hy] at g2
        have g3 : p + ((ν l).slots.map (pv f f.count)).sum ≤ y := by
          rcases Int.lt_or_le y (p + ((ν l).slots.map (pv f f.count)).sum) with z | z
          · exact absurd (decide_eq_true z) g2
          · exact z
        have g4 : pv f f.count (σ l) = y := by unfold pv; rw [hy]; rfl
        have g5 : pv f (f.count - l + 1) (σ l) = p + ((ν l).slots.map (pv f (f.count - l))).sum := by
          unfold pv
          rw [← e2, d1]; rfl
        omega
      have chain : ∀ d, i + d ≤ j → pv f f.count (σ (i + d)) - pv f (f.count - (i + d) + 1) (σ (i + d)) ≤ pv f f.count (σ i) - pv f (f.count - i + 1) (σ i) := by
        intro d
        induction d with
        | zero => intro _; exact Int.le_refl _
        | succ d ih =>
          intro hd
          have g1 := ih (by omega)
          have g2 := dist (i + d) (by omega) (by omega)
          rw [show f.count - (i + (d + 1)) + 1 = f.count - (i + d) by omega, show i + (d + 1) = i + d + 1 by omega]
          omega
      have g := chain (j - i) (by omega)
      rw [show i + (j - i) = j by omega, ← e] at g
      have n1 : (gIt f (f.count - j + 1)).getD (σ i) none ≠ none := by rw [e]; exact some_ j hj
      have g2 := pv_le hin (show f.count - j + 1 ≤ f.count - i by omega) n1
      have n2 : (gIt f (f.count - i)).getD (σ i) none ≠ none := fun z => by
        have q := gIt_le hin (show f.count - j + 1 ≤ f.count - i by omega) (σ i)
        rw [z] at q
        exact n1 (ple_antisymm q ple_none)
      have g3 : pv f (f.count - i) (σ i) < pv f (f.count - i + 1) (σ i) := by
        have q := (h1 i (by omega)).1
        unfold Chg at q
        obtain ⟨x, hx⟩ := (gIt_cases hin _ (σ i)).resolve_left n2
        obtain ⟨y, hy⟩ := (gIt_cases hin _ (σ i)).resolve_left (some_ i (by omega))
        rw [hx, hy] at q
        unfold pv
        rw [hx, hy]
        exact of_decide_eq_true q
      omega
  obtain ⟨l, l1, l2, hl⟩ := key
  have down : ∀ d, d + 1 ≤ l → Ris f (σ (l - d)) := by
    intro d
    induction d with
    | zero => intro _; exact hl
    | succ d ih =>
      intro hd
      have q := ih (by omega)
      obtain ⟨hv, e1, ht, e2⟩ := (h1 (l - (d + 1)) (by omega)).2 (by omega)
      rw [← e1]
      rw [show l - (d + 1) + 1 = l - d by omega] at ht
      refine .step hv (fun z => ?_) ht q
      have q2 := dear_mono hin (gIt_le hin (show f.count - (l - (d + 1)) ≤ f.count by omega)) (ν (l - (d + 1)))
      rw [e2, show dearV (ν (l - (d + 1))) (gIt f f.count) = none from z] at q2
      exact some_ (l - (d + 1)) (by omega) (ple_antisymm q2 ple_none)
  have r1 := down (l - 1) (by omega)
  rw [show l - (l - 1) = 1 by omega] at r1
  obtain ⟨hv, e1, ht, e2⟩ := (h1 0 (by omega)).2 hpos
  refine ⟨ν 0, hv, e1.trans h0, fun z => ?_, σ 1, ht, r1⟩
  have e3 : dearV (ν 0) (gIt f f.count) = (gIt f (f.count + 1)).getD (σ 0) none := e2
  rw [show dearV (ν 0) (gIt f f.count) = none from z] at e3
  exact some_ 0 (by omega) e3.symm
theorem gp_get {s : Nat} (hs : s < f.count) : (Ris f s ∧ (gp f).getD s none = some none) ∨ (¬ Ris f s ∧ (gp f).getD s none = (gP f).getD s none) := by
  unfold gp
  rw [gmap hs]
  by_cases r : Ris f s
  · exact .inl ⟨r, if_pos r⟩
  · exact .inr ⟨r, if_neg r⟩
theorem gp_fix : gRound f (gp f) = gp f := by
  refine extG (by rw [gRound_len hin, gp_len]) fun s hs => ?_
  rw [gRound_len hin] at hs
  have top : ∀ v ∈ f.vars, dearV v (gP f) ≠ none → (∃ t ∈ v.slots, Ris f t) → dearV v (gp f) = some none := fun v hv h1 ⟨t, ht, h2⟩ => by
    have hn : dearV v (gp f) ≠ none := by
      intro e
      rcases dear_none.mp e with e | ⟨u, hu, e⟩
      · exact h1 (dear_none.mpr (.inl e))
      · rcases gp_get hin (hin.slots v hv u hu) with ⟨_, q⟩ | ⟨_, q⟩
        · rw [e] at q; cases q
        · rw [e] at q; exact h1 (dear_none.mpr (.inr ⟨u, hu, q.symm⟩))
    refine (dear_top hn).mpr ⟨t, ht, ?_⟩
    rcases gp_get hin (hin.slots v hv t ht) with ⟨_, q⟩ | ⟨z, _⟩
    · exact q
    · exact absurd h2 z
  rcases gp_get hin hs with ⟨r, e⟩ | ⟨r, e⟩
  · rw [e]
    obtain ⟨v, hv, e1, h1, h2⟩ : ∃ v ∈ f.vars, v.plug = s ∧ dearV v (gP f) ≠ none ∧ ∃ t ∈ v.slots, Ris f t := by
      cases r with
      | base _ h2 => exact ris_fed hin (chg_of hin h2)
      | @step v t hv h1 ht h2 => exact ⟨v, hv, rfl, h1, t, ht, h2⟩
    have := gRound_ge hin (ts := gp f) hv
    rw [top v hv h1 h2, e1] at this
    exact top_le this
  · rw [e]
    have e1 : (gRound f (gp f)).getD s none = (gRound f (gP f)).getD s none := gRound_congr hin fun v hv e => by
      by_cases hd : dearV v (gP f) = none
      · rw [hd]
        rcases dear_none.mp hd with e2 | ⟨u, hu, e2⟩
        · exact dear_none.mpr (.inl e2)
        · refine dear_none.mpr (.inr ⟨u, hu, ?_⟩)
          rcases gp_get hin (hin.slots v hv u hu) with ⟨z, _⟩ | ⟨_, q⟩
          · exact absurd e2 (ris_some hin z)
          · rw [q]; exact e2
      · refine dear_ext fun u hu => ?_
        rcases gp_get hin (hin.slots v hv u hu) with ⟨z, _⟩ | ⟨_, q⟩
        · exact absurd (e ▸ .step hv hd hu z) r
        · exact q
    rw [e1]
    refine Classical.byContradiction fun z => r (.base hs z)
end
end Mi
set_option Elab.async false
set_option linter.all false
set_option maxRecDepth 100000
set_option maxHeartbeats 4000000
namespace L53
open PySem PySem.Spec PyProof.Rows L2 Mi
/-- price_range -/
def _root_.Mi.M378 (C : Orc) : MS :=
 (sSeq (sSet 1 (eCall C 94 [.vl (eV 0)]))
 (sSeq (sSet 2 (eLc (iAny (eO2 fIx (.vr 0) (.ex (eC (.int 1))))) (tgN 5) (tO2 cIsNot (.ex (eO2 fIx (.vr 1) (.vr 5))) (.ex (eC .none))) (eV 5) [5]))
 (sSeq (sIf (tNot' (tTru (.vr 2)))
 (sRet (eC .none))
 sNx)
 (sSeq (sSet 3 (eCall C 66 [.vl (eV 0)]))
 (sSeq (sSet 4 (eLc (iAny (eV 2)) (tgN 5) mYes (eO2 fIx (.vr 3) (.vr 5)) [5]))
 (sRet (eTup [(eB bMinL [(.ex (eLc (iAny (eV 2)) (tgN 5) mYes (eO2 fIx (.ex (eO2 fIx (.vr 1) (.vr 5))) (.ex (eC (.int 0)))) [5]))]), (eIf (tO2 cIn (.ex (eC (.str "unbounded"))) (.vr 4)) (eC .none) (eB bMaxL [(.vr 4)]))])))))))
def _root_.Mi.F378 (C : Orc) : List W → CRes := runF 1 6 [[]] (Mi.M378 C)
/-- _law_range -/
def _root_.Mi.M379 (C : Orc) : MS :=
 (sSeq (sSet 1 (eCall C 300 [.vl (eV 0)]))
 (sSeq (sSet 2 (eCall C 71 [.vl (eV 0)]))
 (sSeq (sSet 3 (eLc (iAny (eO2 fIx (.vr 0) (.ex (eC (.int 1))))) (tgN 5) (tO2 cIsNot (.ex (eO2 fIx (.vr 1) (.vr 5))) (.ex (eC .none))) (eO2 fIx (.ex (eO2 fIx (.vr 1) (.vr 5))) (.ex (eC (.int 0)))) [5]))
 (sSeq (sIf (tNot' (tTru (.vr 3)))
 (sRet (eC .none))
 sNx)
 (sSeq (sSet 4 (eLc (iAny (eO2 fIx (.vr 0) (.ex (eC (.int 1))))) (tgN 5) (tO2 cIsNot (.ex (eO2 fIx (.vr 2) (.vr 5))) (.ex (eC .none))) (eO2 fIx (.vr 2) (.vr 5)) [5]))
 (sSeq (sIf (tO2 cIn (.ex (eC (.str "unbounded"))) (.vr 4))
 (sRet (eTup [(eB bMinL [(.vr 3)]), (eC .none)]))
 sNx)
 (sRet (eTup [(eB bMinL [(.vr 3)]), (eB bMaxL [(.vr 4)])]))))))))
def _root_.Mi.F379 (C : Orc) : List W → CRes := runF 1 6 [[]] (Mi.M379 C)
/-- law -/
def _root_.Mi.M380 (C : Orc) : MS :=
 (sSeq (sSet 1 (eCall C 4 [.vl (eV 0)]))
 (sSeq (sSet 2 (eCall C 5 [.rf 1, .vl (eC (.int 8))]))
 (sSeq (sSet 3 (eCall C 7 [.rf 1, .vl (eC (.int 5)), .vl (eC (.int 8)), .vl (eC (.int 0))]))
 (sSeq (sSet 4 (eCall C 7 [.rf 1, .vl (eC (.int 5)), .vl (eC (.int 8)), .vl (eC (.int 0))]))
 (sSeq (sIf (tO2 cEq (.vr 2) (.ex (eC (.int 0))))
 (sSet 3 (eCall C 67 [.rf 1, .vl (eC (.int 0))]))
 sNx)
 (sSeq (sSet 5 (eCall C 379 [.vl (eV 3)]))
 (sSeq (sIf (tNot' (tTru (.ex (eCall C 8 [.vl (eCall C 378 [.vl (eV 3)]), .vl (eV 5)]))))
 (sRet (eC (.bool false)))
 sNx)
 (sSeq (sIf (tNot' (tTru (.ex (eCall C 8 [.vl (eCall C 378 [.vl (eV 4)]), .vl (eCall C 379 [.vl (eV 4)])]))))
 (sRet (eC (.bool false)))
 sNx)
 (sRet (eCall C 8 [.vl (eCall C 378 [.vl (eV 3)]), .vl (eV 5)]))))))))))
def _root_.Mi.F380 (C : Orc) : List W → CRes := runF 1 6 [[]] (Mi.M380 C)
def bodies (C : Orc) : Nat → List W → CRes
  | 14 => F14 C
  | 15 => F15 C
  | 94 => F94 C
  | 0 => F0 C
  | 1 => F1 C
  | 2 => F2 C
  | 3 => F3 C
  | 64 => F64 C
  | 65 => F65 C
  | 66 => F66 C
  | 378 => F378 C
  | 4 => F4 C
  | 5 => F5 C
  | 6 => F6 C
  | 7 => F7 C
  | 299 => F299 C
  | 300 => F300 C
  | 8 => F8 C
  | 67 => F67 C
  | 69 => F69 C
  | 10 => F10 C
  | 70 => F70 C
  | 71 => F71 C
  | 379 => F379 C
  | 380 => F380 C
  | _ => fun _ => .no
def callN : Nat → Orc
  | 0 => fun _ _ => .no
  | n + 1 => fun k ws => bodies (callN n) k ws
end L53
set_option Elab.async false
set_option linter.all false
set_option maxRecDepth 100000
set_option maxHeartbeats 4000000
namespace L53
open PySem PySem.Spec PyProof.Rows L2 Mi
def top (i : Nat) : Stmt := PySem.Challenge.pw_slotwise_k53_price_range.main.body.getD i (.Pass ⟨0, 0, 0, 0⟩)
abbrev st_weight_of : Stmt := top 1
abbrev N_weight_of : List Str := ["variant", "weights", "_", "slots", "price", "parts", "state"]
abbrev ps_weight_of : List Str := ["variant", "weights"]
theorem sc_weight_of : FnScope N_weight_of ps_weight_of (defScope st_weight_of) := ⟨rfl, rfl, rfl, by decide +kernel, rfl, by decide +kernel, by decide +kernel⟩
abbrev st_least_round : Stmt := top 2
abbrev N_least_round : List Str := ["family", "weights", "count", "_", "variants", "best", "variant", "plug", "weight"]
abbrev ps_least_round : List Str := ["family", "weights"]
theorem sc_least_round : FnScope N_least_round ps_least_round (defScope st_least_round) := ⟨rfl, rfl, rfl, by decide +kernel, rfl, by decide +kernel, by decide +kernel⟩
abbrev st_least_weights : Stmt := top 3
abbrev N_least_weights : List Str := ["family", "weights", "_", "better"]
abbrev ps_least_weights : List Str := ["family"]
theorem sc_least_weights : FnScope N_least_weights ps_least_weights (defScope st_least_weights) := ⟨rfl, rfl, rfl, by decide +kernel, rfl, by decide +kernel, by decide +kernel⟩
abbrev st_cost_with : Stmt := top 6
abbrev N_cost_with : List Str := ["price", "found"]
abbrev ps_cost_with : List Str := ["price", "found"]
theorem sc_cost_with : FnScope N_cost_with ps_cost_with (defScope st_cost_with) := ⟨rfl, rfl, rfl, by decide +kernel, rfl, by decide +kernel, by decide +kernel⟩
abbrev st_cost_by : Stmt := top 7
abbrev N_cost_by : List Str := ["variant", "prices", "state"]
abbrev ps_cost_by : List Str := ["variant", "prices"]
theorem sc_cost_by : FnScope N_cost_by ps_cost_by (defScope st_cost_by) := ⟨rfl, rfl, rfl, by decide +kernel, rfl, by decide +kernel, by decide +kernel⟩
abbrev st_is_greater : Stmt := top 8
abbrev N_is_greater : List Str := ["price", "other"]
abbrev ps_is_greater : List Str := ["price", "other"]
theorem sc_is_greater : FnScope N_is_greater ps_is_greater (defScope st_is_greater) := ⟨rfl, rfl, rfl, by decide +kernel, rfl, by decide +kernel, by decide +kernel⟩
abbrev st_greatest_round : Stmt := top 9
abbrev N_greatest_round : List Str := ["family", "prices", "best", "variant", "cost"]
abbrev ps_greatest_round : List Str := ["family", "prices"]
theorem sc_greatest_round : FnScope N_greatest_round ps_greatest_round (defScope st_greatest_round) := ⟨rfl, rfl, rfl, by decide +kernel, rfl, by decide +kernel, by decide +kernel⟩
abbrev st_joined : Stmt := top 10
abbrev N_joined : List Str := ["prices", "others", "pairs", "price", "other"]
abbrev ps_joined : List Str := ["prices", "others"]
theorem sc_joined : FnScope N_joined ps_joined (defScope st_joined) := ⟨rfl, rfl, rfl, by decide +kernel, rfl, by decide +kernel, by decide +kernel⟩
abbrev st_with_unbounded : Stmt := top 11
abbrev N_with_unbounded : List Str := ["family", "prices", "spread"]
abbrev ps_with_unbounded : List Str := ["family", "prices"]
theorem sc_with_unbounded : FnScope N_with_unbounded ps_with_unbounded (defScope st_with_unbounded) := ⟨rfl, rfl, rfl, by decide +kernel, rfl, by decide +kernel, by decide +kernel⟩
abbrev st_greatest_prices : Stmt := top 12
abbrev N_greatest_prices : List Str := ["family", "prices", "_", "later", "pairs", "price"]
abbrev ps_greatest_prices : List Str := ["family"]
theorem sc_greatest_prices : FnScope N_greatest_prices ps_greatest_prices (defScope st_greatest_prices) := ⟨rfl, rfl, rfl, by decide +kernel, rfl, by decide +kernel, by decide +kernel⟩
abbrev st_price_range : Stmt := top 13
abbrev N_price_range : List Str := ["family", "weights", "filled", "prices", "found", "root"]
abbrev ps_price_range : List Str := ["family"]
theorem sc_price_range : FnScope N_price_range ps_price_range (defScope st_price_range) := ⟨rfl, rfl, rfl, by decide +kernel, rfl, by decide +kernel, by decide +kernel⟩
abbrev st__law_tape : Stmt := top 15
abbrev N__law_tape : List Str := ["_law_script", "_law_total", "_law_cell"]
abbrev ps__law_tape : List Str := ["_law_script"]
theorem sc__law_tape : FnScope N__law_tape ps__law_tape (defScope st__law_tape) := ⟨rfl, rfl, rfl, by decide +kernel, rfl, by decide +kernel, by decide +kernel⟩
abbrev st__law_draw : Stmt := top 16
abbrev N__law_draw : List Str := ["_law_tape_here", "_law_menu", "_law_place", "_law_number"]
abbrev ps__law_draw : List Str := ["_law_tape_here", "_law_menu"]
theorem sc__law_draw : FnScope N__law_draw ps__law_draw (defScope st__law_draw) := ⟨rfl, rfl, rfl, by decide +kernel, rfl, by decide +kernel, by decide +kernel⟩
abbrev st__law_price : Stmt := top 17
abbrev N__law_price : List Str := ["_law_tape_here", "_law_mode", "_law_low", "_law_price_here"]
abbrev ps__law_price : List Str := ["_law_tape_here", "_law_mode", "_law_low"]
theorem sc__law_price : FnScope N__law_price ps__law_price (defScope st__law_price) := ⟨rfl, rfl, rfl, by decide +kernel, rfl, by decide +kernel, by decide +kernel⟩
abbrev st__law_family : Stmt := top 18
abbrev N__law_family : List Str := ["_law_tape_here", "_law_states", "_law_variants", "_law_low", "_law_count", "_law_shape", "_law_mode", "_law_rows", "_law_k", "_law_plug", "_law_slots", "_law_j", "_law_goal", "_law_row", "_law_state", "_law_roots"]
abbrev ps__law_family : List Str := ["_law_tape_here", "_law_states", "_law_variants", "_law_low"]
theorem sc__law_family : FnScope N__law_family ps__law_family (defScope st__law_family) := ⟨rfl, rfl, rfl, by decide +kernel, rfl, by decide +kernel, by decide +kernel⟩
abbrev st__law_weight : Stmt := top 19
abbrev N__law_weight : List Str := ["_law_variant", "_law_weights_here", "_law_price_here", "_law_parts", "_law_state"]
abbrev ps__law_weight : List Str := ["_law_variant", "_law_weights_here"]
theorem sc__law_weight : FnScope N__law_weight ps__law_weight (defScope st__law_weight) := ⟨rfl, rfl, rfl, by decide +kernel, rfl, by decide +kernel, by decide +kernel⟩
abbrev st__law_weights : Stmt := top 20
abbrev N__law_weights : List Str := ["_law_family_here", "_law_weights_here", "_law_turn", "_law_changed", "_law_variant", "_law_weight_here", "_law_state"]
abbrev ps__law_weights : List Str := ["_law_family_here"]
theorem sc__law_weights : FnScope N__law_weights ps__law_weights (defScope st__law_weights) := ⟨rfl, rfl, rfl, by decide +kernel, rfl, by decide +kernel, by decide +kernel⟩
abbrev st__law_same : Stmt := top 21
abbrev N__law_same : List Str := ["_law_actual", "_law_due"]
abbrev ps__law_same : List Str := ["_law_actual", "_law_due"]
theorem sc__law_same : FnScope N__law_same ps__law_same (defScope st__law_same) := ⟨rfl, rfl, rfl, by decide +kernel, rfl, by decide +kernel, by decide +kernel⟩
abbrev st__law_large : Stmt := top 22
abbrev N__law_large : List Str := ["_law_tape_here", "_law_low", "_law_count", "_law_step", "_law_ring", "_law_factor", "_law_leaves", "_law_rows", "_law_state", "_law_price_here", "_law_goal"]
abbrev ps__law_large : List Str := ["_law_tape_here", "_law_low"]
theorem sc__law_large : FnScope N__law_large ps__law_large (defScope st__law_large) := ⟨rfl, rfl, rfl, by decide +kernel, rfl, by decide +kernel, by decide +kernel⟩
abbrev st__law_dear : Stmt := top 23
abbrev N__law_dear : List Str := ["_law_variant", "_law_prices", "_law_told", "_law_state"]
abbrev ps__law_dear : List Str := ["_law_variant", "_law_prices"]
theorem sc__law_dear : FnScope N__law_dear ps__law_dear (defScope st__law_dear) := ⟨rfl, rfl, rfl, by decide +kernel, rfl, by decide +kernel, by decide +kernel⟩
abbrev st__law_above : Stmt := top 24
abbrev N__law_above : List Str := ["_law_cost", "_law_other"]
abbrev ps__law_above : List Str := ["_law_cost", "_law_other"]
theorem sc__law_above : FnScope N__law_above ps__law_above (defScope st__law_above) := ⟨rfl, rfl, rfl, by decide +kernel, rfl, by decide +kernel, by decide +kernel⟩
abbrev st__law_dears : Stmt := top 25
abbrev N__law_dears : List Str := ["_law_family_here", "_law_prices", "_law_row", "_law_variant", "_law_cost", "_law_state"]
abbrev ps__law_dears : List Str := ["_law_family_here", "_law_prices"]
theorem sc__law_dears : FnScope N__law_dears ps__law_dears (defScope st__law_dears) := ⟨rfl, rfl, rfl, by decide +kernel, rfl, by decide +kernel, by decide +kernel⟩
abbrev st__law_greatest : Stmt := top 26
abbrev N__law_greatest : List Str := ["_law_family_here", "_law_prices", "_law_turn", "_law_more", "_law_rising", "_law_variant", "_law_state"]
abbrev ps__law_greatest : List Str := ["_law_family_here"]
theorem sc__law_greatest : FnScope N__law_greatest ps__law_greatest (defScope st__law_greatest) := ⟨rfl, rfl, rfl, by decide +kernel, rfl, by decide +kernel, by decide +kernel⟩
abbrev st__law_range : Stmt := top 27
abbrev N__law_range : List Str := ["_law_family_here", "_law_weights_here", "_law_greatest_here", "_law_prices", "_law_dears_here", "_law_root"]
abbrev ps__law_range : List Str := ["_law_family_here"]
theorem sc__law_range : FnScope N__law_range ps__law_range (defScope st__law_range) := ⟨rfl, rfl, rfl, by decide +kernel, rfl, by decide +kernel, by decide +kernel⟩
abbrev st_law : Stmt := top 28
abbrev N_law : List Str := ["_law_script", "_law_tape_here", "_law_large_here", "_law_first", "_law_second", "_law_due"]
abbrev ps_law : List Str := ["_law_script"]
theorem sc_law : FnScope N_law ps_law (defScope st_law) := ⟨rfl, rfl, rfl, by decide +kernel, rfl, by decide +kernel, by decide +kernel⟩
/-! ### the walk -/
structure Cals (P : Program) (w : World) (K : KK) (mg : Str → Option Value) (base : Heap) (lv : Nat) (C : Orc) : Prop where
  free_abs : mg "abs" = none
  free_int : mg "int" = none
  free_len : mg "len" = none
  free_list : mg "list" = none
  free_max : mg "max" = none
  free_min : mg "min" = none
  free_range : mg "range" = none
  free_repr : mg "repr" = none
  free_sum : mg "sum" = none
  free_tuple : mg "tuple" = none
  free_zip : mg "zip" = none
  con_UNBOUNDED : ∃ t, mg "UNBOUNDED" = some (.str "unbounded" t)
  f14 : Cal P w K mg base lv C "weight_of" 14 2
  f15 : Cal P w K mg base lv C "least_round" 15 2
  f94 : Cal P w K mg base lv C "least_weights" 94 1
  f0 : Cal P w K mg base lv C "cost_with" 0 2
  f1 : Cal P w K mg base lv C "cost_by" 1 2
  f2 : Cal P w K mg base lv C "is_greater" 2 2
  f3 : Cal P w K mg base lv C "greatest_round" 3 2
  f64 : Cal P w K mg base lv C "joined" 64 2
  f65 : Cal P w K mg base lv C "with_unbounded" 65 2
  f66 : Cal P w K mg base lv C "greatest_prices" 66 1
  f378 : Cal P w K mg base lv C "price_range" 378 1
  f4 : Cal P w K mg base lv C "_law_tape" 4 1
  f5 : Cal P w K mg base lv C "_law_draw" 5 2
  f6 : Cal P w K mg base lv C "_law_price" 6 3
  f7 : Cal P w K mg base lv C "_law_family" 7 4
  f299 : Cal P w K mg base lv C "_law_weight" 299 2
  f300 : Cal P w K mg base lv C "_law_weights" 300 1
  f8 : Cal P w K mg base lv C "_law_same" 8 2
  f67 : Cal P w K mg base lv C "_law_large" 67 2
  f69 : Cal P w K mg base lv C "_law_dear" 69 2
  f10 : Cal P w K mg base lv C "_law_above" 10 2
  f70 : Cal P w K mg base lv C "_law_dears" 70 2
  f71 : Cal P w K mg base lv C "_law_greatest" 71 1
  f379 : Cal P w K mg base lv C "_law_range" 379 1
  f380 : Cal P w K mg base lv C "law" 380 1
section
variable {P : Program} {w : World} {K : KK} {mg : Str → Option Value} {base : Heap} {lv : Nat} {C : Orc}
theorem s_weight_of (c : Cals P w K mg base lv C) {f : Addr} {cdv : Value} {A : Around} {outer : List PySem.Env} {s : Shared} {H : Hp} (o : Ok (A.deeper (envOfC "weight_of" (defScope st_weight_of) s.heap.objs.size f cdv)) lv) :
    PSs (cxOf CX0 P w K mg base N_weight_of "weight_of" (defScope st_weight_of) f cdv A outer s H E0).nox (defBody st_weight_of) (tS K [] (M14 C)) :=
 (pss_consM (ps_tgM (ws := [2, 3, 4]) (tgs_tup rfl (tgs_cons (tgs_name (by rfl) (by show 2 < 7; decide) (by decide)) (tgs_cons (tgs_name (by rfl) (by show 3 < 7; decide) (by decide)) (tgs_cons (tgs_name (by rfl) (by show 4 < 7; decide) (by decide)) tgs_nil)))) (ps_asg (pe_name (by rfl) (pv 0)) (pg_tup rfl (pgs_cons (pg_name (i := 2) sc_weight_of.nd rfl (by first | exact Or.inl rfl | exact Or.inr rfl)) (pgs_cons (pg_name (i := 3) sc_weight_of.nd rfl (by first | exact Or.inl rfl | exact Or.inr rfl)) (pgs_cons (pg_name (i := 4) sc_weight_of.nd rfl (by first | exact Or.inl rfl | exact Or.inr rfl)) pgs_nil))))))
 (pss_consM (ps_ifM (pt_o2 op_isM (pt_cmpR op_isN (pd_v (pv 4)) (pd_e (pe_c .none pe_non)) (nomark _)))
 (pss_oneM (ps_retM (pe_c .none pe_non)))
 pss_nilM)
 (pss_consM (ps_setM (i := 5) sc_weight_of.nd (by rfl) rfl (by first | exact Or.inl rfl | exact Or.inr rfl) (pe_c (.int _) pe_int))
 (pss_consM (ps_forM (ws := [6]) PassesOwn.never rfl (pi_anyM (pe_name (by rfl) (pv 3))) (pg_name (i := 6) sc_weight_of.nd rfl (by first | exact Or.inl rfl | exact Or.inr rfl)) (tgs_name (by rfl) (by show 6 < 7; decide) (by decide))
 (pss_consM (ps_ifM (pt_o2 op_isM (pt_cmpR op_isN (pd_e (pe_o2 rfl rfl op_ixM (pe_ix ix_seq (pd_v (pv 1)) (pd_v (pv 6)) (fun _ _ => rfl)))) (pd_e (pe_c .none pe_non)) (nomark _)))
 (pss_oneM (ps_retM (pe_c .none pe_non)))
 pss_nilM)
 (pss_consM (ps_augM (i := 4) sc_weight_of.nd (by rfl) rfl (by first | exact Or.inl rfl | exact Or.inr rfl) ip_add (pe_o2 rfl rfl op_ixM (pe_ix ix_seq (pd_e (pe_o2 rfl rfl op_ixM (pe_ix ix_seq (pd_v (pv 1)) (pd_v (pv 6)) (fun _ _ => rfl)))) (pd_e (pe_c (.int _) pe_int)) (fun _ _ => rfl))))
 (pss_oneM (ps_augM (i := 5) sc_weight_of.nd (by rfl) rfl (by first | exact Or.inl rfl | exact Or.inr rfl) ip_add (pe_o2 rfl rfl op_ixM (pe_ix ix_seq (pd_e (pe_o2 rfl rfl op_ixM (pe_ix ix_seq (pd_v (pv 1)) (pd_v (pv 6)) (fun _ _ => rfl)))) (pd_e (pe_c (.int _) pe_int)) (fun _ _ => rfl))))))))
 (pss_oneM (ps_retM (pe_tupM (pf_cons (pe_name (by rfl) (pv 4)) (pf_cons (pe_name (by rfl) (pv 5)) pf_nil)))))))))
theorem s_least_round (c : Cals P w K mg base lv C) {f : Addr} {cdv : Value} {A : Around} {outer : List PySem.Env} {s : Shared} {H : Hp} (o : Ok (A.deeper (envOfC "least_round" (defScope st_least_round) s.heap.objs.size f cdv)) lv) :
    PSs (cxOf CX0 P w K mg base N_least_round "least_round" (defScope st_least_round) f cdv A outer s H E0).nox (defBody st_least_round) (tS K [] (M15 C)) :=
 (pss_consM (ps_tgM (ws := [2, 3, 4]) (tgs_tup rfl (tgs_cons (tgs_name (by rfl) (by show 2 < 9; decide) (by decide)) (tgs_cons (tgs_name (by rfl) (by show 3 < 9; decide) (by decide)) (tgs_cons (tgs_name (by rfl) (by show 4 < 9; decide) (by decide)) tgs_nil)))) (ps_asg (pe_name (by rfl) (pv 0)) (pg_tup rfl (pgs_cons (pg_name (i := 2) sc_least_round.nd rfl (by first | exact Or.inl rfl | exact Or.inr rfl)) (pgs_cons (pg_name (i := 3) sc_least_round.nd rfl (by first | exact Or.inl rfl | exact Or.inr rfl)) (pgs_cons (pg_name (i := 4) sc_least_round.nd rfl (by first | exact Or.inl rfl | exact Or.inr rfl)) pgs_nil))))))
 (pss_consM (ps_setM (i := 5) sc_least_round.nd (by rfl) rfl (by first | exact Or.inl rfl | exact Or.inr rfl) (pe_repM (pe_lstM (pf_cons (pe_c .none pe_non) pf_nil)) (pe_name (by rfl) (pv 2))))
 (pss_consM (ps_forM (ws := [6]) PassesOwn.never rfl (pi_anyM (pe_name (by rfl) (pv 4))) (pg_name (i := 6) sc_least_round.nd rfl (by first | exact Or.inl rfl | exact Or.inr rfl)) (tgs_name (by rfl) (by show 6 < 9; decide) (by decide))
 (pss_consM (ps_setM (i := 7) sc_least_round.nd (by rfl) rfl (by first | exact Or.inl rfl | exact Or.inr rfl) (pe_o2 rfl rfl op_ixM (pe_ix ix_seq (pd_v (pv 6)) (pd_e (pe_c (.int _) pe_int)) (fun _ _ => rfl))))
 (pss_consM (ps_setM (i := 8) sc_least_round.nd (by rfl) rfl (by first | exact Or.inl rfl | exact Or.inr rfl) (pe_fn o c.f14 rfl (by rfl) (pg_valM (pe_name (by rfl) (pv 6)) (pg_valM (pe_name (by rfl) (pv 1)) pg_nilM))))
 (pss_oneM (ps_ifM (PW.pt (pw_andM (pt_o2 op_isNotM (pt_cmpR op_notN (pd_v (pv 8)) (pd_e (pe_c .none pe_non)) (nomark _))) (pw_and1 (PW.pt (pw_orM (pt_o2 op_isM (pt_cmpR op_isN (pd_e (pe_o2 rfl rfl op_ixM (pe_ix ix_seq (pd_v (pv 5)) (pd_v (pv 7)) (fun _ _ => rfl)))) (pd_e (pe_c .none pe_non)) (nomark _))) (pw_or1 (pt_o2 op_ordM (pt_cmpR (op_ltX o.un65) (pd_v (pv 8)) (pd_e (pe_o2 rfl rfl op_ixM (pe_ix ix_seq (pd_v (pv 5)) (pd_v (pv 7)) (fun _ _ => rfl)))) (nomark _)))))))))
 (pss_oneM (ps_putM rfl (ps_asg (pe_name (by rfl) (pv 8)) (pg_sub (pv 5) (pe_name (by rfl) (pv 7)) set_list))))
 pss_nilM)))))
 (pss_oneM (ps_retM (pe_oc rfl oc_tuple (pe_callTy call_tuple_of (by rfl) c.free_tuple (by decide +kernel) (pa_consM (pd_v (pv 5)) pa_nilM))))))))
theorem s_least_weights (c : Cals P w K mg base lv C) {f : Addr} {cdv : Value} {A : Around} {outer : List PySem.Env} {s : Shared} {H : Hp} (o : Ok (A.deeper (envOfC "least_weights" (defScope st_least_weights) s.heap.objs.size f cdv)) lv) :
    PSs (cxOf CX0 P w K mg base N_least_weights "least_weights" (defScope st_least_weights) f cdv A outer s H E0).nox (defBody st_least_weights) (tS K [] (M94 C)) :=
 (pss_consM (ps_setM (i := 1) sc_least_weights.nd (by rfl) rfl (by first | exact Or.inl rfl | exact Or.inr rfl) (pe_o2 rfl rfl op_repTM (pe_op op_repX (pd_e (pe_tupM (pf_cons (pe_c .none pe_non) pf_nil))) (pd_e (pe_o2 rfl rfl op_ixM (pe_ix ix_seq (pd_v (pv 0)) (pd_e (pe_c (.int _) pe_int)) (fun _ _ => rfl)))))))
 (pss_consM (ps_forM (ws := [2]) PassesOwn.never rfl (pi_r1M rfl (pi_range1 (by rfl) c.free_range (pf_cons (pe_o2 rfl rfl op_ixM (pe_ix ix_seq (pd_v (pv 0)) (pd_e (pe_c (.int _) pe_int)) (fun _ _ => rfl))) pf_nil))) (pg_name (i := 2) sc_least_weights.nd rfl (by first | exact Or.inl rfl | exact Or.inr rfl)) (tgs_name (by rfl) (by show 2 < 4; decide) (by decide))
 (pss_consM (ps_setM (i := 3) sc_least_weights.nd (by rfl) rfl (by first | exact Or.inl rfl | exact Or.inr rfl) (pe_fn o c.f15 rfl (by rfl) (pg_valM (pe_name (by rfl) (pv 0)) (pg_valM (pe_name (by rfl) (pv 1)) pg_nilM))))
 (pss_consM (ps_ifM (pt_o2 op_eqM (pt_cmpR (op_eqX o.rm.units) (pd_v (pv 3)) (pd_v (pv 1)) (nomark _)))
 (pss_oneM (ps_retM (pe_name (by rfl) (pv 1))))
 pss_nilM)
 (pss_oneM (ps_setM (i := 1) sc_least_weights.nd (by rfl) rfl (by first | exact Or.inl rfl | exact Or.inr rfl) (pe_name (by rfl) (pv 3)))))))
 (pss_oneM (ps_retM (pe_name (by rfl) (pv 1))))))
theorem s_cost_with (c : Cals P w K mg base lv C) {f : Addr} {cdv : Value} {A : Around} {outer : List PySem.Env} {s : Shared} {H : Hp} (o : Ok (A.deeper (envOfC "cost_with" (defScope st_cost_with) s.heap.objs.size f cdv)) lv) :
    PSs (cxOf CX0 P w K mg base N_cost_with "cost_with" (defScope st_cost_with) f cdv A outer s H E0).nox (defBody st_cost_with) (tS K [] (M0 C)) :=
 (pss_consM (ps_ifM (PW.pt (pw_orM (pt_o2 op_isM (pt_cmpR op_isN (pd_v (pv 0)) (pd_e (pe_c .none pe_non)) (nomark _))) (pw_or1 (pt_o2 op_inM (pt_cmpR (op_inD o.un65) (pd_e (pe_c .none pe_non)) (pd_v (pv 1)) (by rfl))))))
 (pss_oneM (ps_retM (pe_c .none pe_non)))
 pss_nilM)
 (pss_consM (ps_ifM (pt_o2 op_inM (pt_cmpR (op_inD o.un65) (pd_e (pe_c (.str _) (pe_glob (by rfl) c.con_UNBOUNDED.choose_spec ⟨_, rfl⟩))) (pd_v (pv 1)) (by rfl)))
 (pss_oneM (ps_retM (pe_c (.str _) (pe_glob (by rfl) c.con_UNBOUNDED.choose_spec ⟨_, rfl⟩))))
 pss_nilM)
 (pss_oneM (ps_retM (pe_o2 rfl rfl op_addI (pe_op op_add (pd_v (pv 0)) (pd_e (pe_oc rfl oc_sum (pe_callB (cr_sum rfl) (by rfl) c.free_sum (by decide +kernel) (pa_consM (pd_v (pv 1)) pa_nilM))))))))))
theorem s_cost_by (c : Cals P w K mg base lv C) {f : Addr} {cdv : Value} {A : Around} {outer : List PySem.Env} {s : Shared} {H : Hp} (o : Ok (A.deeper (envOfC "cost_by" (defScope st_cost_by) s.heap.objs.size f cdv)) lv) :
    PSs (cxOf CX0 P w K mg base N_cost_by "cost_by" (defScope st_cost_by) f cdv A outer s H E0).nox (defBody st_cost_by) (tS K [] (M1 C)) :=
 (pss_oneM (ps_retM (pe_fn o c.f0 rfl (by rfl) (pg_valM (pe_o2 rfl rfl op_ixM (pe_ix ix_seq (pd_v (pv 0)) (pd_e (pe_c (.int _) pe_int)) (fun _ _ => rfl))) (pg_valM (pe_lcM (own := [("state", 2)]) rfl (by rfl) (by rfl) (tgs_name (by rfl) (by show 2 < 3; decide) (by decide)) rfl sc_cost_by.nd (pi_anyM (pe_o2 rfl rfl op_ixM (pe_ix ix_seq (pd_v (pv 0)) (pd_e (pe_c (.int _) pe_int)) (fun _ _ => rfl)))) (blkOk_by (own := [("state", 2)]) (N := N_cost_by) (sc := defScope st_cost_by) (by decide +kernel)) (fun _ _ _ _ _ => (pg_name (i := 2) sc_cost_by.nd rfl (by first | exact Or.inl rfl | exact Or.inr rfl))) (fun _ _ _ _ _ => pts_yesM) (fun _ _ _ _ _ => (pe_o2 rfl rfl op_ixM (pe_ix ix_seq (pd_v (pv 1)) (pd_v (pv 2)) (fun _ _ => rfl))))) pg_nilM)))))
theorem s_is_greater (c : Cals P w K mg base lv C) {f : Addr} {cdv : Value} {A : Around} {outer : List PySem.Env} {s : Shared} {H : Hp} (o : Ok (A.deeper (envOfC "is_greater" (defScope st_is_greater) s.heap.objs.size f cdv)) lv) :
    PSs (cxOf CX0 P w K mg base N_is_greater "is_greater" (defScope st_is_greater) f cdv A outer s H E0).nox (defBody st_is_greater) (tS K [] (M2 C)) :=
 (pss_consM (ps_ifM (PW.pt (pw_orM (pt_o2 op_isM (pt_cmpR op_isN (pd_v (pv 0)) (pd_e (pe_c .none pe_non)) (nomark _))) (pw_or1 (pt_o2 op_eqM (pt_cmpR (op_eqX o.rm.units) (pd_v (pv 1)) (pd_e (pe_c (.str _) (pe_glob (by rfl) c.con_UNBOUNDED.choose_spec ⟨_, rfl⟩))) (nomark _))))))
 (pss_oneM (ps_retM (pe_c (.bool _) pe_bl)))
 pss_nilM)
 (pss_consM (ps_ifM (PW.pt (pw_orM (pt_o2 op_isM (pt_cmpR op_isN (pd_v (pv 1)) (pd_e (pe_c .none pe_non)) (nomark _))) (pw_or1 (pt_o2 op_eqM (pt_cmpR (op_eqX o.rm.units) (pd_v (pv 0)) (pd_e (pe_c (.str _) (pe_glob (by rfl) c.con_UNBOUNDED.choose_spec ⟨_, rfl⟩))) (nomark _))))))
 (pss_oneM (ps_retM (pe_c (.bool _) pe_bl)))
 pss_nilM)
 (pss_oneM (ps_retM (pe_o2 rfl rfl op_cmpM.op (pe_cmpR op_gt (pd_v (pv 0)) (pd_v (pv 1)) (nomark _)))))))
theorem s_greatest_round (c : Cals P w K mg base lv C) {f : Addr} {cdv : Value} {A : Around} {outer : List PySem.Env} {s : Shared} {H : Hp} (o : Ok (A.deeper (envOfC "greatest_round" (defScope st_greatest_round) s.heap.objs.size f cdv)) lv) :
    PSs (cxOf CX0 P w K mg base N_greatest_round "greatest_round" (defScope st_greatest_round) f cdv A outer s H E0).nox (defBody st_greatest_round) (tS K [] (M3 C)) :=
 (pss_consM (ps_setM (i := 2) sc_greatest_round.nd (by rfl) rfl (by first | exact Or.inl rfl | exact Or.inr rfl) (pe_repM (pe_lstM (pf_cons (pe_c .none pe_non) pf_nil)) (pe_o2 rfl rfl op_ixM (pe_ix ix_seq (pd_v (pv 0)) (pd_e (pe_c (.int _) pe_int)) (fun _ _ => rfl)))))
 (pss_consM (ps_forM (ws := [3]) PassesOwn.never rfl (pi_anyM (pe_o2 rfl rfl op_ixM (pe_ix ix_seq (pd_v (pv 0)) (pd_e (pe_c (.int _) pe_int)) (fun _ _ => rfl)))) (pg_name (i := 3) sc_greatest_round.nd rfl (by first | exact Or.inl rfl | exact Or.inr rfl)) (tgs_name (by rfl) (by show 3 < 5; decide) (by decide))
 (pss_consM (ps_setM (i := 4) sc_greatest_round.nd (by rfl) rfl (by first | exact Or.inl rfl | exact Or.inr rfl) (pe_fn o c.f1 rfl (by rfl) (pg_valM (pe_name (by rfl) (pv 3)) (pg_valM (pe_name (by rfl) (pv 1)) pg_nilM))))
 (pss_oneM (ps_ifM (pt_truM (pd_e (pe_fn o c.f2 rfl (by rfl) (pg_valM (pe_name (by rfl) (pv 4)) (pg_valM (pe_o2 rfl rfl op_ixM (pe_ix ix_seq (pd_v (pv 2)) (pd_e (pe_o2 rfl rfl op_ixM (pe_ix ix_seq (pd_v (pv 3)) (pd_e (pe_c (.int _) pe_int)) (fun _ _ => rfl)))) (fun _ _ => rfl))) pg_nilM)))))
 (pss_oneM (ps_putM rfl (ps_asg (pe_name (by rfl) (pv 4)) (pg_sub (pv 2) (pe_o2 rfl rfl op_ixM (pe_ix ix_seq (pd_v (pv 3)) (pd_e (pe_c (.int _) pe_int)) (fun _ _ => rfl))) set_list))))
 pss_nilM))))
 (pss_oneM (ps_retM (pe_oc rfl oc_tuple (pe_callTy call_tuple_of (by rfl) c.free_tuple (by decide +kernel) (pa_consM (pd_v (pv 2)) pa_nilM)))))))
theorem s_joined (c : Cals P w K mg base lv C) {f : Addr} {cdv : Value} {A : Around} {outer : List PySem.Env} {s : Shared} {H : Hp} (o : Ok (A.deeper (envOfC "joined" (defScope st_joined) s.heap.objs.size f cdv)) lv) :
    PSs (cxOf CX0 P w K mg base N_joined "joined" (defScope st_joined) f cdv A outer s H E0).nox (defBody st_joined) (tS K [] (M64 C)) :=
 (pss_consM (ps_setM (i := 2) sc_joined.nd (by rfl) rfl (by first | exact Or.inl rfl | exact Or.inr rfl) (pe_oc rfl oc_zipL (pe_zipL rfl (by rfl) c.free_list (by rfl) c.free_zip (pa_consM (pd_v (pv 0)) (pa_consM (pd_v (pv 1)) pa_nilM)))))
 (pss_oneM (ps_retM (pe_oc rfl oc_tuple (pe_callTy call_tuple_of (by rfl) c.free_tuple (by decide +kernel) (pa_consM (pd_e (pe_lcM (own := [("price", 3), ("other", 4)]) rfl (by rfl) (by rfl) (tgs_tup rfl (tgs_cons (tgs_name (by rfl) (by show 3 < 5; decide) (by decide)) (tgs_cons (tgs_name (by rfl) (by show 4 < 5; decide) (by decide)) tgs_nil))) rfl sc_joined.nd (pi_anyM (pe_name (by rfl) (pv 2))) (blkOk_by (own := [("price", 3), ("other", 4)]) (N := N_joined) (sc := defScope st_joined) (by decide +kernel)) (fun _ _ _ _ _ => (pg_tup rfl (pgs_cons (pg_name (i := 3) sc_joined.nd rfl (by first | exact Or.inl rfl | exact Or.inr rfl)) (pgs_cons (pg_name (i := 4) sc_joined.nd rfl (by first | exact Or.inl rfl | exact Or.inr rfl)) pgs_nil)))) (fun _ _ _ _ _ => pts_yesM) (fun _ _ _ _ _ => (pe_ifM (pt_truM (pd_e (pe_fn o c.f2 rfl (by rfl) (pg_valM (pe_name (by rfl) (pv 3)) (pg_valM (pe_name (by rfl) (pv 4)) pg_nilM))))) (pe_name (by rfl) (pv 3)) (pe_name (by rfl) (pv 4)))))) pa_nilM))))))
theorem s_with_unbounded (c : Cals P w K mg base lv C) {f : Addr} {cdv : Value} {A : Around} {outer : List PySem.Env} {s : Shared} {H : Hp} (o : Ok (A.deeper (envOfC "with_unbounded" (defScope st_with_unbounded) s.heap.objs.size f cdv)) lv) :
    PSs (cxOf CX0 P w K mg base N_with_unbounded "with_unbounded" (defScope st_with_unbounded) f cdv A outer s H E0).nox (defBody st_with_unbounded) (tS K [] (M65 C)) :=
 (pss_consM (ps_setM (i := 2) sc_with_unbounded.nd (by rfl) rfl (by first | exact Or.inl rfl | exact Or.inr rfl) (pe_fn o c.f64 rfl (by rfl) (pg_valM (pe_name (by rfl) (pv 1)) (pg_valM (pe_fn o c.f3 rfl (by rfl) (pg_valM (pe_name (by rfl) (pv 0)) (pg_valM (pe_name (by rfl) (pv 1)) pg_nilM))) pg_nilM))))
 (pss_consM (ps_whileM PassesOwn.never (pt_o2 op_neM (pt_cmpR (op_neX o.rm.units) (pd_v (pv 2)) (pd_v (pv 1)) (nomark _)))
 (pss_consM (ps_setM (i := 1) sc_with_unbounded.nd (by rfl) rfl (by first | exact Or.inl rfl | exact Or.inr rfl) (pe_name (by rfl) (pv 2)))
 (pss_oneM (ps_setM (i := 2) sc_with_unbounded.nd (by rfl) rfl (by first | exact Or.inl rfl | exact Or.inr rfl) (pe_fn o c.f64 rfl (by rfl) (pg_valM (pe_name (by rfl) (pv 1)) (pg_valM (pe_fn o c.f3 rfl (by rfl) (pg_valM (pe_name (by rfl) (pv 0)) (pg_valM (pe_name (by rfl) (pv 1)) pg_nilM))) pg_nilM)))))))
 (pss_oneM (ps_retM (pe_name (by rfl) (pv 1))))))
theorem s_greatest_prices (c : Cals P w K mg base lv C) {f : Addr} {cdv : Value} {A : Around} {outer : List PySem.Env} {s : Shared} {H : Hp} (o : Ok (A.deeper (envOfC "greatest_prices" (defScope st_greatest_prices) s.heap.objs.size f cdv)) lv) :
    PSs (cxOf CX0 P w K mg base N_greatest_prices "greatest_prices" (defScope st_greatest_prices) f cdv A outer s H E0).nox (defBody st_greatest_prices) (tS K [] (M66 C)) :=
 (pss_consM (ps_setM (i := 1) sc_greatest_prices.nd (by rfl) rfl (by first | exact Or.inl rfl | exact Or.inr rfl) (pe_o2 rfl rfl op_repTM (pe_op op_repX (pd_e (pe_tupM (pf_cons (pe_c .none pe_non) pf_nil))) (pd_e (pe_o2 rfl rfl op_ixM (pe_ix ix_seq (pd_v (pv 0)) (pd_e (pe_c (.int _) pe_int)) (fun _ _ => rfl)))))))
 (pss_consM (ps_forM (ws := [2]) PassesOwn.never rfl (pi_r1M rfl (pi_range1 (by rfl) c.free_range (pf_cons (pe_o2 rfl rfl op_ixM (pe_ix ix_seq (pd_v (pv 0)) (pd_e (pe_c (.int _) pe_int)) (fun _ _ => rfl))) pf_nil))) (pg_name (i := 2) sc_greatest_prices.nd rfl (by first | exact Or.inl rfl | exact Or.inr rfl)) (tgs_name (by rfl) (by show 2 < 6; decide) (by decide))
 (pss_consM (ps_setM (i := 3) sc_greatest_prices.nd (by rfl) rfl (by first | exact Or.inl rfl | exact Or.inr rfl) (pe_fn o c.f3 rfl (by rfl) (pg_valM (pe_name (by rfl) (pv 0)) (pg_valM (pe_name (by rfl) (pv 1)) pg_nilM))))
 (pss_consM (ps_ifM (pt_o2 op_eqM (pt_cmpR (op_eqX o.rm.units) (pd_v (pv 3)) (pd_v (pv 1)) (nomark _)))
 (pss_oneM (ps_retM (pe_name (by rfl) (pv 1))))
 pss_nilM)
 (pss_oneM (ps_setM (i := 1) sc_greatest_prices.nd (by rfl) rfl (by first | exact Or.inl rfl | exact Or.inr rfl) (pe_name (by rfl) (pv 3)))))))
 (pss_consM (ps_setM (i := 4) sc_greatest_prices.nd (by rfl) rfl (by first | exact Or.inl rfl | exact Or.inr rfl) (pe_oc rfl oc_zipL (pe_zipL rfl (by rfl) c.free_list (by rfl) c.free_zip (pa_consM (pd_v (pv 1)) (pa_consM (pd_e (pe_fn o c.f3 rfl (by rfl) (pg_valM (pe_name (by rfl) (pv 0)) (pg_valM (pe_name (by rfl) (pv 1)) pg_nilM)))) pa_nilM)))))
 (pss_oneM (ps_retM (pe_fn o c.f65 rfl (by rfl) (pg_valM (pe_name (by rfl) (pv 0)) (pg_valM (pe_oc rfl oc_tuple (pe_callTy call_tuple_of (by rfl) c.free_tuple (by decide +kernel) (pa_consM (pd_e (pe_lcM (own := [("price", 5), ("later", 3)]) rfl (by rfl) (by rfl) (tgs_tup rfl (tgs_cons (tgs_name (by rfl) (by show 5 < 6; decide) (by decide)) (tgs_cons (tgs_name (by rfl) (by show 3 < 6; decide) (by decide)) tgs_nil))) rfl sc_greatest_prices.nd (pi_anyM (pe_name (by rfl) (pv 4))) (blkOk_by (own := [("price", 5), ("later", 3)]) (N := N_greatest_prices) (sc := defScope st_greatest_prices) (by decide +kernel)) (fun _ _ _ _ _ => (pg_tup rfl (pgs_cons (pg_name (i := 5) sc_greatest_prices.nd rfl (by first | exact Or.inl rfl | exact Or.inr rfl)) (pgs_cons (pg_name (i := 3) sc_greatest_prices.nd rfl (by first | exact Or.inl rfl | exact Or.inr rfl)) pgs_nil)))) (fun _ _ _ _ _ => pts_yesM) (fun _ _ _ _ _ => (pe_ifM (pt_o2 op_eqM (pt_cmpR (op_eqX o.rm.units) (pd_v (pv 5)) (pd_v (pv 3)) (nomark _))) (pe_name (by rfl) (pv 5)) (pe_c (.str _) (pe_glob (by rfl) c.con_UNBOUNDED.choose_spec ⟨_, rfl⟩)))))) pa_nilM))) pg_nilM))))))))
theorem s_price_range (c : Cals P w K mg base lv C) {f : Addr} {cdv : Value} {A : Around} {outer : List PySem.Env} {s : Shared} {H : Hp} (o : Ok (A.deeper (envOfC "price_range" (defScope st_price_range) s.heap.objs.size f cdv)) lv) :
    PSs (cxOf CX0 P w K mg base N_price_range "price_range" (defScope st_price_range) f cdv A outer s H E0).nox (defBody st_price_range) (tS K [] (M378 C)) :=
 (pss_consM (ps_setM (i := 1) sc_price_range.nd (by rfl) rfl (by first | exact Or.inl rfl | exact Or.inr rfl) (pe_fn o c.f94 rfl (by rfl) (pg_valM (pe_name (by rfl) (pv 0)) pg_nilM)))
 (pss_consM (ps_setLcM (i := 2) (own := [("root", 5)]) rfl (by rfl) (by rfl) (by rfl) (tgs_name (by rfl) (by show 5 < 6; decide) (by decide)) rfl sc_price_range.nd rfl rfl (sw_true rfl rfl rfl (by decide +kernel)) (pi_anyM (pe_o2 rfl rfl op_ixM (pe_ix ix_seq (pd_v (pv 0)) (pd_e (pe_c (.int _) pe_int)) (fun _ _ => rfl)))) (blkOk_by (own := [("root", 5)]) (N := N_price_range) (sc := defScope st_price_range) (by decide +kernel)) (fun _ _ _ _ _ => (pg_name (i := 5) sc_price_range.nd rfl (by first | exact Or.inl rfl | exact Or.inr rfl))) (fun _ _ _ _ _ => (pts_oneM (pt_o2 op_isNotM (pt_cmpR op_notN (pd_e (pe_o2 rfl rfl op_ixM (pe_ix ix_seq (pd_v (pv 1)) (pd_v (pv 5)) (fun _ _ => rfl)))) (pd_e (pe_c .none pe_non)) (nomark _))))) (fun _ _ _ _ _ => (pe_name (by rfl) (pv 5))))
 (pss_consM (ps_ifM (pt_notM (pt_truM (pd_v (pv 2))))
 (pss_oneM (ps_retM (pe_c .none pe_non)))
 pss_nilM)
 (pss_consM (ps_setM (i := 3) sc_price_range.nd (by rfl) rfl (by first | exact Or.inl rfl | exact Or.inr rfl) (pe_fn o c.f66 rfl (by rfl) (pg_valM (pe_name (by rfl) (pv 0)) pg_nilM)))
 (pss_consM (ps_setLcM (i := 4) (own := [("root", 5)]) rfl (by rfl) (by rfl) (by rfl) (tgs_name (by rfl) (by show 5 < 6; decide) (by decide)) rfl sc_price_range.nd rfl rfl (sw_true rfl rfl rfl (by decide +kernel)) (pi_anyM (pe_name (by rfl) (pv 2))) (blkOk_by (own := [("root", 5)]) (N := N_price_range) (sc := defScope st_price_range) (by decide +kernel)) (fun _ _ _ _ _ => (pg_name (i := 5) sc_price_range.nd rfl (by first | exact Or.inl rfl | exact Or.inr rfl))) (fun _ _ _ _ _ => pts_yesM) (fun _ _ _ _ _ => (pe_o2 rfl rfl op_ixM (pe_ix ix_seq (pd_v (pv 3)) (pd_v (pv 5)) (fun _ _ => rfl)))))
 (pss_oneM (ps_retM (pe_tupM (pf_cons (pe_oc rfl oc_minL (pe_callB (cr_min rfl) (by rfl) c.free_min (by decide +kernel) (pa_consM (pd_e (pe_lcM (own := [("root", 5)]) rfl (by rfl) (by rfl) (tgs_name (by rfl) (by show 5 < 6; decide) (by decide)) rfl sc_price_range.nd (pi_anyM (pe_name (by rfl) (pv 2))) (blkOk_by (own := [("root", 5)]) (N := N_price_range) (sc := defScope st_price_range) (by decide +kernel)) (fun _ _ _ _ _ => (pg_name (i := 5) sc_price_range.nd rfl (by first | exact Or.inl rfl | exact Or.inr rfl))) (fun _ _ _ _ _ => pts_yesM) (fun _ _ _ _ _ => (pe_o2 rfl rfl op_ixM (pe_ix ix_seq (pd_e (pe_o2 rfl rfl op_ixM (pe_ix ix_seq (pd_v (pv 1)) (pd_v (pv 5)) (fun _ _ => rfl)))) (pd_e (pe_c (.int _) pe_int)) (fun _ _ => rfl)))))) pa_nilM))) (pf_cons (pe_ifM (pt_o2 op_inM (pt_cmpR (op_inD o.un65) (pd_e (pe_c (.str _) (pe_glob (by rfl) c.con_UNBOUNDED.choose_spec ⟨_, rfl⟩))) (pd_v (pv 4)) (by rfl))) (pe_c .none pe_non) (pe_oc rfl oc_maxL (pe_callB (cr_max rfl) (by rfl) c.free_max (by decide +kernel) (pa_consM (pd_v (pv 4)) pa_nilM)))) pf_nil))))))))))
theorem s__law_tape (c : Cals P w K mg base lv C) {f : Addr} {cdv : Value} {A : Around} {outer : List PySem.Env} {s : Shared} {H : Hp} (o : Ok (A.deeper (envOfC "_law_tape" (defScope st__law_tape) s.heap.objs.size f cdv)) lv) :
    PSs (cxOf CX0 P w K mg base N__law_tape "_law_tape" (defScope st__law_tape) f cdv A outer s H E0).nox (defBody st__law_tape) (tS K [] (M4 C)) :=
 (pss_consM (ps_setM (i := 1) sc__law_tape.nd (by rfl) rfl (by first | exact Or.inl rfl | exact Or.inr rfl) (pe_c (.int _) pe_int))
 (pss_consM (ps_forM (ws := [2]) PassesOwn.never rfl (pi_anyM (pe_name (by rfl) (pv 0))) (pg_name (i := 2) sc__law_tape.nd rfl (by first | exact Or.inl rfl | exact Or.inr rfl)) (tgs_name (by rfl) (by show 2 < 3; decide) (by decide))
 (pss_oneM (ps_setM (i := 1) sc__law_tape.nd (by rfl) rfl (by first | exact Or.inl rfl | exact Or.inr rfl) (pe_o2 rfl rfl op_modM (pe_op op_mod (pd_e (pe_oc rfl oc_int (pe_callTy call_int1 (by rfl) c.free_int (by decide +kernel) (pa_consM (pd_e (pe_o2 rfl rfl op_addI (pe_op op_add (pd_e (pe_o2 rfl rfl op_mulM (pe_op op_mulX (pd_v (pv 1)) (pd_e (pe_c (.int _) pe_int))))) (pd_e (pe_oc rfl oc_abs (pe_callB call_abs (by rfl) c.free_abs (by decide +kernel) (pa_consM (pd_e (pe_oc rfl oc_int (pe_callTy call_int1 (by rfl) c.free_int (by decide +kernel) (pa_consM (pd_v (pv 2)) pa_nilM)))) pa_nilM))))))) pa_nilM)))) (pd_e (pe_c (.int _) pe_int)))))))
 (pss_oneM (ps_retOM (pe_lstM (pf_cons (pe_oc rfl oc_list (pe_callTy call_list_of (by rfl) c.free_list (by decide +kernel) (pa_consM (pd_v (pv 0)) pa_nilM))) (pf_cons (pe_c (.int _) pe_int) (pf_cons (pe_c (.int _) pe_int) (pf_cons (pe_name (by rfl) (pv 1)) pf_nil)))))))))
theorem s__law_draw (c : Cals P w K mg base lv C) {f : Addr} {cdv : Value} {A : Around} {outer : List PySem.Env} {s : Shared} {H : Hp} (o : Ok (A.deeper (envOfC "_law_draw" (defScope st__law_draw) s.heap.objs.size f cdv)) lv) :
    PSs (cxOf CX0 P w K mg base N__law_draw "_law_draw" (defScope st__law_draw) f cdv A outer s H E0).nox (defBody st__law_draw) (tS K [0] (M5 C)) :=
 (pss_consM (ps_ifM (pt_o2 op_eqM (pt_cmpR (op_eqX o.rm.units) (pd_e (pe_o2 rfl rfl op_ixM (pe_ix ix_seq (pd_v (pv 0)) (pd_e (pe_c (.int _) pe_int)) (fun _ _ => rfl)))) (pd_e (pe_c (.int _) pe_int)) (nomark _)))
 (pss_consM (ps_setM (i := 2) sc__law_draw.nd (by rfl) rfl (by first | exact Or.inl rfl | exact Or.inr rfl) (pe_o2 rfl rfl op_ixM (pe_ix ix_seq (pd_v (pv 0)) (pd_e (pe_c (.int _) pe_int)) (fun _ _ => rfl))))
 (pss_consM (ps_setM (i := 3) sc__law_draw.nd (by rfl) rfl (by first | exact Or.inl rfl | exact Or.inr rfl) (pe_c (.int _) pe_int))
 (pss_consM (ps_ifM (pt_o2 op_cmpM (pt_cmpR op_lt (pd_v (pv 2)) (pd_e (pe_oc rfl oc_len (pe_callB call_len (by rfl) c.free_len PySem.boot_len (pa_consM (pd_e (pe_o2 rfl rfl op_ixM (pe_ix ix_seq (pd_v (pv 0)) (pd_e (pe_c (.int _) pe_int)) (fun _ _ => rfl)))) pa_nilM)))) (nomark _)))
 (pss_oneM (ps_setM (i := 3) sc__law_draw.nd (by rfl) rfl (by first | exact Or.inl rfl | exact Or.inr rfl) (pe_oc rfl oc_abs (pe_callB call_abs (by rfl) c.free_abs (by decide +kernel) (pa_consM (pd_e (pe_oc rfl oc_int (pe_callTy call_int1 (by rfl) c.free_int (by decide +kernel) (pa_consM (pd_e (pe_o2 rfl rfl op_ixM (pe_ix ix_seq (pd_e (pe_o2 rfl rfl op_ixM (pe_ix ix_seq (pd_v (pv 0)) (pd_e (pe_c (.int _) pe_int)) (fun _ _ => rfl)))) (pd_v (pv 2)) (fun _ _ => rfl)))) pa_nilM)))) pa_nilM)))))
 (pss_consM (ps_putM rfl (ps_asg (pe_o2 rfl rfl op_modM (pe_op op_mod (pd_e (pe_oc rfl oc_int (pe_callTy call_int1 (by rfl) c.free_int (by decide +kernel) (pa_consM (pd_e (pe_o2 rfl rfl op_addI (pe_op op_add (pd_e (pe_o2 rfl rfl op_addI (pe_op op_add (pd_e (pe_o2 rfl rfl op_mulM (pe_op op_mulX (pd_e (pe_o2 rfl rfl op_ixM (pe_ix ix_seq (pd_v (pv 0)) (pd_e (pe_c (.int _) pe_int)) (fun _ _ => rfl)))) (pd_e (pe_c (.int _) pe_int))))) (pd_v (pv 2))))) (pd_e (pe_c (.int _) pe_int))))) pa_nilM)))) (pd_e (pe_c (.int _) pe_int)))) (pg_sub (pv 0) (pe_c (.int _) pe_int) set_list)))
 (pss_oneM (ps_setM (i := 3) sc__law_draw.nd (by rfl) rfl (by first | exact Or.inl rfl | exact Or.inr rfl) (pe_o2 rfl rfl op_ixM (pe_ix ix_seq (pd_v (pv 0)) (pd_e (pe_c (.int _) pe_int)) (fun _ _ => rfl)))))))
 (pss_consM (ps_putM rfl (ps_asg (pe_o2 rfl rfl op_addI (pe_op op_add (pd_v (pv 2)) (pd_e (pe_c (.int _) pe_int)))) (pg_sub (pv 0) (pe_c (.int _) pe_int) set_list)))
 (pss_consM (ps_ifM (pt_o2 op_cmpM (pt_cmpR op_lt (pd_v (pv 3)) (pd_e (pe_o2 rfl rfl op_powM (pe_op op_pow (pd_e (pe_c (.int _) pe_int)) (pd_e (pe_c (.int _) pe_int))))) (nomark _)))
 (pss_consM (ps_setM (i := 3) sc__law_draw.nd (by rfl) rfl (by first | exact Or.inl rfl | exact Or.inr rfl) (pe_o2 rfl rfl op_modM (pe_op op_mod (pd_e (pe_oc rfl oc_int (pe_callTy call_int1 (by rfl) c.free_int (by decide +kernel) (pa_consM (pd_e (pe_o2 rfl rfl op_addI (pe_op op_add (pd_e (pe_o2 rfl rfl op_addI (pe_op op_add (pd_e (pe_o2 rfl rfl op_mulM (pe_op op_mulX (pd_v (pv 3)) (pd_e (pe_c (.int _) pe_int))))) (pd_e (pe_o2 rfl rfl op_mulM (pe_op op_mulX (pd_v (pv 2)) (pd_e (pe_c (.int _) pe_int)))))))) (pd_e (pe_c (.int _) pe_int))))) pa_nilM)))) (pd_e (pe_c (.int _) pe_int)))))
 (pss_consM (ps_setM (i := 3) sc__law_draw.nd (by rfl) rfl (by first | exact Or.inl rfl | exact Or.inr rfl) (pe_o2 rfl rfl op_modM (pe_op op_mod (pd_e (pe_oc rfl oc_int (pe_callTy call_int1 (by rfl) c.free_int (by decide +kernel) (pa_consM (pd_e (pe_o2 rfl rfl op_mulM (pe_op op_mulX (pd_v (pv 3)) (pd_e (pe_c (.int _) pe_int))))) pa_nilM)))) (pd_e (pe_c (.int _) pe_int)))))
 (pss_oneM (ps_retM (pe_o2 rfl rfl op_modM (pe_op op_mod (pd_e (pe_oc rfl oc_int (pe_callTy call_int1 (by rfl) c.free_int (by decide +kernel) (pa_consM (pd_v (pv 3)) pa_nilM)))) (pd_e (pe_oc rfl oc_max (pe_callB (call_max2 rfl) (by rfl) c.free_max (by decide +kernel) (pa_consM (pd_v (pv 1)) (pa_consM (pd_e (pe_c (.int _) pe_int)) pa_nilM)))))))))))
 pss_nilM)
 (pss_oneM (ps_putM rfl (ps_asg (pe_name (by rfl) (pv 3)) (pg_sub (pv 0) (pe_c (.int _) pe_int) set_list)))))))))
 pss_nilM)
 (pss_consM (ps_setM (i := 3) sc__law_draw.nd (by rfl) rfl (by first | exact Or.inl rfl | exact Or.inr rfl) (pe_o2 rfl rfl op_ixM (pe_ix ix_seq (pd_v (pv 0)) (pd_e (pe_c (.int _) pe_int)) (fun _ _ => rfl))))
 (pss_consM (ps_putM rfl (ps_asg (pe_o2 rfl rfl op_divM (pe_op op_fdivW (pd_v (pv 3)) (pd_e (pe_oc rfl oc_max (pe_callB (call_max2 rfl) (by rfl) c.free_max (by decide +kernel) (pa_consM (pd_v (pv 1)) (pa_consM (pd_e (pe_c (.int _) pe_int)) pa_nilM))))))) (pg_sub (pv 0) (pe_c (.int _) pe_int) set_list)))
 (pss_oneM (ps_retM (pe_o2 rfl rfl op_modM (pe_op op_mod (pd_e (pe_oc rfl oc_int (pe_callTy call_int1 (by rfl) c.free_int (by decide +kernel) (pa_consM (pd_v (pv 3)) pa_nilM)))) (pd_e (pe_oc rfl oc_max (pe_callB (call_max2 rfl) (by rfl) c.free_max (by decide +kernel) (pa_consM (pd_v (pv 1)) (pa_consM (pd_e (pe_c (.int _) pe_int)) pa_nilM))))))))))))
theorem s__law_price (c : Cals P w K mg base lv C) {f : Addr} {cdv : Value} {A : Around} {outer : List PySem.Env} {s : Shared} {H : Hp} (o : Ok (A.deeper (envOfC "_law_price" (defScope st__law_price) s.heap.objs.size f cdv)) lv) :
    PSs (cxOf CX0 P w K mg base N__law_price "_law_price" (defScope st__law_price) f cdv A outer s H E0).nox (defBody st__law_price) (tS K [0] (M6 C)) :=
 (pss_consM (ps_ifM (pt_o2 op_eqM (pt_cmpR (op_eqX o.rm.units) (pd_e (pe_fn o c.f5 rfl (by rfl) (pg_refM (pv 0) (pg_valM (pe_c (.int _) pe_int) pg_nilM)))) (pd_e (pe_c (.int _) pe_int)) (nomark _)))
 (pss_oneM (ps_retM (pe_c .none pe_non)))
 pss_nilM)
 (pss_consM (ps_setM (i := 3) sc__law_price.nd (by rfl) rfl (by first | exact Or.inl rfl | exact Or.inr rfl) (pe_fn o c.f5 rfl (by rfl) (pg_refM (pv 0) (pg_valM (pe_o2 rfl rfl op_ixM (pe_ix ix_seq (pd_e (pe_lstM (pf_cons (pe_c (.int _) pe_int) (pf_cons (pe_c (.int _) pe_int) (pf_cons (pe_c (.int _) pe_int) (pf_cons (pe_o2 rfl rfl op_addI (pe_op op_add (pd_e (pe_o2 rfl rfl op_powM (pe_op op_pow (pd_e (pe_c (.int _) pe_int)) (pd_e (pe_c (.int _) pe_int))))) (pd_e (pe_c (.int _) pe_int)))) pf_nil)))))) (pd_v (pv 1)) (fun _ _ => rfl))) pg_nilM))))
 (pss_consM (ps_ifM (PW.pt (pw_andM (pt_o2 op_eqM (pt_cmpR (op_eqX o.rm.units) (pd_v (pv 2)) (pd_e (pe_c (.int _) pe_int)) (nomark _))) (pw_and1 (pt_o2 op_eqM (pt_cmpR (op_eqX o.rm.units) (pd_e (pe_fn o c.f5 rfl (by rfl) (pg_refM (pv 0) (pg_valM (pe_c (.int _) pe_int) pg_nilM)))) (pd_e (pe_c (.int _) pe_int)) (nomark _))))))
 (pss_oneM (ps_setM (i := 3) sc__law_price.nd (by rfl) rfl (by first | exact Or.inl rfl | exact Or.inr rfl) (pe_o1 rfl op_negM (pe_un un_neg (pd_v (pv 3))))))
 pss_nilM)
 (pss_oneM (ps_retM (pe_name (by rfl) (pv 3)))))))
theorem s__law_family (c : Cals P w K mg base lv C) {f : Addr} {cdv : Value} {A : Around} {outer : List PySem.Env} {s : Shared} {H : Hp} (o : Ok (A.deeper (envOfC "_law_family" (defScope st__law_family) s.heap.objs.size f cdv)) lv) :
    PSs (cxOf CX0 P w K mg base N__law_family "_law_family" (defScope st__law_family) f cdv A outer s H E0).nox (defBody st__law_family) (tS K [0] (M7 C)) :=
 (pss_consM (ps_setM (i := 4) sc__law_family.nd (by rfl) rfl (by first | exact Or.inl rfl | exact Or.inr rfl) (pe_o2 rfl rfl op_addI (pe_op op_add (pd_e (pe_c (.int _) pe_int)) (pd_e (pe_fn o c.f5 rfl (by rfl) (pg_refM (pv 0) (pg_valM (pe_name (by rfl) (pv 1)) pg_nilM)))))))
 (pss_consM (ps_setM (i := 5) sc__law_family.nd (by rfl) rfl (by first | exact Or.inl rfl | exact Or.inr rfl) (pe_fn o c.f5 rfl (by rfl) (pg_refM (pv 0) (pg_valM (pe_c (.int _) pe_int) pg_nilM))))
 (pss_consM (ps_setM (i := 6) sc__law_family.nd (by rfl) rfl (by first | exact Or.inl rfl | exact Or.inr rfl) (pe_fn o c.f5 rfl (by rfl) (pg_refM (pv 0) (pg_valM (pe_c (.int _) pe_int) pg_nilM))))
 (pss_consM (ps_setM (i := 7) sc__law_family.nd (by rfl) rfl (by first | exact Or.inl rfl | exact Or.inr rfl) (pe_lstM pf_nil))
 (pss_consM (ps_forM (ws := [8]) PassesOwn.never rfl (pi_r1M rfl (pi_range1 (by rfl) c.free_range (pf_cons (pe_fn o c.f5 rfl (by rfl) (pg_refM (pv 0) (pg_valM (pe_o2 rfl rfl op_addI (pe_op op_add (pd_v (pv 2)) (pd_e (pe_c (.int _) pe_int)))) pg_nilM))) pf_nil))) (pg_name (i := 8) sc__law_family.nd rfl (by first | exact Or.inl rfl | exact Or.inr rfl)) (tgs_name (by rfl) (by show 8 < 16; decide) (by decide))
 (pss_consM (ps_setM (i := 9) sc__law_family.nd (by rfl) rfl (by first | exact Or.inl rfl | exact Or.inr rfl) (pe_fn o c.f5 rfl (by rfl) (pg_refM (pv 0) (pg_valM (pe_name (by rfl) (pv 4)) pg_nilM))))
 (pss_consM (ps_setM (i := 10) sc__law_family.nd (by rfl) rfl (by first | exact Or.inl rfl | exact Or.inr rfl) (pe_lstM pf_nil))
 (pss_consM (ps_forM (ws := [11]) PassesOwn.never rfl (pi_r1M rfl (pi_range1 (by rfl) c.free_range (pf_cons (pe_o2 rfl rfl op_ixM (pe_ix ix_seq (pd_e (pe_lstM (pf_cons (pe_c (.int _) pe_int) (pf_cons (pe_c (.int _) pe_int) (pf_cons (pe_c (.int _) pe_int) (pf_cons (pe_c (.int _) pe_int) (pf_cons (pe_c (.int _) pe_int) (pf_cons (pe_c (.int _) pe_int) pf_nil)))))))) (pd_e (pe_fn o c.f5 rfl (by rfl) (pg_refM (pv 0) (pg_valM (pe_c (.int _) pe_int) pg_nilM)))) (fun _ _ => rfl))) pf_nil))) (pg_name (i := 11) sc__law_family.nd rfl (by first | exact Or.inl rfl | exact Or.inr rfl)) (tgs_name (by rfl) (by show 11 < 16; decide) (by decide))
 (pss_consM (ps_setM (i := 12) sc__law_family.nd (by rfl) rfl (by first | exact Or.inl rfl | exact Or.inr rfl) (pe_fn o c.f5 rfl (by rfl) (pg_refM (pv 0) (pg_valM (pe_name (by rfl) (pv 4)) pg_nilM))))
 (pss_consM (ps_ifM (pt_o2 op_eqM (pt_cmpR (op_eqX o.rm.units) (pd_v (pv 5)) (pd_e (pe_c (.int _) pe_int)) (nomark _)))
 (pss_oneM (ps_setM (i := 12) sc__law_family.nd (by rfl) rfl (by first | exact Or.inl rfl | exact Or.inr rfl) (pe_o2 rfl rfl op_addI (pe_op op_add (pd_e (pe_o2 rfl rfl op_addI (pe_op op_add (pd_v (pv 9)) (pd_e (pe_c (.int _) pe_int))))) (pd_v (pv 12))))))
 pss_nilM)
 (pss_consM (ps_ifM (pt_o2 op_eqM (pt_cmpR (op_eqX o.rm.units) (pd_v (pv 5)) (pd_e (pe_c (.int _) pe_int)) (nomark _)))
 (pss_oneM (ps_setM (i := 12) sc__law_family.nd (by rfl) rfl (by first | exact Or.inl rfl | exact Or.inr rfl) (pe_o2 rfl rfl op_subM (pe_op op_sub (pd_e (pe_o2 rfl rfl op_subM (pe_op op_sub (pd_v (pv 9)) (pd_e (pe_c (.int _) pe_int))))) (pd_v (pv 12))))))
 pss_nilM)
 (pss_oneM (ps_ifM (PW.pt (pw_andM (pt_o2 op_cmpM (pt_cmpR op_le (pd_e (pe_c (.int _) pe_int)) (pd_v (pv 12)) (nomark _))) (pw_and1 (pt_o2 op_cmpM (pt_cmpR op_lt (pd_v (pv 12)) (pd_v (pv 4)) (nomark _))))))
 (pss_oneM (ps_exprM (pe_mu rfl rfl rfl om_app (pe_bm PySem.F.plainAttrs_list PySem.F.slot_list_append PySem.F.type_list_append mt_append (pv 10) (pf_cons (pe_name (by rfl) (pv 12)) pf_nil)))))
 pss_nilM))))))
 (pss_consM (ps_setM (i := 13) sc__law_family.nd (by rfl) rfl (by first | exact Or.inl rfl | exact Or.inr rfl) (pe_tupM (pf_cons (pe_name (by rfl) (pv 9)) (pf_cons (pe_oc rfl oc_tuple (pe_callTy call_tuple_of (by rfl) c.free_tuple (by decide +kernel) (pa_consM (pd_v (pv 10)) pa_nilM))) (pf_cons (pe_fn o c.f6 rfl (by rfl) (pg_refM (pv 0) (pg_valM (pe_name (by rfl) (pv 6)) (pg_valM (pe_name (by rfl) (pv 3)) pg_nilM)))) pf_nil)))))
 (pss_consM (ps_ifM (PW.pt (pw_andM (pt_truM (pd_v (pv 7))) (pw_and1 (pt_o2 op_eqM (pt_cmpR (op_eqX o.rm.units) (pd_e (pe_fn o c.f5 rfl (by rfl) (pg_refM (pv 0) (pg_valM (pe_c (.int _) pe_int) pg_nilM)))) (pd_e (pe_c (.int _) pe_int)) (nomark _))))))
 (pss_oneM (ps_setM (i := 13) sc__law_family.nd (by rfl) rfl (by first | exact Or.inl rfl | exact Or.inr rfl) (pe_o2 rfl rfl op_ixM (pe_ix ix_seq (pd_v (pv 7)) (pd_e (pe_fn o c.f5 rfl (by rfl) (pg_refM (pv 0) (pg_valM (pe_oc rfl oc_len (pe_callB call_len (by rfl) c.free_len PySem.boot_len (pa_consM (pd_v (pv 7)) pa_nilM))) pg_nilM)))) (fun _ _ => rfl)))))
 pss_nilM)
 (pss_oneM (ps_exprM (pe_mu rfl rfl rfl om_app (pe_bm PySem.F.plainAttrs_list PySem.F.slot_list_append PySem.F.type_list_append mt_append (pv 7) (pf_cons (pe_name (by rfl) (pv 13)) pf_nil)))))))))))
 (pss_consM (ps_ifM (pt_o2 op_eqM (pt_cmpR (op_eqX o.rm.units) (pd_e (pe_fn o c.f5 rfl (by rfl) (pg_refM (pv 0) (pg_valM (pe_c (.int _) pe_int) pg_nilM)))) (pd_e (pe_c (.int _) pe_int)) (nomark _)))
 (pss_oneM (ps_forM (ws := [14]) PassesOwn.never rfl (pi_r1M rfl (pi_range1 (by rfl) c.free_range (pf_cons (pe_name (by rfl) (pv 4)) pf_nil))) (pg_name (i := 14) sc__law_family.nd rfl (by first | exact Or.inl rfl | exact Or.inr rfl)) (tgs_name (by rfl) (by show 14 < 16; decide) (by decide))
 (pss_oneM (ps_exprM (pe_mu rfl rfl rfl om_ins (pe_bm PySem.F.plainAttrs_list PySem.F.slot_list_insert PySem.F.type_list_insert mt_insert (pv 7) (pf_cons (pe_fn o c.f5 rfl (by rfl) (pg_refM (pv 0) (pg_valM (pe_o2 rfl rfl op_addI (pe_op op_add (pd_e (pe_oc rfl oc_len (pe_callB call_len (by rfl) c.free_len PySem.boot_len (pa_consM (pd_v (pv 7)) pa_nilM)))) (pd_e (pe_c (.int _) pe_int)))) pg_nilM))) (pf_cons (pe_tupM (pf_cons (pe_name (by rfl) (pv 14)) (pf_cons (pe_tupM pf_nil) (pf_cons (pe_fn o c.f6 rfl (by rfl) (pg_refM (pv 0) (pg_valM (pe_name (by rfl) (pv 6)) (pg_valM (pe_name (by rfl) (pv 3)) pg_nilM)))) pf_nil)))) pf_nil))))))))
 pss_nilM)
 (pss_consM (ps_setLcM (i := 15) (own := [("_law_state", 14)]) rfl (by rfl) (by rfl) (by rfl) (tgs_name (by rfl) (by show 14 < 16; decide) (by decide)) rfl sc__law_family.nd rfl rfl (sw_true rfl rfl rfl (by decide +kernel)) (pi_r1M rfl (pi_range1 (by rfl) c.free_range (pf_cons (pe_name (by rfl) (pv 4)) pf_nil))) (blkOk_by (own := [("_law_state", 14)]) (N := N__law_family) (sc := defScope st__law_family) (by decide +kernel)) (fun _ _ _ _ _ => (pg_name (i := 14) sc__law_family.nd rfl (by first | exact Or.inl rfl | exact Or.inr rfl))) (fun _ _ _ _ _ => (pts_oneM (pt_o2 op_cmpM (pt_cmpR op_gt (pd_e (pe_fn o c.f5 rfl (by rfl) (pg_refM (pv 0) (pg_valM (pe_c (.int _) pe_int) pg_nilM)))) (pd_e (pe_c (.int _) pe_int)) (nomark _))))) (fun _ _ _ _ _ => (pe_name (by rfl) (pv 14))))
 (pss_consM (ps_ifM (PW.pt (pw_andM (pt_notM (pt_truM (pd_v (pv 15)))) (pw_and1 (pt_o2 op_cmpM (pt_cmpR op_gt (pd_e (pe_fn o c.f5 rfl (by rfl) (pg_refM (pv 0) (pg_valM (pe_c (.int _) pe_int) pg_nilM)))) (pd_e (pe_c (.int _) pe_int)) (nomark _))))))
 (pss_oneM (ps_setM (i := 15) sc__law_family.nd (by rfl) rfl (by first | exact Or.inl rfl | exact Or.inr rfl) (pe_lstM (pf_cons (pe_fn o c.f5 rfl (by rfl) (pg_refM (pv 0) (pg_valM (pe_name (by rfl) (pv 4)) pg_nilM))) pf_nil))))
 pss_nilM)
 (pss_oneM (ps_retM (pe_tupM (pf_cons (pe_name (by rfl) (pv 4)) (pf_cons (pe_oc rfl oc_tuple (pe_callTy call_tuple_of (by rfl) c.free_tuple (by decide +kernel) (pa_consM (pd_v (pv 15)) pa_nilM))) (pf_cons (pe_oc rfl oc_tuple (pe_callTy call_tuple_of (by rfl) c.free_tuple (by decide +kernel) (pa_consM (pd_v (pv 7)) pa_nilM))) pf_nil))))))))))))))
theorem s__law_weight_0 (c : Cals P w K mg base lv C) {f : Addr} {cdv : Value} {A : Around} {outer : List PySem.Env} {s : Shared} {H : Hp} (o : Ok (A.deeper (envOfC "_law_weight" (defScope st__law_weight) s.heap.objs.size f cdv)) lv) :
    PSs (cxOf CX0 P w K mg base N__law_weight "_law_weight" (defScope st__law_weight) f cdv A outer s H E0).nox (defBody st__law_weight) (tS K [] (M299 C)) :=
 (pss_consM (ps_ifM (pt_o2 op_isM (pt_cmpR op_isN (pd_e (pe_o2 rfl rfl op_ixM (pe_ix ix_seq (pd_v (pv 0)) (pd_e (pe_c (.int _) pe_int)) (fun _ _ => rfl)))) (pd_e (pe_c .none pe_non)) (nomark _)))
 (pss_oneM (ps_retM (pe_c .none pe_non)))
 pss_nilM)
 (pss_consM (ps_setM (i := 2) sc__law_weight.nd (by rfl) rfl (by first | exact Or.inl rfl | exact Or.inr rfl) (pe_o2 rfl rfl op_ixM (pe_ix ix_seq (pd_v (pv 0)) (pd_e (pe_c (.int _) pe_int)) (fun _ _ => rfl))))
 (pss_consM (ps_setM (i := 3) sc__law_weight.nd (by rfl) rfl (by first | exact Or.inl rfl | exact Or.inr rfl) (pe_c (.int _) pe_int))
 (pss_consM (ps_forM (ws := [4]) PassesOwn.never rfl (pi_anyM (pe_o2 rfl rfl op_ixM (pe_ix ix_seq (pd_v (pv 0)) (pd_e (pe_c (.int _) pe_int)) (fun _ _ => rfl)))) (pg_name (i := 4) sc__law_weight.nd rfl (by first | exact Or.inl rfl | exact Or.inr rfl)) (tgs_name (by rfl) (by show 4 < 5; decide) (by decide))
 (pss_consM (ps_ifM (pt_o2 op_isM (pt_cmpR op_isN (pd_e (pe_o2 rfl rfl op_ixM (pe_ix ix_seq (pd_v (pv 1)) (pd_v (pv 4)) (fun _ _ => rfl)))) (pd_e (pe_c .none pe_non)) (nomark _)))
 (pss_oneM (ps_retM (pe_c .none pe_non)))
 pss_nilM)
 (pss_consM (ps_setM (i := 2) sc__law_weight.nd (by rfl) rfl (by first | exact Or.inl rfl | exact Or.inr rfl) (pe_o2 rfl rfl op_addAM (pe_op op_addA (pd_v (pv 2)) (pd_e (pe_o2 rfl rfl op_ixM (pe_ix ix_seq (pd_e (pe_o2 rfl rfl op_ixM (pe_ix ix_seq (pd_v (pv 1)) (pd_v (pv 4)) (fun _ _ => rfl)))) (pd_e (pe_c (.int _) pe_int)) (fun _ _ => rfl)))))))
 (pss_oneM (ps_setM (i := 3) sc__law_weight.nd (by rfl) rfl (by first | exact Or.inl rfl | exact Or.inr rfl) (pe_o2 rfl rfl op_addAM (pe_op op_addA (pd_v (pv 3)) (pd_e (pe_o2 rfl rfl op_ixM (pe_ix ix_seq (pd_e (pe_o2 rfl rfl op_ixM (pe_ix ix_seq (pd_v (pv 1)) (pd_v (pv 4)) (fun _ _ => rfl)))) (pd_e (pe_c (.int _) pe_int)) (fun _ _ => rfl)))))))))))
 (pss_oneM (ps_retM (pe_tupM (pf_cons (pe_name (by rfl) (pv 2)) (pf_cons (pe_name (by rfl) (pv 3)) pf_nil)))))))))
theorem s__law_weight_1 (c : Cals P w K mg base lv C) {f : Addr} {cdv : Value} {A : Around} {outer : List PySem.Env} {s : Shared} {H : Hp} (o : Ok (A.deeper (envOfC "_law_weight" (defScope st__law_weight) s.heap.objs.size f cdv)) lv) :
    PSs (cxOf CX0 P w K mg base N__law_weight "_law_weight" (defScope st__law_weight) f cdv A outer s H E0).nox (defBody st__law_weight) (tS K [1] (M299 C)) :=
 (pss_consM (ps_ifM (pt_o2 op_isM (pt_cmpR op_isN (pd_e (pe_o2 rfl rfl op_ixM (pe_ix ix_seq (pd_v (pv 0)) (pd_e (pe_c (.int _) pe_int)) (fun _ _ => rfl)))) (pd_e (pe_c .none pe_non)) (nomark _)))
 (pss_oneM (ps_retM (pe_c .none pe_non)))
 pss_nilM)
 (pss_consM (ps_setM (i := 2) sc__law_weight.nd (by rfl) rfl (by first | exact Or.inl rfl | exact Or.inr rfl) (pe_o2 rfl rfl op_ixM (pe_ix ix_seq (pd_v (pv 0)) (pd_e (pe_c (.int _) pe_int)) (fun _ _ => rfl))))
 (pss_consM (ps_setM (i := 3) sc__law_weight.nd (by rfl) rfl (by first | exact Or.inl rfl | exact Or.inr rfl) (pe_c (.int _) pe_int))
 (pss_consM (ps_forM (ws := [4]) PassesOwn.never rfl (pi_anyM (pe_o2 rfl rfl op_ixM (pe_ix ix_seq (pd_v (pv 0)) (pd_e (pe_c (.int _) pe_int)) (fun _ _ => rfl)))) (pg_name (i := 4) sc__law_weight.nd rfl (by first | exact Or.inl rfl | exact Or.inr rfl)) (tgs_name (by rfl) (by show 4 < 5; decide) (by decide))
 (pss_consM (ps_ifM (pt_o2 op_isM (pt_cmpR op_isN (pd_e (pe_o2 rfl rfl op_ixM (pe_ix ix_seq (pd_v (pv 1)) (pd_v (pv 4)) (fun _ _ => rfl)))) (pd_e (pe_c .none pe_non)) (nomark _)))
 (pss_oneM (ps_retM (pe_c .none pe_non)))
 pss_nilM)
 (pss_consM (ps_setM (i := 2) sc__law_weight.nd (by rfl) rfl (by first | exact Or.inl rfl | exact Or.inr rfl) (pe_o2 rfl rfl op_addAM (pe_op op_addA (pd_v (pv 2)) (pd_e (pe_o2 rfl rfl op_ixM (pe_ix ix_seq (pd_e (pe_o2 rfl rfl op_ixM (pe_ix ix_seq (pd_v (pv 1)) (pd_v (pv 4)) (fun _ _ => rfl)))) (pd_e (pe_c (.int _) pe_int)) (fun _ _ => rfl)))))))
 (pss_oneM (ps_setM (i := 3) sc__law_weight.nd (by rfl) rfl (by first | exact Or.inl rfl | exact Or.inr rfl) (pe_o2 rfl rfl op_addAM (pe_op op_addA (pd_v (pv 3)) (pd_e (pe_o2 rfl rfl op_ixM (pe_ix ix_seq (pd_e (pe_o2 rfl rfl op_ixM (pe_ix ix_seq (pd_v (pv 1)) (pd_v (pv 4)) (fun _ _ => rfl)))) (pd_e (pe_c (.int _) pe_int)) (fun _ _ => rfl)))))))))))
 (pss_oneM (ps_retM (pe_tupM (pf_cons (pe_name (by rfl) (pv 2)) (pf_cons (pe_name (by rfl) (pv 3)) pf_nil)))))))))
theorem s__law_weights (c : Cals P w K mg base lv C) {f : Addr} {cdv : Value} {A : Around} {outer : List PySem.Env} {s : Shared} {H : Hp} (o : Ok (A.deeper (envOfC "_law_weights" (defScope st__law_weights) s.heap.objs.size f cdv)) lv) :
    PSs (cxOf CX0 P w K mg base N__law_weights "_law_weights" (defScope st__law_weights) f cdv A outer s H E0).nox (defBody st__law_weights) (tS K [] (M300 C)) :=
 (pss_consM (ps_setLcM (i := 1) (own := [("_law_state", 6)]) rfl (by rfl) (by rfl) (by rfl) (tgs_name (by rfl) (by show 6 < 7; decide) (by decide)) rfl sc__law_weights.nd rfl rfl (sw_true rfl rfl rfl (by decide +kernel)) (pi_r1M rfl (pi_range1 (by rfl) c.free_range (pf_cons (pe_o2 rfl rfl op_ixM (pe_ix ix_seq (pd_v (pv 0)) (pd_e (pe_c (.int _) pe_int)) (fun _ _ => rfl))) pf_nil))) (blkOk_by (own := [("_law_state", 6)]) (N := N__law_weights) (sc := defScope st__law_weights) (by decide +kernel)) (fun _ _ _ _ _ => (pg_name (i := 6) sc__law_weights.nd rfl (by first | exact Or.inl rfl | exact Or.inr rfl))) (fun _ _ _ _ _ => pts_yesM) (fun _ _ _ _ _ => (pe_c .none pe_non)))
 (pss_consM (ps_forM (ws := [2]) PassesOwn.never rfl (pi_r1M rfl (pi_range1 (by rfl) c.free_range (pf_cons (pe_o2 rfl rfl op_addI (pe_op op_add (pd_e (pe_o2 rfl rfl op_ixM (pe_ix ix_seq (pd_v (pv 0)) (pd_e (pe_c (.int _) pe_int)) (fun _ _ => rfl)))) (pd_e (pe_c (.int _) pe_int)))) pf_nil))) (pg_name (i := 2) sc__law_weights.nd rfl (by first | exact Or.inl rfl | exact Or.inr rfl)) (tgs_name (by rfl) (by show 2 < 7; decide) (by decide))
 (pss_consM (ps_setM (i := 3) sc__law_weights.nd (by rfl) rfl (by first | exact Or.inl rfl | exact Or.inr rfl) (pe_c (.bool _) pe_bl))
 (pss_consM (ps_forM (ws := [4]) PassesOwn.never rfl (pi_anyM (pe_o2 rfl rfl op_ixM (pe_ix ix_seq (pd_v (pv 0)) (pd_e (pe_c (.int _) pe_int)) (fun _ _ => rfl)))) (pg_name (i := 4) sc__law_weights.nd rfl (by first | exact Or.inl rfl | exact Or.inr rfl)) (tgs_name (by rfl) (by show 4 < 7; decide) (by decide))
 (pss_consM (ps_setM (i := 5) sc__law_weights.nd (by rfl) rfl (by first | exact Or.inl rfl | exact Or.inr rfl) (pe_fn o c.f299 rfl (by rfl) (pg_valM (pe_name (by rfl) (pv 4)) (pg_refM (pv 1) pg_nilM))))
 (pss_oneM (ps_ifM (PW.pt (pw_andM (pt_o2 op_isNotM (pt_cmpR op_notN (pd_v (pv 5)) (pd_e (pe_c .none pe_non)) (nomark _))) (pw_and1 (PW.pt (pw_orM (pt_o2 op_isM (pt_cmpR op_isN (pd_e (pe_o2 rfl rfl op_ixM (pe_ix ix_seq (pd_v (pv 1)) (pd_e (pe_o2 rfl rfl op_ixM (pe_ix ix_seq (pd_v (pv 4)) (pd_e (pe_c (.int _) pe_int)) (fun _ _ => rfl)))) (fun _ _ => rfl)))) (pd_e (pe_c .none pe_non)) (nomark _))) (pw_or1 (pt_o2 op_ordM (pt_cmpR (op_ltX o.un65) (pd_v (pv 5)) (pd_e (pe_o2 rfl rfl op_ixM (pe_ix ix_seq (pd_v (pv 1)) (pd_e (pe_o2 rfl rfl op_ixM (pe_ix ix_seq (pd_v (pv 4)) (pd_e (pe_c (.int _) pe_int)) (fun _ _ => rfl)))) (fun _ _ => rfl)))) (nomark _)))))))))
 (pss_consM (ps_putM rfl (ps_asg (pe_name (by rfl) (pv 5)) (pg_sub (pv 1) (pe_o2 rfl rfl op_ixM (pe_ix ix_seq (pd_v (pv 4)) (pd_e (pe_c (.int _) pe_int)) (fun _ _ => rfl))) set_list)))
 (pss_oneM (ps_setM (i := 3) sc__law_weights.nd (by rfl) rfl (by first | exact Or.inl rfl | exact Or.inr rfl) (pe_c (.bool _) pe_bl))))
 pss_nilM))))
 (pss_oneM (ps_ifM (pt_notM (pt_truM (pd_v (pv 3))))
 (pss_oneM ps_breakM)
 pss_nilM)))))
 (pss_oneM (ps_retM (pe_name (by rfl) (pv 1))))))
theorem s__law_same (c : Cals P w K mg base lv C) {f : Addr} {cdv : Value} {A : Around} {outer : List PySem.Env} {s : Shared} {H : Hp} (o : Ok (A.deeper (envOfC "_law_same" (defScope st__law_same) s.heap.objs.size f cdv)) lv) :
    PSs (cxOf CX0 P w K mg base N__law_same "_law_same" (defScope st__law_same) f cdv A outer s H E0).nox (defBody st__law_same) (tS K [] (M8 C)) :=
 (pss_oneM (ps_retM (pe_andM (pe_o2 rfl rfl op_eqM.op (pe_cmpR (op_eqX o.rm.units) (pd_v (pv 0)) (pd_v (pv 1)) (nomark _))) (pe_one (pe_o2 rfl rfl op_eqM.op (pe_cmpR (op_eqX o.rm.units) (pd_e (pe_oc rfl oc_repr (pe_callB (call_repr o.gd o.un66) (by rfl) c.free_repr (by decide +kernel) (pa_consM (pd_v (pv 0)) pa_nilM)))) (pd_e (pe_oc rfl oc_repr (pe_callB (call_repr o.gd o.un66) (by rfl) c.free_repr (by decide +kernel) (pa_consM (pd_v (pv 1)) pa_nilM)))) (nomark _)))))))
theorem s__law_large (c : Cals P w K mg base lv C) {f : Addr} {cdv : Value} {A : Around} {outer : List PySem.Env} {s : Shared} {H : Hp} (o : Ok (A.deeper (envOfC "_law_large" (defScope st__law_large) s.heap.objs.size f cdv)) lv) :
    PSs (cxOf CX0 P w K mg base N__law_large "_law_large" (defScope st__law_large) f cdv A outer s H E0).nox (defBody st__law_large) (tS K [0] (M67 C)) :=
 (pss_consM (ps_setM (i := 2) sc__law_large.nd (by rfl) rfl (by first | exact Or.inl rfl | exact Or.inr rfl) (pe_o2 rfl rfl op_addI (pe_op op_add (pd_e (pe_c (.int _) pe_int)) (pd_e (pe_fn o c.f5 rfl (by rfl) (pg_refM (pv 0) (pg_valM (pe_c (.int _) pe_int) pg_nilM)))))))
 (pss_consM (ps_setM (i := 3) sc__law_large.nd (by rfl) rfl (by first | exact Or.inl rfl | exact Or.inr rfl) (pe_o2 rfl rfl op_addI (pe_op op_add (pd_e (pe_c (.int _) pe_int)) (pd_e (pe_fn o c.f5 rfl (by rfl) (pg_refM (pv 0) (pg_valM (pe_c (.int _) pe_int) pg_nilM)))))))
 (pss_consM (ps_setM (i := 4) sc__law_large.nd (by rfl) rfl (by first | exact Or.inl rfl | exact Or.inr rfl) (pe_fn o c.f5 rfl (by rfl) (pg_refM (pv 0) (pg_valM (pe_c (.int _) pe_int) pg_nilM))))
 (pss_consM (ps_setM (i := 5) sc__law_large.nd (by rfl) rfl (by first | exact Or.inl rfl | exact Or.inr rfl) (pe_o2 rfl rfl op_addI (pe_op op_add (pd_e (pe_c (.int _) pe_int)) (pd_e (pe_fn o c.f5 rfl (by rfl) (pg_refM (pv 0) (pg_valM (pe_c (.int _) pe_int) pg_nilM)))))))
 (pss_consM (ps_setM (i := 6) sc__law_large.nd (by rfl) rfl (by first | exact Or.inl rfl | exact Or.inr rfl) (pe_o2 rfl rfl op_addI (pe_op op_add (pd_e (pe_c (.int _) pe_int)) (pd_e (pe_fn o c.f5 rfl (by rfl) (pg_refM (pv 0) (pg_valM (pe_c (.int _) pe_int) pg_nilM)))))))
 (pss_consM (ps_setM (i := 7) sc__law_large.nd (by rfl) rfl (by first | exact Or.inl rfl | exact Or.inr rfl) (pe_lstM pf_nil))
 (pss_consM (ps_forM (ws := [8]) PassesOwn.never rfl (pi_r1M rfl (pi_range1 (by rfl) c.free_range (pf_cons (pe_name (by rfl) (pv 2)) pf_nil))) (pg_name (i := 8) sc__law_large.nd rfl (by first | exact Or.inl rfl | exact Or.inr rfl)) (tgs_name (by rfl) (by show 8 < 11; decide) (by decide))
 (pss_consM (ps_setM (i := 9) sc__law_large.nd (by rfl) rfl (by first | exact Or.inl rfl | exact Or.inr rfl) (pe_o2 rfl rfl op_subM (pe_op op_sub (pd_e (pe_o2 rfl rfl op_modM (pe_op op_mod (pd_e (pe_oc rfl oc_int (pe_callTy call_int1 (by rfl) c.free_int (by decide +kernel) (pa_consM (pd_e (pe_o2 rfl rfl op_addAM (pe_op op_addA (pd_e (pe_o2 rfl rfl op_mulM (pe_op op_mulX (pd_v (pv 8)) (pd_v (pv 5))))) (pd_v (pv 3))))) pa_nilM)))) (pd_e (pe_c (.int _) pe_int))))) (pd_e (pe_o2 rfl rfl op_mulM (pe_op op_mulX (pd_e (pe_c (.int _) pe_int)) (pd_v (pv 1))))))))
 (pss_consM (ps_setM (i := 10) sc__law_large.nd (by rfl) rfl (by first | exact Or.inl rfl | exact Or.inr rfl) (pe_o2 rfl rfl op_addAM (pe_op op_addA (pd_v (pv 8)) (pd_v (pv 3)))))
 (pss_consM (ps_ifM (pt_o2 op_eqM (pt_cmpR (op_eqX o.rm.units) (pd_v (pv 4)) (pd_e (pe_c (.int _) pe_int)) (nomark _)))
 (pss_oneM (ps_setM (i := 10) sc__law_large.nd (by rfl) rfl (by first | exact Or.inl rfl | exact Or.inr rfl) (pe_o2 rfl rfl op_modM (pe_op op_mod (pd_e (pe_oc rfl oc_int (pe_callTy call_int1 (by rfl) c.free_int (by decide +kernel) (pa_consM (pd_e (pe_o2 rfl rfl op_addAM (pe_op op_addA (pd_v (pv 8)) (pd_v (pv 3))))) pa_nilM)))) (pd_v (pv 2))))))
 pss_nilM)
 (pss_consM (ps_ifM (pt_o2 op_cmpM (pt_cmpR op_lt (pd_v (pv 10)) (pd_v (pv 2)) (nomark _)))
 (pss_oneM (ps_exprM (pe_mu rfl rfl rfl om_app (pe_bm PySem.F.plainAttrs_list PySem.F.slot_list_append PySem.F.type_list_append mt_append (pv 7) (pf_cons (pe_tupM (pf_cons (pe_name (by rfl) (pv 8)) (pf_cons (pe_tupM (pf_cons (pe_name (by rfl) (pv 10)) pf_nil)) (pf_cons (pe_name (by rfl) (pv 9)) pf_nil)))) pf_nil)))))
 pss_nilM)
 (pss_oneM (ps_ifM (pt_o2 op_eqM (pt_cmpR (op_eqX o.rm.units) (pd_e (pe_o2 rfl rfl op_modM (pe_op op_mod (pd_e (pe_oc rfl oc_int (pe_callTy call_int1 (by rfl) c.free_int (by decide +kernel) (pa_consM (pd_v (pv 8)) pa_nilM)))) (pd_v (pv 6))))) (pd_e (pe_c (.int _) pe_int)) (nomark _)))
 (pss_oneM (ps_exprM (pe_mu rfl rfl rfl om_app (pe_bm PySem.F.plainAttrs_list PySem.F.slot_list_append PySem.F.type_list_append mt_append (pv 7) (pf_cons (pe_tupM (pf_cons (pe_name (by rfl) (pv 8)) (pf_cons (pe_tupM pf_nil) (pf_cons (pe_o2 rfl rfl op_subM (pe_op op_sub (pd_e (pe_o2 rfl rfl op_subM (pe_op op_sub (pd_e (pe_c (.int _) pe_int)) (pd_e (pe_o2 rfl rfl op_mulM (pe_op op_mulX (pd_e (pe_c (.int _) pe_int)) (pd_v (pv 1)))))))) (pd_e (pe_o2 rfl rfl op_modM (pe_op op_mod (pd_e (pe_oc rfl oc_int (pe_callTy call_int1 (by rfl) c.free_int (by decide +kernel) (pa_consM (pd_v (pv 8)) pa_nilM)))) (pd_e (pe_c (.int _) pe_int))))))) pf_nil)))) pf_nil)))))
 pss_nilM)))))))
 (pss_oneM (ps_retM (pe_tupM (pf_cons (pe_name (by rfl) (pv 2)) (pf_cons (pe_oc rfl oc_tuple (pe_callTy call_tuple_of (by rfl) c.free_tuple (by decide +kernel) (pa_consM (pd_e (pe_slM (pd_e (pe_lstM (pf_cons (pe_c (.int _) pe_int) (pf_cons (pe_o2 rfl rfl op_divM (pe_op op_fdivW (pd_v (pv 2)) (pd_e (pe_c (.int _) pe_int)))) pf_nil)))) (po_someM (pe_fn o c.f5 rfl (by rfl) (pg_refM (pv 0) (pg_valM (pe_c (.int _) pe_int) pg_nilM)))) po_noneM)) pa_nilM))) (pf_cons (pe_oc rfl oc_tuple (pe_callTy call_tuple_of (by rfl) c.free_tuple (by decide +kernel) (pa_consM (pd_v (pv 7)) pa_nilM))) pf_nil)))))))))))))
theorem s__law_dear (c : Cals P w K mg base lv C) {f : Addr} {cdv : Value} {A : Around} {outer : List PySem.Env} {s : Shared} {H : Hp} (o : Ok (A.deeper (envOfC "_law_dear" (defScope st__law_dear) s.heap.objs.size f cdv)) lv) :
    PSs (cxOf CX0 P w K mg base N__law_dear "_law_dear" (defScope st__law_dear) f cdv A outer s H E0).nox (defBody st__law_dear) (tS K [] (M69 C)) :=
 (pss_consM (ps_setLcM (i := 2) (own := [("_law_state", 3)]) rfl (by rfl) (by rfl) (by rfl) (tgs_name (by rfl) (by show 3 < 4; decide) (by decide)) rfl sc__law_dear.nd rfl rfl (sw_true rfl rfl rfl (by decide +kernel)) (pi_anyM (pe_o2 rfl rfl op_ixM (pe_ix ix_seq (pd_v (pv 0)) (pd_e (pe_c (.int _) pe_int)) (fun _ _ => rfl)))) (blkOk_by (own := [("_law_state", 3)]) (N := N__law_dear) (sc := defScope st__law_dear) (by decide +kernel)) (fun _ _ _ _ _ => (pg_name (i := 3) sc__law_dear.nd rfl (by first | exact Or.inl rfl | exact Or.inr rfl))) (fun _ _ _ _ _ => pts_yesM) (fun _ _ _ _ _ => (pe_o2 rfl rfl op_ixM (pe_ix ix_seq (pd_v (pv 1)) (pd_v (pv 3)) (fun _ _ => rfl)))))
 (pss_consM (ps_ifM (PW.pt (pw_orM (pt_o2 op_isM (pt_cmpR op_isN (pd_e (pe_o2 rfl rfl op_ixM (pe_ix ix_seq (pd_v (pv 0)) (pd_e (pe_c (.int _) pe_int)) (fun _ _ => rfl)))) (pd_e (pe_c .none pe_non)) (nomark _))) (pw_or1 (pt_o2 op_inM (pt_cmpR (op_inD o.un65) (pd_e (pe_c .none pe_non)) (pd_v (pv 2)) (by rfl))))))
 (pss_oneM (ps_retM (pe_c .none pe_non)))
 pss_nilM)
 (pss_consM (ps_ifM (pt_o2 op_inM (pt_cmpR (op_inD o.un65) (pd_e (pe_c (.str _) pe_str)) (pd_v (pv 2)) (by rfl)))
 (pss_oneM (ps_retM (pe_c (.str _) pe_str)))
 pss_nilM)
 (pss_oneM (ps_retM (pe_o2 rfl rfl op_addI (pe_op op_add (pd_e (pe_o2 rfl rfl op_ixM (pe_ix ix_seq (pd_v (pv 0)) (pd_e (pe_c (.int _) pe_int)) (fun _ _ => rfl)))) (pd_e (pe_oc rfl oc_sum (pe_callB (cr_sum rfl) (by rfl) c.free_sum (by decide +kernel) (pa_consM (pd_v (pv 2)) pa_nilM)))))))))))
theorem s__law_above (c : Cals P w K mg base lv C) {f : Addr} {cdv : Value} {A : Around} {outer : List PySem.Env} {s : Shared} {H : Hp} (o : Ok (A.deeper (envOfC "_law_above" (defScope st__law_above) s.heap.objs.size f cdv)) lv) :
    PSs (cxOf CX0 P w K mg base N__law_above "_law_above" (defScope st__law_above) f cdv A outer s H E0).nox (defBody st__law_above) (tS K [] (M10 C)) :=
 (pss_consM (ps_ifM (PW.pt (pw_orM (pt_o2 op_isM (pt_cmpR op_isN (pd_v (pv 0)) (pd_e (pe_c .none pe_non)) (nomark _))) (pw_or1 (pt_o2 op_eqM (pt_cmpR (op_eqX o.rm.units) (pd_v (pv 1)) (pd_e (pe_c (.str _) pe_str)) (nomark _))))))
 (pss_oneM (ps_retM (pe_c (.bool _) pe_bl)))
 pss_nilM)
 (pss_oneM (ps_retM (pe_orM (pe_o2 rfl rfl op_isM.op (pe_cmpR op_isN (pd_v (pv 1)) (pd_e (pe_c .none pe_non)) (nomark _))) (pe_orM (pe_o2 rfl rfl op_eqM.op (pe_cmpR (op_eqX o.rm.units) (pd_v (pv 0)) (pd_e (pe_c (.str _) pe_str)) (nomark _))) (pe_one (pe_o2 rfl rfl op_cmpM.op (pe_cmpR op_gt (pd_v (pv 0)) (pd_v (pv 1)) (nomark _)))))))))
theorem s__law_dears (c : Cals P w K mg base lv C) {f : Addr} {cdv : Value} {A : Around} {outer : List PySem.Env} {s : Shared} {H : Hp} (o : Ok (A.deeper (envOfC "_law_dears" (defScope st__law_dears) s.heap.objs.size f cdv)) lv) :
    PSs (cxOf CX0 P w K mg base N__law_dears "_law_dears" (defScope st__law_dears) f cdv A outer s H E0).nox (defBody st__law_dears) (tS K [] (M70 C)) :=
 (pss_consM (ps_setLcM (i := 2) (own := [("_law_state", 5)]) rfl (by rfl) (by rfl) (by rfl) (tgs_name (by rfl) (by show 5 < 6; decide) (by decide)) rfl sc__law_dears.nd rfl rfl (sw_true rfl rfl rfl (by decide +kernel)) (pi_r1M rfl (pi_range1 (by rfl) c.free_range (pf_cons (pe_o2 rfl rfl op_ixM (pe_ix ix_seq (pd_v (pv 0)) (pd_e (pe_c (.int _) pe_int)) (fun _ _ => rfl))) pf_nil))) (blkOk_by (own := [("_law_state", 5)]) (N := N__law_dears) (sc := defScope st__law_dears) (by decide +kernel)) (fun _ _ _ _ _ => (pg_name (i := 5) sc__law_dears.nd rfl (by first | exact Or.inl rfl | exact Or.inr rfl))) (fun _ _ _ _ _ => pts_yesM) (fun _ _ _ _ _ => (pe_c .none pe_non)))
 (pss_consM (ps_forM (ws := [3]) PassesOwn.never rfl (pi_anyM (pe_o2 rfl rfl op_ixM (pe_ix ix_seq (pd_v (pv 0)) (pd_e (pe_c (.int _) pe_int)) (fun _ _ => rfl)))) (pg_name (i := 3) sc__law_dears.nd rfl (by first | exact Or.inl rfl | exact Or.inr rfl)) (tgs_name (by rfl) (by show 3 < 6; decide) (by decide))
 (pss_consM (ps_setM (i := 4) sc__law_dears.nd (by rfl) rfl (by first | exact Or.inl rfl | exact Or.inr rfl) (pe_fn o c.f69 rfl (by rfl) (pg_valM (pe_name (by rfl) (pv 3)) (pg_valM (pe_name (by rfl) (pv 1)) pg_nilM))))
 (pss_oneM (ps_ifM (pt_truM (pd_e (pe_fn o c.f10 rfl (by rfl) (pg_valM (pe_name (by rfl) (pv 4)) (pg_valM (pe_o2 rfl rfl op_ixM (pe_ix ix_seq (pd_v (pv 2)) (pd_e (pe_o2 rfl rfl op_ixM (pe_ix ix_seq (pd_v (pv 3)) (pd_e (pe_c (.int _) pe_int)) (fun _ _ => rfl)))) (fun _ _ => rfl))) pg_nilM)))))
 (pss_oneM (ps_putM rfl (ps_asg (pe_name (by rfl) (pv 4)) (pg_sub (pv 2) (pe_o2 rfl rfl op_ixM (pe_ix ix_seq (pd_v (pv 3)) (pd_e (pe_c (.int _) pe_int)) (fun _ _ => rfl))) set_list))))
 pss_nilM))))
 (pss_oneM (ps_retM (pe_oc rfl oc_tuple (pe_callTy call_tuple_of (by rfl) c.free_tuple (by decide +kernel) (pa_consM (pd_v (pv 2)) pa_nilM)))))))
theorem s__law_greatest (c : Cals P w K mg base lv C) {f : Addr} {cdv : Value} {A : Around} {outer : List PySem.Env} {s : Shared} {H : Hp} (o : Ok (A.deeper (envOfC "_law_greatest" (defScope st__law_greatest) s.heap.objs.size f cdv)) lv) :
    PSs (cxOf CX0 P w K mg base N__law_greatest "_law_greatest" (defScope st__law_greatest) f cdv A outer s H E0).nox (defBody st__law_greatest) (tS K [] (M71 C)) :=
 (pss_consM (ps_setM (i := 1) sc__law_greatest.nd (by rfl) rfl (by first | exact Or.inl rfl | exact Or.inr rfl) (pe_oc rfl oc_tuple (pe_callTy call_tuple_of (by rfl) c.free_tuple (by decide +kernel) (pa_consM (pd_e (pe_lcM (own := [("_law_state", 6)]) rfl (by rfl) (by rfl) (tgs_name (by rfl) (by show 6 < 7; decide) (by decide)) rfl sc__law_greatest.nd (pi_r1M rfl (pi_range1 (by rfl) c.free_range (pf_cons (pe_o2 rfl rfl op_ixM (pe_ix ix_seq (pd_v (pv 0)) (pd_e (pe_c (.int _) pe_int)) (fun _ _ => rfl))) pf_nil))) (blkOk_by (own := [("_law_state", 6)]) (N := N__law_greatest) (sc := defScope st__law_greatest) (by decide +kernel)) (fun _ _ _ _ _ => (pg_name (i := 6) sc__law_greatest.nd rfl (by first | exact Or.inl rfl | exact Or.inr rfl))) (fun _ _ _ _ _ => pts_yesM) (fun _ _ _ _ _ => (pe_c .none pe_non)))) pa_nilM))))
 (pss_consM (ps_forM (ws := [2]) PassesOwn.never rfl (pi_r1M rfl (pi_range1 (by rfl) c.free_range (pf_cons (pe_o2 rfl rfl op_ixM (pe_ix ix_seq (pd_v (pv 0)) (pd_e (pe_c (.int _) pe_int)) (fun _ _ => rfl))) pf_nil))) (pg_name (i := 2) sc__law_greatest.nd rfl (by first | exact Or.inl rfl | exact Or.inr rfl)) (tgs_name (by rfl) (by show 2 < 7; decide) (by decide))
 (pss_consM (ps_setM (i := 3) sc__law_greatest.nd (by rfl) rfl (by first | exact Or.inl rfl | exact Or.inr rfl) (pe_fn o c.f70 rfl (by rfl) (pg_valM (pe_name (by rfl) (pv 0)) (pg_valM (pe_name (by rfl) (pv 1)) pg_nilM))))
 (pss_consM (ps_ifM (pt_o2 op_eqM (pt_cmpR (op_eqX o.rm.units) (pd_v (pv 3)) (pd_v (pv 1)) (nomark _)))
 (pss_oneM (ps_retM (pe_name (by rfl) (pv 1))))
 pss_nilM)
 (pss_oneM (ps_setM (i := 1) sc__law_greatest.nd (by rfl) rfl (by first | exact Or.inl rfl | exact Or.inr rfl) (pe_name (by rfl) (pv 3)))))))
 (pss_consM (ps_setM (i := 3) sc__law_greatest.nd (by rfl) rfl (by first | exact Or.inl rfl | exact Or.inr rfl) (pe_fn o c.f70 rfl (by rfl) (pg_valM (pe_name (by rfl) (pv 0)) (pg_valM (pe_name (by rfl) (pv 1)) pg_nilM))))
 (pss_consM (ps_setM (i := 4) sc__law_greatest.nd (by rfl) rfl (by first | exact Or.inl rfl | exact Or.inr rfl) (pe_lcM (own := [("_law_state", 6)]) rfl (by rfl) (by rfl) (tgs_name (by rfl) (by show 6 < 7; decide) (by decide)) rfl sc__law_greatest.nd (pi_r1M rfl (pi_range1 (by rfl) c.free_range (pf_cons (pe_o2 rfl rfl op_ixM (pe_ix ix_seq (pd_v (pv 0)) (pd_e (pe_c (.int _) pe_int)) (fun _ _ => rfl))) pf_nil))) (blkOk_by (own := [("_law_state", 6)]) (N := N__law_greatest) (sc := defScope st__law_greatest) (by decide +kernel)) (fun _ _ _ _ _ => (pg_name (i := 6) sc__law_greatest.nd rfl (by first | exact Or.inl rfl | exact Or.inr rfl))) (fun _ _ _ _ _ => pts_yesM) (fun _ _ _ _ _ => (pe_o2 rfl rfl op_neM.op (pe_cmpR (op_neX o.rm.units) (pd_e (pe_o2 rfl rfl op_ixM (pe_ix ix_seq (pd_v (pv 3)) (pd_v (pv 6)) (fun _ _ => rfl)))) (pd_e (pe_o2 rfl rfl op_ixM (pe_ix ix_seq (pd_v (pv 1)) (pd_v (pv 6)) (fun _ _ => rfl)))) (nomark _))))))
 (pss_consM (ps_forM (ws := [2]) PassesOwn.never rfl (pi_r1M rfl (pi_range1 (by rfl) c.free_range (pf_cons (pe_o2 rfl rfl op_ixM (pe_ix ix_seq (pd_v (pv 0)) (pd_e (pe_c (.int _) pe_int)) (fun _ _ => rfl))) pf_nil))) (pg_name (i := 2) sc__law_greatest.nd rfl (by first | exact Or.inl rfl | exact Or.inr rfl)) (tgs_name (by rfl) (by show 2 < 7; decide) (by decide))
 (pss_oneM (ps_forM (ws := [5]) PassesOwn.never rfl (pi_anyM (pe_o2 rfl rfl op_ixM (pe_ix ix_seq (pd_v (pv 0)) (pd_e (pe_c (.int _) pe_int)) (fun _ _ => rfl)))) (pg_name (i := 5) sc__law_greatest.nd rfl (by first | exact Or.inl rfl | exact Or.inr rfl)) (tgs_name (by rfl) (by show 5 < 7; decide) (by decide))
 (pss_oneM (ps_ifM (PW.pt (pw_andM (pt_notM (pt_truM (pd_e (pe_o2 rfl rfl op_ixM (pe_ix ix_seq (pd_v (pv 4)) (pd_e (pe_o2 rfl rfl op_ixM (pe_ix ix_seq (pd_v (pv 5)) (pd_e (pe_c (.int _) pe_int)) (fun _ _ => rfl)))) (fun _ _ => rfl)))))) (pw_and1 (pt_o2 op_isNotM (pt_cmpR op_notN (pd_e (pe_fn o c.f69 rfl (by rfl) (pg_valM (pe_name (by rfl) (pv 5)) (pg_valM (pe_name (by rfl) (pv 1)) pg_nilM)))) (pd_e (pe_c .none pe_non)) (nomark _))))))
 (pss_oneM (ps_putM rfl (ps_asg (pe_o2 rfl rfl op_inM.op (pe_cmpR (op_inD o.un65) (pd_e (pe_c (.bool _) pe_bl)) (pd_e (pe_lcM (own := [("_law_state", 6)]) rfl (by rfl) (by rfl) (tgs_name (by rfl) (by show 6 < 7; decide) (by decide)) rfl sc__law_greatest.nd (pi_anyM (pe_o2 rfl rfl op_ixM (pe_ix ix_seq (pd_v (pv 5)) (pd_e (pe_c (.int _) pe_int)) (fun _ _ => rfl)))) (blkOk_by (own := [("_law_state", 6)]) (N := N__law_greatest) (sc := defScope st__law_greatest) (by decide +kernel)) (fun _ _ _ _ _ => (pg_name (i := 6) sc__law_greatest.nd rfl (by first | exact Or.inl rfl | exact Or.inr rfl))) (fun _ _ _ _ _ => pts_yesM) (fun _ _ _ _ _ => (pe_o2 rfl rfl op_ixM (pe_ix ix_seq (pd_v (pv 4)) (pd_v (pv 6)) (fun _ _ => rfl)))))) (by rfl))) (pg_sub (pv 4) (pe_o2 rfl rfl op_ixM (pe_ix ix_seq (pd_v (pv 5)) (pd_e (pe_c (.int _) pe_int)) (fun _ _ => rfl))) set_list))))
 pss_nilM)))))
 (pss_oneM (ps_retM (pe_oc rfl oc_tuple (pe_callTy call_tuple_of (by rfl) c.free_tuple (by decide +kernel) (pa_consM (pd_e (pe_lcM (own := [("_law_state", 6)]) rfl (by rfl) (by rfl) (tgs_name (by rfl) (by show 6 < 7; decide) (by decide)) rfl sc__law_greatest.nd (pi_r1M rfl (pi_range1 (by rfl) c.free_range (pf_cons (pe_o2 rfl rfl op_ixM (pe_ix ix_seq (pd_v (pv 0)) (pd_e (pe_c (.int _) pe_int)) (fun _ _ => rfl))) pf_nil))) (blkOk_by (own := [("_law_state", 6)]) (N := N__law_greatest) (sc := defScope st__law_greatest) (by decide +kernel)) (fun _ _ _ _ _ => (pg_name (i := 6) sc__law_greatest.nd rfl (by first | exact Or.inl rfl | exact Or.inr rfl))) (fun _ _ _ _ _ => pts_yesM) (fun _ _ _ _ _ => (pe_ifM (pt_truM (pd_e (pe_o2 rfl rfl op_ixM (pe_ix ix_seq (pd_v (pv 4)) (pd_v (pv 6)) (fun _ _ => rfl))))) (pe_c (.str _) pe_str) (pe_o2 rfl rfl op_ixM (pe_ix ix_seq (pd_v (pv 1)) (pd_v (pv 6)) (fun _ _ => rfl))))))) pa_nilM))))))))))
theorem s__law_range (c : Cals P w K mg base lv C) {f : Addr} {cdv : Value} {A : Around} {outer : List PySem.Env} {s : Shared} {H : Hp} (o : Ok (A.deeper (envOfC "_law_range" (defScope st__law_range) s.heap.objs.size f cdv)) lv) :
    PSs (cxOf CX0 P w K mg base N__law_range "_law_range" (defScope st__law_range) f cdv A outer s H E0).nox (defBody st__law_range) (tS K [] (M379 C)) :=
 (pss_consM (ps_setM (i := 1) sc__law_range.nd (by rfl) rfl (by first | exact Or.inl rfl | exact Or.inr rfl) (pe_fn o c.f300 rfl (by rfl) (pg_valM (pe_name (by rfl) (pv 0)) pg_nilM)))
 (pss_consM (ps_setM (i := 2) sc__law_range.nd (by rfl) rfl (by first | exact Or.inl rfl | exact Or.inr rfl) (pe_fn o c.f71 rfl (by rfl) (pg_valM (pe_name (by rfl) (pv 0)) pg_nilM)))
 (pss_consM (ps_setLcM (i := 3) (own := [("_law_root", 5)]) rfl (by rfl) (by rfl) (by rfl) (tgs_name (by rfl) (by show 5 < 6; decide) (by decide)) rfl sc__law_range.nd rfl rfl (sw_true rfl rfl rfl (by decide +kernel)) (pi_anyM (pe_o2 rfl rfl op_ixM (pe_ix ix_seq (pd_v (pv 0)) (pd_e (pe_c (.int _) pe_int)) (fun _ _ => rfl)))) (blkOk_by (own := [("_law_root", 5)]) (N := N__law_range) (sc := defScope st__law_range) (by decide +kernel)) (fun _ _ _ _ _ => (pg_name (i := 5) sc__law_range.nd rfl (by first | exact Or.inl rfl | exact Or.inr rfl))) (fun _ _ _ _ _ => (pts_oneM (pt_o2 op_isNotM (pt_cmpR op_notN (pd_e (pe_o2 rfl rfl op_ixM (pe_ix ix_seq (pd_v (pv 1)) (pd_v (pv 5)) (fun _ _ => rfl)))) (pd_e (pe_c .none pe_non)) (nomark _))))) (fun _ _ _ _ _ => (pe_o2 rfl rfl op_ixM (pe_ix ix_seq (pd_e (pe_o2 rfl rfl op_ixM (pe_ix ix_seq (pd_v (pv 1)) (pd_v (pv 5)) (fun _ _ => rfl)))) (pd_e (pe_c (.int _) pe_int)) (fun _ _ => rfl)))))
 (pss_consM (ps_ifM (pt_notM (pt_truM (pd_v (pv 3))))
 (pss_oneM (ps_retM (pe_c .none pe_non)))
 pss_nilM)
 (pss_consM (ps_setLcM (i := 4) (own := [("_law_root", 5)]) rfl (by rfl) (by rfl) (by rfl) (tgs_name (by rfl) (by show 5 < 6; decide) (by decide)) rfl sc__law_range.nd rfl rfl (sw_true rfl rfl rfl (by decide +kernel)) (pi_anyM (pe_o2 rfl rfl op_ixM (pe_ix ix_seq (pd_v (pv 0)) (pd_e (pe_c (.int _) pe_int)) (fun _ _ => rfl)))) (blkOk_by (own := [("_law_root", 5)]) (N := N__law_range) (sc := defScope st__law_range) (by decide +kernel)) (fun _ _ _ _ _ => (pg_name (i := 5) sc__law_range.nd rfl (by first | exact Or.inl rfl | exact Or.inr rfl))) (fun _ _ _ _ _ => (pts_oneM (pt_o2 op_isNotM (pt_cmpR op_notN (pd_e (pe_o2 rfl rfl op_ixM (pe_ix ix_seq (pd_v (pv 2)) (pd_v (pv 5)) (fun _ _ => rfl)))) (pd_e (pe_c .none pe_non)) (nomark _))))) (fun _ _ _ _ _ => (pe_o2 rfl rfl op_ixM (pe_ix ix_seq (pd_v (pv 2)) (pd_v (pv 5)) (fun _ _ => rfl)))))
 (pss_consM (ps_ifM (pt_o2 op_inM (pt_cmpR (op_inD o.un65) (pd_e (pe_c (.str _) pe_str)) (pd_v (pv 4)) (by rfl)))
 (pss_oneM (ps_retM (pe_tupM (pf_cons (pe_oc rfl oc_minL (pe_callB (cr_min rfl) (by rfl) c.free_min (by decide +kernel) (pa_consM (pd_v (pv 3)) pa_nilM))) (pf_cons (pe_c .none pe_non) pf_nil)))))
 pss_nilM)
 (pss_oneM (ps_retM (pe_tupM (pf_cons (pe_oc rfl oc_minL (pe_callB (cr_min rfl) (by rfl) c.free_min (by decide +kernel) (pa_consM (pd_v (pv 3)) pa_nilM))) (pf_cons (pe_oc rfl oc_maxL (pe_callB (cr_max rfl) (by rfl) c.free_max (by decide +kernel) (pa_consM (pd_v (pv 4)) pa_nilM))) pf_nil)))))))))))
theorem s_law (c : Cals P w K mg base lv C) {f : Addr} {cdv : Value} {A : Around} {outer : List PySem.Env} {s : Shared} {H : Hp} (o : Ok (A.deeper (envOfC "law" (defScope st_law) s.heap.objs.size f cdv)) lv) :
    PSs (cxOf CX0 P w K mg base N_law "law" (defScope st_law) f cdv A outer s H E0).nox (defBody st_law) (tS K [] (M380 C)) :=
 (pss_consM (ps_setM (i := 1) sc_law.nd (by rfl) rfl (by first | exact Or.inl rfl | exact Or.inr rfl) (pe_fn o c.f4 rfl (by rfl) (pg_valM (pe_name (by rfl) (pv 0)) pg_nilM)))
 (pss_consM (ps_setM (i := 2) sc_law.nd (by rfl) rfl (by first | exact Or.inl rfl | exact Or.inr rfl) (pe_fn o c.f5 rfl (by rfl) (pg_refM (pv 1) (pg_valM (pe_c (.int _) pe_int) pg_nilM))))
 (pss_consM (ps_setM (i := 3) sc_law.nd (by rfl) rfl (by first | exact Or.inl rfl | exact Or.inr rfl) (pe_fn o c.f7 rfl (by rfl) (pg_refM (pv 1) (pg_valM (pe_c (.int _) pe_int) (pg_valM (pe_c (.int _) pe_int) (pg_valM (pe_c (.int _) pe_int) pg_nilM))))))
 (pss_consM (ps_setM (i := 4) sc_law.nd (by rfl) rfl (by first | exact Or.inl rfl | exact Or.inr rfl) (pe_fn o c.f7 rfl (by rfl) (pg_refM (pv 1) (pg_valM (pe_c (.int _) pe_int) (pg_valM (pe_c (.int _) pe_int) (pg_valM (pe_c (.int _) pe_int) pg_nilM))))))
 (pss_consM (ps_ifM (pt_o2 op_eqM (pt_cmpR (op_eqX o.rm.units) (pd_v (pv 2)) (pd_e (pe_c (.int _) pe_int)) (nomark _)))
 (pss_oneM (ps_setM (i := 3) sc_law.nd (by rfl) rfl (by first | exact Or.inl rfl | exact Or.inr rfl) (pe_fn o c.f67 rfl (by rfl) (pg_refM (pv 1) (pg_valM (pe_c (.int _) pe_int) pg_nilM)))))
 pss_nilM)
 (pss_consM (ps_setM (i := 5) sc_law.nd (by rfl) rfl (by first | exact Or.inl rfl | exact Or.inr rfl) (pe_fn o c.f379 rfl (by rfl) (pg_valM (pe_name (by rfl) (pv 3)) pg_nilM)))
 (pss_consM (ps_ifM (pt_notM (pt_truM (pd_e (pe_fn o c.f8 rfl (by rfl) (pg_valM (pe_fn o c.f378 rfl (by rfl) (pg_valM (pe_name (by rfl) (pv 3)) pg_nilM)) (pg_valM (pe_name (by rfl) (pv 5)) pg_nilM))))))
 (pss_oneM (ps_retM (pe_c (.bool _) pe_bl)))
 pss_nilM)
 (pss_consM (ps_ifM (pt_notM (pt_truM (pd_e (pe_fn o c.f8 rfl (by rfl) (pg_valM (pe_fn o c.f378 rfl (by rfl) (pg_valM (pe_name (by rfl) (pv 4)) pg_nilM)) (pg_valM (pe_fn o c.f379 rfl (by rfl) (pg_valM (pe_name (by rfl) (pv 4)) pg_nilM)) pg_nilM))))))
 (pss_oneM (ps_retM (pe_c (.bool _) pe_bl)))
 pss_nilM)
 (pss_oneM (ps_retM (pe_fn o c.f8 rfl (by rfl) (pg_valM (pe_fn o c.f378 rfl (by rfl) (pg_valM (pe_name (by rfl) (pv 3)) pg_nilM)) (pg_valM (pe_name (by rfl) (pv 5)) pg_nilM)))))))))))))
structure Hd (K : KK) (mg : Str → Option Value) : Prop where
  free_abs : mg "abs" = none
  free_int : mg "int" = none
  free_len : mg "len" = none
  free_list : mg "list" = none
  free_max : mg "max" = none
  free_min : mg "min" = none
  free_range : mg "range" = none
  free_repr : mg "repr" = none
  free_sum : mg "sum" = none
  free_tuple : mg "tuple" = none
  free_zip : mg "zip" = none
  con_UNBOUNDED : ∃ t, mg "UNBOUNDED" = some (.str "unbounded" t)
  d14 : ∃ (f : Addr) (fd : FuncData), mg "weight_of" = some (.ref f) ∧ FunD K "weight_of" "weight_of" (defArgs st_weight_of) (defBody st_weight_of) (defScope st_weight_of) [] [] f fd
  d15 : ∃ (f : Addr) (fd : FuncData), mg "least_round" = some (.ref f) ∧ FunD K "least_round" "least_round" (defArgs st_least_round) (defBody st_least_round) (defScope st_least_round) [] [] f fd
  d94 : ∃ (f : Addr) (fd : FuncData), mg "least_weights" = some (.ref f) ∧ FunD K "least_weights" "least_weights" (defArgs st_least_weights) (defBody st_least_weights) (defScope st_least_weights) [] [] f fd
  d0 : ∃ (f : Addr) (fd : FuncData), mg "cost_with" = some (.ref f) ∧ FunD K "cost_with" "cost_with" (defArgs st_cost_with) (defBody st_cost_with) (defScope st_cost_with) [] [] f fd
  d1 : ∃ (f : Addr) (fd : FuncData), mg "cost_by" = some (.ref f) ∧ FunD K "cost_by" "cost_by" (defArgs st_cost_by) (defBody st_cost_by) (defScope st_cost_by) [] [] f fd
  d2 : ∃ (f : Addr) (fd : FuncData), mg "is_greater" = some (.ref f) ∧ FunD K "is_greater" "is_greater" (defArgs st_is_greater) (defBody st_is_greater) (defScope st_is_greater) [] [] f fd
  d3 : ∃ (f : Addr) (fd : FuncData), mg "greatest_round" = some (.ref f) ∧ FunD K "greatest_round" "greatest_round" (defArgs st_greatest_round) (defBody st_greatest_round) (defScope st_greatest_round) [] [] f fd
  d64 : ∃ (f : Addr) (fd : FuncData), mg "joined" = some (.ref f) ∧ FunD K "joined" "joined" (defArgs st_joined) (defBody st_joined) (defScope st_joined) [] [] f fd
  d65 : ∃ (f : Addr) (fd : FuncData), mg "with_unbounded" = some (.ref f) ∧ FunD K "with_unbounded" "with_unbounded" (defArgs st_with_unbounded) (defBody st_with_unbounded) (defScope st_with_unbounded) [] [] f fd
  d66 : ∃ (f : Addr) (fd : FuncData), mg "greatest_prices" = some (.ref f) ∧ FunD K "greatest_prices" "greatest_prices" (defArgs st_greatest_prices) (defBody st_greatest_prices) (defScope st_greatest_prices) [] [] f fd
  d378 : ∃ (f : Addr) (fd : FuncData), mg "price_range" = some (.ref f) ∧ FunD K "price_range" "price_range" (defArgs st_price_range) (defBody st_price_range) (defScope st_price_range) [] [] f fd
  d4 : ∃ (f : Addr) (fd : FuncData), mg "_law_tape" = some (.ref f) ∧ FunD K "_law_tape" "_law_tape" (defArgs st__law_tape) (defBody st__law_tape) (defScope st__law_tape) [] [] f fd
  d5 : ∃ (f : Addr) (fd : FuncData), mg "_law_draw" = some (.ref f) ∧ FunD K "_law_draw" "_law_draw" (defArgs st__law_draw) (defBody st__law_draw) (defScope st__law_draw) [] [] f fd
  d6 : ∃ (f : Addr) (fd : FuncData), mg "_law_price" = some (.ref f) ∧ FunD K "_law_price" "_law_price" (defArgs st__law_price) (defBody st__law_price) (defScope st__law_price) [] [] f fd
  d7 : ∃ (f : Addr) (fd : FuncData), mg "_law_family" = some (.ref f) ∧ FunD K "_law_family" "_law_family" (defArgs st__law_family) (defBody st__law_family) (defScope st__law_family) [] [] f fd
  d299 : ∃ (f : Addr) (fd : FuncData), mg "_law_weight" = some (.ref f) ∧ FunD K "_law_weight" "_law_weight" (defArgs st__law_weight) (defBody st__law_weight) (defScope st__law_weight) [] [] f fd
  d300 : ∃ (f : Addr) (fd : FuncData), mg "_law_weights" = some (.ref f) ∧ FunD K "_law_weights" "_law_weights" (defArgs st__law_weights) (defBody st__law_weights) (defScope st__law_weights) [] [] f fd
  d8 : ∃ (f : Addr) (fd : FuncData), mg "_law_same" = some (.ref f) ∧ FunD K "_law_same" "_law_same" (defArgs st__law_same) (defBody st__law_same) (defScope st__law_same) [] [] f fd
  d67 : ∃ (f : Addr) (fd : FuncData), mg "_law_large" = some (.ref f) ∧ FunD K "_law_large" "_law_large" (defArgs st__law_large) (defBody st__law_large) (defScope st__law_large) [] [] f fd
  d69 : ∃ (f : Addr) (fd : FuncData), mg "_law_dear" = some (.ref f) ∧ FunD K "_law_dear" "_law_dear" (defArgs st__law_dear) (defBody st__law_dear) (defScope st__law_dear) [] [] f fd
  d10 : ∃ (f : Addr) (fd : FuncData), mg "_law_above" = some (.ref f) ∧ FunD K "_law_above" "_law_above" (defArgs st__law_above) (defBody st__law_above) (defScope st__law_above) [] [] f fd
  d70 : ∃ (f : Addr) (fd : FuncData), mg "_law_dears" = some (.ref f) ∧ FunD K "_law_dears" "_law_dears" (defArgs st__law_dears) (defBody st__law_dears) (defScope st__law_dears) [] [] f fd
  d71 : ∃ (f : Addr) (fd : FuncData), mg "_law_greatest" = some (.ref f) ∧ FunD K "_law_greatest" "_law_greatest" (defArgs st__law_greatest) (defBody st__law_greatest) (defScope st__law_greatest) [] [] f fd
  d379 : ∃ (f : Addr) (fd : FuncData), mg "_law_range" = some (.ref f) ∧ FunD K "_law_range" "_law_range" (defArgs st__law_range) (defBody st__law_range) (defScope st__law_range) [] [] f fd
  d380 : ∃ (f : Addr) (fd : FuncData), mg "law" = some (.ref f) ∧ FunD K "law" "law" (defArgs st_law) (defBody st_law) (defScope st_law) [] [] f fd
theorem z_weight_of (h : Hd K mg) : Cal P w K mg base 0 (callN 0) "weight_of" 14 2 := by
  obtain ⟨f, fd, hm, F⟩ := h.d14
  exact .zero (fun _ => rfl) hm F.kp (F.bindsN (ps := ps_weight_of) fun _ _ _ _ _ _ us hl => match us, hl with | [_, _], _ => rfl) rfl
theorem u_weight_of (h : Hd K mg) (c : Cals P w K mg base lv (callN lv)) : Cal P w K mg base (lv + 1) (callN (lv + 1)) "weight_of" 14 2 := by
  obtain ⟨f, fd, hm, F⟩ := h.d14
  exact .succ hm F (F.bindsN (ps := ps_weight_of) fun _ _ _ _ _ _ us hl => match us, hl with | [_, _], _ => rfl) sc_weight_of rfl rfl rfl fun Pl hP cdv A outer s H o => one_P hP ▸ s_weight_of c o
theorem z_least_round (h : Hd K mg) : Cal P w K mg base 0 (callN 0) "least_round" 15 2 := by
  obtain ⟨f, fd, hm, F⟩ := h.d15
  exact .zero (fun _ => rfl) hm F.kp (F.bindsN (ps := ps_least_round) fun _ _ _ _ _ _ us hl => match us, hl with | [_, _], _ => rfl) rfl
theorem u_least_round (h : Hd K mg) (c : Cals P w K mg base lv (callN lv)) : Cal P w K mg base (lv + 1) (callN (lv + 1)) "least_round" 15 2 := by
  obtain ⟨f, fd, hm, F⟩ := h.d15
  exact .succ hm F (F.bindsN (ps := ps_least_round) fun _ _ _ _ _ _ us hl => match us, hl with | [_, _], _ => rfl) sc_least_round rfl rfl rfl fun Pl hP cdv A outer s H o => one_P hP ▸ s_least_round c o
theorem z_least_weights (h : Hd K mg) : Cal P w K mg base 0 (callN 0) "least_weights" 94 1 := by
  obtain ⟨f, fd, hm, F⟩ := h.d94
  exact .zero (fun _ => rfl) hm F.kp (F.bindsN (ps := ps_least_weights) fun _ _ _ _ _ _ us hl => match us, hl with | [_], _ => rfl) rfl
theorem u_least_weights (h : Hd K mg) (c : Cals P w K mg base lv (callN lv)) : Cal P w K mg base (lv + 1) (callN (lv + 1)) "least_weights" 94 1 := by
  obtain ⟨f, fd, hm, F⟩ := h.d94
  exact .succ hm F (F.bindsN (ps := ps_least_weights) fun _ _ _ _ _ _ us hl => match us, hl with | [_], _ => rfl) sc_least_weights rfl rfl rfl fun Pl hP cdv A outer s H o => one_P hP ▸ s_least_weights c o
theorem z_cost_with (h : Hd K mg) : Cal P w K mg base 0 (callN 0) "cost_with" 0 2 := by
  obtain ⟨f, fd, hm, F⟩ := h.d0
  exact .zero (fun _ => rfl) hm F.kp (F.bindsN (ps := ps_cost_with) fun _ _ _ _ _ _ us hl => match us, hl with | [_, _], _ => rfl) rfl
theorem u_cost_with (h : Hd K mg) (c : Cals P w K mg base lv (callN lv)) : Cal P w K mg base (lv + 1) (callN (lv + 1)) "cost_with" 0 2 := by
  obtain ⟨f, fd, hm, F⟩ := h.d0
  exact .succ hm F (F.bindsN (ps := ps_cost_with) fun _ _ _ _ _ _ us hl => match us, hl with | [_, _], _ => rfl) sc_cost_with rfl rfl rfl fun Pl hP cdv A outer s H o => one_P hP ▸ s_cost_with c o
theorem z_cost_by (h : Hd K mg) : Cal P w K mg base 0 (callN 0) "cost_by" 1 2 := by
  obtain ⟨f, fd, hm, F⟩ := h.d1
  exact .zero (fun _ => rfl) hm F.kp (F.bindsN (ps := ps_cost_by) fun _ _ _ _ _ _ us hl => match us, hl with | [_, _], _ => rfl) rfl
theorem u_cost_by (h : Hd K mg) (c : Cals P w K mg base lv (callN lv)) : Cal P w K mg base (lv + 1) (callN (lv + 1)) "cost_by" 1 2 := by
  obtain ⟨f, fd, hm, F⟩ := h.d1
  exact .succ hm F (F.bindsN (ps := ps_cost_by) fun _ _ _ _ _ _ us hl => match us, hl with | [_, _], _ => rfl) sc_cost_by rfl rfl rfl fun Pl hP cdv A outer s H o => one_P hP ▸ s_cost_by c o
theorem z_is_greater (h : Hd K mg) : Cal P w K mg base 0 (callN 0) "is_greater" 2 2 := by
  obtain ⟨f, fd, hm, F⟩ := h.d2
  exact .zero (fun _ => rfl) hm F.kp (F.bindsN (ps := ps_is_greater) fun _ _ _ _ _ _ us hl => match us, hl with | [_, _], _ => rfl) rfl
theorem u_is_greater (h : Hd K mg) (c : Cals P w K mg base lv (callN lv)) : Cal P w K mg base (lv + 1) (callN (lv + 1)) "is_greater" 2 2 := by
  obtain ⟨f, fd, hm, F⟩ := h.d2
  exact .succ hm F (F.bindsN (ps := ps_is_greater) fun _ _ _ _ _ _ us hl => match us, hl with | [_, _], _ => rfl) sc_is_greater rfl rfl rfl fun Pl hP cdv A outer s H o => one_P hP ▸ s_is_greater c o
theorem z_greatest_round (h : Hd K mg) : Cal P w K mg base 0 (callN 0) "greatest_round" 3 2 := by
  obtain ⟨f, fd, hm, F⟩ := h.d3
  exact .zero (fun _ => rfl) hm F.kp (F.bindsN (ps := ps_greatest_round) fun _ _ _ _ _ _ us hl => match us, hl with | [_, _], _ => rfl) rfl
theorem u_greatest_round (h : Hd K mg) (c : Cals P w K mg base lv (callN lv)) : Cal P w K mg base (lv + 1) (callN (lv + 1)) "greatest_round" 3 2 := by
  obtain ⟨f, fd, hm, F⟩ := h.d3
  exact .succ hm F (F.bindsN (ps := ps_greatest_round) fun _ _ _ _ _ _ us hl => match us, hl with | [_, _], _ => rfl) sc_greatest_round rfl rfl rfl fun Pl hP cdv A outer s H o => one_P hP ▸ s_greatest_round c o
theorem z_joined (h : Hd K mg) : Cal P w K mg base 0 (callN 0) "joined" 64 2 := by
  obtain ⟨f, fd, hm, F⟩ := h.d64
  exact .zero (fun _ => rfl) hm F.kp (F.bindsN (ps := ps_joined) fun _ _ _ _ _ _ us hl => match us, hl with | [_, _], _ => rfl) rfl
theorem u_joined (h : Hd K mg) (c : Cals P w K mg base lv (callN lv)) : Cal P w K mg base (lv + 1) (callN (lv + 1)) "joined" 64 2 := by
  obtain ⟨f, fd, hm, F⟩ := h.d64
  exact .succ hm F (F.bindsN (ps := ps_joined) fun _ _ _ _ _ _ us hl => match us, hl with | [_, _], _ => rfl) sc_joined rfl rfl rfl fun Pl hP cdv A outer s H o => one_P hP ▸ s_joined c o
theorem z_with_unbounded (h : Hd K mg) : Cal P w K mg base 0 (callN 0) "with_unbounded" 65 2 := by
  obtain ⟨f, fd, hm, F⟩ := h.d65
  exact .zero (fun _ => rfl) hm F.kp (F.bindsN (ps := ps_with_unbounded) fun _ _ _ _ _ _ us hl => match us, hl with | [_, _], _ => rfl) rfl
theorem u_with_unbounded (h : Hd K mg) (c : Cals P w K mg base lv (callN lv)) : Cal P w K mg base (lv + 1) (callN (lv + 1)) "with_unbounded" 65 2 := by
  obtain ⟨f, fd, hm, F⟩ := h.d65
  exact .succ hm F (F.bindsN (ps := ps_with_unbounded) fun _ _ _ _ _ _ us hl => match us, hl with | [_, _], _ => rfl) sc_with_unbounded rfl rfl rfl fun Pl hP cdv A outer s H o => one_P hP ▸ s_with_unbounded c o
theorem z_greatest_prices (h : Hd K mg) : Cal P w K mg base 0 (callN 0) "greatest_prices" 66 1 := by
  obtain ⟨f, fd, hm, F⟩ := h.d66
  exact .zero (fun _ => rfl) hm F.kp (F.bindsN (ps := ps_greatest_prices) fun _ _ _ _ _ _ us hl => match us, hl with | [_], _ => rfl) rfl
theorem u_greatest_prices (h : Hd K mg) (c : Cals P w K mg base lv (callN lv)) : Cal P w K mg base (lv + 1) (callN (lv + 1)) "greatest_prices" 66 1 := by
  obtain ⟨f, fd, hm, F⟩ := h.d66
  exact .succ hm F (F.bindsN (ps := ps_greatest_prices) fun _ _ _ _ _ _ us hl => match us, hl with | [_], _ => rfl) sc_greatest_prices rfl rfl rfl fun Pl hP cdv A outer s H o => one_P hP ▸ s_greatest_prices c o
theorem z_price_range (h : Hd K mg) : Cal P w K mg base 0 (callN 0) "price_range" 378 1 := by
  obtain ⟨f, fd, hm, F⟩ := h.d378
  exact .zero (fun _ => rfl) hm F.kp (F.bindsN (ps := ps_price_range) fun _ _ _ _ _ _ us hl => match us, hl with | [_], _ => rfl) rfl
theorem u_price_range (h : Hd K mg) (c : Cals P w K mg base lv (callN lv)) : Cal P w K mg base (lv + 1) (callN (lv + 1)) "price_range" 378 1 := by
  obtain ⟨f, fd, hm, F⟩ := h.d378
  exact .succ hm F (F.bindsN (ps := ps_price_range) fun _ _ _ _ _ _ us hl => match us, hl with | [_], _ => rfl) sc_price_range rfl rfl rfl fun Pl hP cdv A outer s H o => one_P hP ▸ s_price_range c o
theorem z__law_tape (h : Hd K mg) : Cal P w K mg base 0 (callN 0) "_law_tape" 4 1 := by
  obtain ⟨f, fd, hm, F⟩ := h.d4
  exact .zero (fun _ => rfl) hm F.kp (F.bindsN (ps := ps__law_tape) fun _ _ _ _ _ _ us hl => match us, hl with | [_], _ => rfl) rfl
theorem u__law_tape (h : Hd K mg) (c : Cals P w K mg base lv (callN lv)) : Cal P w K mg base (lv + 1) (callN (lv + 1)) "_law_tape" 4 1 := by
  obtain ⟨f, fd, hm, F⟩ := h.d4
  exact .succ hm F (F.bindsN (ps := ps__law_tape) fun _ _ _ _ _ _ us hl => match us, hl with | [_], _ => rfl) sc__law_tape rfl rfl rfl fun Pl hP cdv A outer s H o => one_P hP ▸ s__law_tape c o
theorem z__law_draw (h : Hd K mg) : Cal P w K mg base 0 (callN 0) "_law_draw" 5 2 := by
  obtain ⟨f, fd, hm, F⟩ := h.d5
  exact .zero (fun _ => rfl) hm F.kp (F.bindsN (ps := ps__law_draw) fun _ _ _ _ _ _ us hl => match us, hl with | [_, _], _ => rfl) rfl
theorem u__law_draw (h : Hd K mg) (c : Cals P w K mg base lv (callN lv)) : Cal P w K mg base (lv + 1) (callN (lv + 1)) "_law_draw" 5 2 := by
  obtain ⟨f, fd, hm, F⟩ := h.d5
  exact .succ hm F (F.bindsN (ps := ps__law_draw) fun _ _ _ _ _ _ us hl => match us, hl with | [_, _], _ => rfl) sc__law_draw rfl rfl rfl fun Pl hP cdv A outer s H o => one_P hP ▸ s__law_draw c o
theorem z__law_price (h : Hd K mg) : Cal P w K mg base 0 (callN 0) "_law_price" 6 3 := by
  obtain ⟨f, fd, hm, F⟩ := h.d6
  exact .zero (fun _ => rfl) hm F.kp (F.bindsN (ps := ps__law_price) fun _ _ _ _ _ _ us hl => match us, hl with | [_, _, _], _ => rfl) rfl
theorem u__law_price (h : Hd K mg) (c : Cals P w K mg base lv (callN lv)) : Cal P w K mg base (lv + 1) (callN (lv + 1)) "_law_price" 6 3 := by
  obtain ⟨f, fd, hm, F⟩ := h.d6
  exact .succ hm F (F.bindsN (ps := ps__law_price) fun _ _ _ _ _ _ us hl => match us, hl with | [_, _, _], _ => rfl) sc__law_price rfl rfl rfl fun Pl hP cdv A outer s H o => one_P hP ▸ s__law_price c o
theorem z__law_family (h : Hd K mg) : Cal P w K mg base 0 (callN 0) "_law_family" 7 4 := by
  obtain ⟨f, fd, hm, F⟩ := h.d7
  exact .zero (fun _ => rfl) hm F.kp (F.bindsN (ps := ps__law_family) fun _ _ _ _ _ _ us hl => match us, hl with | [_, _, _, _], _ => rfl) rfl
theorem u__law_family (h : Hd K mg) (c : Cals P w K mg base lv (callN lv)) : Cal P w K mg base (lv + 1) (callN (lv + 1)) "_law_family" 7 4 := by
  obtain ⟨f, fd, hm, F⟩ := h.d7
  exact .succ hm F (F.bindsN (ps := ps__law_family) fun _ _ _ _ _ _ us hl => match us, hl with | [_, _, _, _], _ => rfl) sc__law_family rfl rfl rfl fun Pl hP cdv A outer s H o => one_P hP ▸ s__law_family c o
theorem z__law_weight (h : Hd K mg) : Cal P w K mg base 0 (callN 0) "_law_weight" 299 2 := by
  obtain ⟨f, fd, hm, F⟩ := h.d299
  exact .zero (fun _ => rfl) hm F.kp (F.bindsN (ps := ps__law_weight) fun _ _ _ _ _ _ us hl => match us, hl with | [_, _], _ => rfl) rfl
theorem u__law_weight (h : Hd K mg) (c : Cals P w K mg base lv (callN lv)) : Cal P w K mg base (lv + 1) (callN (lv + 1)) "_law_weight" 299 2 := by
  obtain ⟨f, fd, hm, F⟩ := h.d299
  refine .succ hm F (F.bindsN (ps := ps__law_weight) fun _ _ _ _ _ _ us hl => match us, hl with | [_, _], _ => rfl) sc__law_weight rfl rfl rfl fun Pl hP cdv A outer s H o => ?_
  rcases mem_P2 hP with rfl | rfl
  · exact s__law_weight_0 c o
  · exact s__law_weight_1 c o
theorem z__law_weights (h : Hd K mg) : Cal P w K mg base 0 (callN 0) "_law_weights" 300 1 := by
  obtain ⟨f, fd, hm, F⟩ := h.d300
  exact .zero (fun _ => rfl) hm F.kp (F.bindsN (ps := ps__law_weights) fun _ _ _ _ _ _ us hl => match us, hl with | [_], _ => rfl) rfl
theorem u__law_weights (h : Hd K mg) (c : Cals P w K mg base lv (callN lv)) : Cal P w K mg base (lv + 1) (callN (lv + 1)) "_law_weights" 300 1 := by
  obtain ⟨f, fd, hm, F⟩ := h.d300
  exact .succ hm F (F.bindsN (ps := ps__law_weights) fun _ _ _ _ _ _ us hl => match us, hl with | [_], _ => rfl) sc__law_weights rfl rfl rfl fun Pl hP cdv A outer s H o => one_P hP ▸ s__law_weights c o
theorem z__law_same (h : Hd K mg) : Cal P w K mg base 0 (callN 0) "_law_same" 8 2 := by
  obtain ⟨f, fd, hm, F⟩ := h.d8
  exact .zero (fun _ => rfl) hm F.kp (F.bindsN (ps := ps__law_same) fun _ _ _ _ _ _ us hl => match us, hl with | [_, _], _ => rfl) rfl
theorem u__law_same (h : Hd K mg) (c : Cals P w K mg base lv (callN lv)) : Cal P w K mg base (lv + 1) (callN (lv + 1)) "_law_same" 8 2 := by
  obtain ⟨f, fd, hm, F⟩ := h.d8
  exact .succ hm F (F.bindsN (ps := ps__law_same) fun _ _ _ _ _ _ us hl => match us, hl with | [_, _], _ => rfl) sc__law_same rfl rfl rfl fun Pl hP cdv A outer s H o => one_P hP ▸ s__law_same c o
theorem z__law_large (h : Hd K mg) : Cal P w K mg base 0 (callN 0) "_law_large" 67 2 := by
  obtain ⟨f, fd, hm, F⟩ := h.d67
  exact .zero (fun _ => rfl) hm F.kp (F.bindsN (ps := ps__law_large) fun _ _ _ _ _ _ us hl => match us, hl with | [_, _], _ => rfl) rfl
theorem u__law_large (h : Hd K mg) (c : Cals P w K mg base lv (callN lv)) : Cal P w K mg base (lv + 1) (callN (lv + 1)) "_law_large" 67 2 := by
  obtain ⟨f, fd, hm, F⟩ := h.d67
  exact .succ hm F (F.bindsN (ps := ps__law_large) fun _ _ _ _ _ _ us hl => match us, hl with | [_, _], _ => rfl) sc__law_large rfl rfl rfl fun Pl hP cdv A outer s H o => one_P hP ▸ s__law_large c o
theorem z__law_dear (h : Hd K mg) : Cal P w K mg base 0 (callN 0) "_law_dear" 69 2 := by
  obtain ⟨f, fd, hm, F⟩ := h.d69
  exact .zero (fun _ => rfl) hm F.kp (F.bindsN (ps := ps__law_dear) fun _ _ _ _ _ _ us hl => match us, hl with | [_, _], _ => rfl) rfl
theorem u__law_dear (h : Hd K mg) (c : Cals P w K mg base lv (callN lv)) : Cal P w K mg base (lv + 1) (callN (lv + 1)) "_law_dear" 69 2 := by
  obtain ⟨f, fd, hm, F⟩ := h.d69
  exact .succ hm F (F.bindsN (ps := ps__law_dear) fun _ _ _ _ _ _ us hl => match us, hl with | [_, _], _ => rfl) sc__law_dear rfl rfl rfl fun Pl hP cdv A outer s H o => one_P hP ▸ s__law_dear c o
theorem z__law_above (h : Hd K mg) : Cal P w K mg base 0 (callN 0) "_law_above" 10 2 := by
  obtain ⟨f, fd, hm, F⟩ := h.d10
  exact .zero (fun _ => rfl) hm F.kp (F.bindsN (ps := ps__law_above) fun _ _ _ _ _ _ us hl => match us, hl with | [_, _], _ => rfl) rfl
theorem u__law_above (h : Hd K mg) (c : Cals P w K mg base lv (callN lv)) : Cal P w K mg base (lv + 1) (callN (lv + 1)) "_law_above" 10 2 := by
  obtain ⟨f, fd, hm, F⟩ := h.d10
  exact .succ hm F (F.bindsN (ps := ps__law_above) fun _ _ _ _ _ _ us hl => match us, hl with | [_, _], _ => rfl) sc__law_above rfl rfl rfl fun Pl hP cdv A outer s H o => one_P hP ▸ s__law_above c o
theorem z__law_dears (h : Hd K mg) : Cal P w K mg base 0 (callN 0) "_law_dears" 70 2 := by
  obtain ⟨f, fd, hm, F⟩ := h.d70
  exact .zero (fun _ => rfl) hm F.kp (F.bindsN (ps := ps__law_dears) fun _ _ _ _ _ _ us hl => match us, hl with | [_, _], _ => rfl) rfl
theorem u__law_dears (h : Hd K mg) (c : Cals P w K mg base lv (callN lv)) : Cal P w K mg base (lv + 1) (callN (lv + 1)) "_law_dears" 70 2 := by
  obtain ⟨f, fd, hm, F⟩ := h.d70
  exact .succ hm F (F.bindsN (ps := ps__law_dears) fun _ _ _ _ _ _ us hl => match us, hl with | [_, _], _ => rfl) sc__law_dears rfl rfl rfl fun Pl hP cdv A outer s H o => one_P hP ▸ s__law_dears c o
theorem z__law_greatest (h : Hd K mg) : Cal P w K mg base 0 (callN 0) "_law_greatest" 71 1 := by
  obtain ⟨f, fd, hm, F⟩ := h.d71
  exact .zero (fun _ => rfl) hm F.kp (F.bindsN (ps := ps__law_greatest) fun _ _ _ _ _ _ us hl => match us, hl with | [_], _ => rfl) rfl
theorem u__law_greatest (h : Hd K mg) (c : Cals P w K mg base lv (callN lv)) : Cal P w K mg base (lv + 1) (callN (lv + 1)) "_law_greatest" 71 1 := by
  obtain ⟨f, fd, hm, F⟩ := h.d71
  exact .succ hm F (F.bindsN (ps := ps__law_greatest) fun _ _ _ _ _ _ us hl => match us, hl with | [_], _ => rfl) sc__law_greatest rfl rfl rfl fun Pl hP cdv A outer s H o => one_P hP ▸ s__law_greatest c o
theorem z__law_range (h : Hd K mg) : Cal P w K mg base 0 (callN 0) "_law_range" 379 1 := by
  obtain ⟨f, fd, hm, F⟩ := h.d379
  exact .zero (fun _ => rfl) hm F.kp (F.bindsN (ps := ps__law_range) fun _ _ _ _ _ _ us hl => match us, hl with | [_], _ => rfl) rfl
theorem u__law_range (h : Hd K mg) (c : Cals P w K mg base lv (callN lv)) : Cal P w K mg base (lv + 1) (callN (lv + 1)) "_law_range" 379 1 := by
  obtain ⟨f, fd, hm, F⟩ := h.d379
  exact .succ hm F (F.bindsN (ps := ps__law_range) fun _ _ _ _ _ _ us hl => match us, hl with | [_], _ => rfl) sc__law_range rfl rfl rfl fun Pl hP cdv A outer s H o => one_P hP ▸ s__law_range c o
theorem z_law (h : Hd K mg) : Cal P w K mg base 0 (callN 0) "law" 380 1 := by
  obtain ⟨f, fd, hm, F⟩ := h.d380
  exact .zero (fun _ => rfl) hm F.kp (F.bindsN (ps := ps_law) fun _ _ _ _ _ _ us hl => match us, hl with | [_], _ => rfl) rfl
theorem u_law (h : Hd K mg) (c : Cals P w K mg base lv (callN lv)) : Cal P w K mg base (lv + 1) (callN (lv + 1)) "law" 380 1 := by
  obtain ⟨f, fd, hm, F⟩ := h.d380
  exact .succ hm F (F.bindsN (ps := ps_law) fun _ _ _ _ _ _ us hl => match us, hl with | [_], _ => rfl) sc_law rfl rfl rfl fun Pl hP cdv A outer s H o => one_P hP ▸ s_law c o
theorem cals (h : Hd K mg) : ∀ lv, Cals P w K mg base lv (callN lv)
  | 0 => ⟨h.free_abs, h.free_int, h.free_len, h.free_list, h.free_max, h.free_min, h.free_range, h.free_repr, h.free_sum, h.free_tuple, h.free_zip, h.con_UNBOUNDED, z_weight_of h, z_least_round h, z_least_weights h, z_cost_with h, z_cost_by h, z_is_greater h, z_greatest_round h, z_joined h, z_with_unbounded h, z_greatest_prices h, z_price_range h, z__law_tape h, z__law_draw h, z__law_price h, z__law_family h, z__law_weight h, z__law_weights h, z__law_same h, z__law_large h, z__law_dear h, z__law_above h, z__law_dears h, z__law_greatest h, z__law_range h, z_law h⟩
  | lv + 1 => ⟨h.free_abs, h.free_int, h.free_len, h.free_list, h.free_max, h.free_min, h.free_range, h.free_repr, h.free_sum, h.free_tuple, h.free_zip, h.con_UNBOUNDED, u_weight_of h (cals h lv), u_least_round h (cals h lv), u_least_weights h (cals h lv), u_cost_with h (cals h lv), u_cost_by h (cals h lv), u_is_greater h (cals h lv), u_greatest_round h (cals h lv), u_joined h (cals h lv), u_with_unbounded h (cals h lv), u_greatest_prices h (cals h lv), u_price_range h (cals h lv), u__law_tape h (cals h lv), u__law_draw h (cals h lv), u__law_price h (cals h lv), u__law_family h (cals h lv), u__law_weight h (cals h lv), u__law_weights h (cals h lv), u__law_same h (cals h lv), u__law_large h (cals h lv), u__law_dear h (cals h lv), u__law_above h (cals h lv), u__law_dears h (cals h lv), u__law_greatest h (cals h lv), u__law_range h (cals h lv), u_law h (cals h lv)⟩
end
/-! ### the head -/
def fn : List He.DefD := [⟨("weight_of", none), "weight_of", "weight_of", defArgs st_weight_of, defBody st_weight_of, defScope st_weight_of, [], []⟩,
 ⟨("least_round", none), "least_round", "least_round", defArgs st_least_round, defBody st_least_round, defScope st_least_round, [], []⟩,
 ⟨("least_weights", none), "least_weights", "least_weights", defArgs st_least_weights, defBody st_least_weights, defScope st_least_weights, [], []⟩,
 ⟨("cost_with", none), "cost_with", "cost_with", defArgs st_cost_with, defBody st_cost_with, defScope st_cost_with, [], []⟩,
 ⟨("cost_by", none), "cost_by", "cost_by", defArgs st_cost_by, defBody st_cost_by, defScope st_cost_by, [], []⟩,
 ⟨("is_greater", none), "is_greater", "is_greater", defArgs st_is_greater, defBody st_is_greater, defScope st_is_greater, [], []⟩,
 ⟨("greatest_round", none), "greatest_round", "greatest_round", defArgs st_greatest_round, defBody st_greatest_round, defScope st_greatest_round, [], []⟩,
 ⟨("joined", none), "joined", "joined", defArgs st_joined, defBody st_joined, defScope st_joined, [], []⟩,
 ⟨("with_unbounded", none), "with_unbounded", "with_unbounded", defArgs st_with_unbounded, defBody st_with_unbounded, defScope st_with_unbounded, [], []⟩,
 ⟨("greatest_prices", none), "greatest_prices", "greatest_prices", defArgs st_greatest_prices, defBody st_greatest_prices, defScope st_greatest_prices, [], []⟩,
 ⟨("price_range", none), "price_range", "price_range", defArgs st_price_range, defBody st_price_range, defScope st_price_range, [], []⟩,
 ⟨("_law_tape", none), "_law_tape", "_law_tape", defArgs st__law_tape, defBody st__law_tape, defScope st__law_tape, [], []⟩,
 ⟨("_law_draw", none), "_law_draw", "_law_draw", defArgs st__law_draw, defBody st__law_draw, defScope st__law_draw, [], []⟩,
 ⟨("_law_price", none), "_law_price", "_law_price", defArgs st__law_price, defBody st__law_price, defScope st__law_price, [], []⟩,
 ⟨("_law_family", none), "_law_family", "_law_family", defArgs st__law_family, defBody st__law_family, defScope st__law_family, [], []⟩,
 ⟨("_law_weight", none), "_law_weight", "_law_weight", defArgs st__law_weight, defBody st__law_weight, defScope st__law_weight, [], []⟩,
 ⟨("_law_weights", none), "_law_weights", "_law_weights", defArgs st__law_weights, defBody st__law_weights, defScope st__law_weights, [], []⟩,
 ⟨("_law_same", none), "_law_same", "_law_same", defArgs st__law_same, defBody st__law_same, defScope st__law_same, [], []⟩,
 ⟨("_law_large", none), "_law_large", "_law_large", defArgs st__law_large, defBody st__law_large, defScope st__law_large, [], []⟩,
 ⟨("_law_dear", none), "_law_dear", "_law_dear", defArgs st__law_dear, defBody st__law_dear, defScope st__law_dear, [], []⟩,
 ⟨("_law_above", none), "_law_above", "_law_above", defArgs st__law_above, defBody st__law_above, defScope st__law_above, [], []⟩,
 ⟨("_law_dears", none), "_law_dears", "_law_dears", defArgs st__law_dears, defBody st__law_dears, defScope st__law_dears, [], []⟩,
 ⟨("_law_greatest", none), "_law_greatest", "_law_greatest", defArgs st__law_greatest, defBody st__law_greatest, defScope st__law_greatest, [], []⟩,
 ⟨("_law_range", none), "_law_range", "_law_range", defArgs st__law_range, defBody st__law_range, defScope st__law_range, [], []⟩,
 ⟨("law", none), "law", "law", defArgs st_law, defBody st_law, defScope st_law, [], []⟩]
def fa : List He.Fa := [.glo "weight_of", .glo "least_round", .glo "least_weights", .glo "cost_with", .glo "cost_by", .glo "is_greater", .glo "greatest_round", .glo "joined", .glo "with_unbounded", .glo "greatest_prices", .glo "price_range", .glo "_law_tape", .glo "_law_draw", .glo "_law_price", .glo "_law_family", .glo "_law_weight", .glo "_law_weights", .glo "_law_same", .glo "_law_large", .glo "_law_dear", .glo "_law_above", .glo "_law_dears", .glo "_law_greatest", .glo "_law_range", .glo "law", .free "abs", .free "int", .free "len", .free "list", .free "max", .free "min", .free "range", .free "repr", .free "sum", .free "tuple", .free "zip", .str "UNBOUNDED" "unbounded"]
abbrev R : PySem.W.OpenRow := PySem.W.OpenLaw.row PySem.Challenge.rw_slotwise_k53_price_range
abbrev hk : PySem.W.Hook := He.hookD 4 fa fn
def ob (s : PySem.W.SharedT) : He.AlD := He.obsDG 4 fa fn (HandSHeadRun.getT s)
theorem ob_eq (s : PySem.W.SharedT) : ob s = hk.obs s.abs := He.obsDG_eq (HandSHeadRun.getT_eq s)
def names0 : List PySem.Str := ["weight_of", "least_round", "least_weights", "UNBOUNDED", "cost_with", "cost_by", "is_greater", "greatest_round", "joined", "with_unbounded", "greatest_prices", "price_range", "_law_tape", "_law_draw", "_law_price", "_law_family", "_law_weight", "_law_weights", "_law_same", "_law_large", "_law_dear", "_law_above", "_law_dears", "_law_greatest", "_law_range"]
abbrev names : List PySem.Str := names0
theorem run (w : World) : HandSHeadRun.RunEq R (PySem.W.view R.prog [28]) hk ob 2000 names w := by
  intro os
  kernel_rfl
theorem hd_of {K : KK} {h : Heap} {mg : Str → Option Value} (X : K.In h) (G : h.Ns mainGlobals mg) (c : He.SaysD fa fn K) : Hd K mg where
  free_abs := He.free_ok X G (c.fact 25 (f := .free "abs") rfl)
  free_int := He.free_ok X G (c.fact 26 (f := .free "int") rfl)
  free_len := He.free_ok X G (c.fact 27 (f := .free "len") rfl)
  free_list := He.free_ok X G (c.fact 28 (f := .free "list") rfl)
  free_max := He.free_ok X G (c.fact 29 (f := .free "max") rfl)
  free_min := He.free_ok X G (c.fact 30 (f := .free "min") rfl)
  free_range := He.free_ok X G (c.fact 31 (f := .free "range") rfl)
  free_repr := He.free_ok X G (c.fact 32 (f := .free "repr") rfl)
  free_sum := He.free_ok X G (c.fact 33 (f := .free "sum") rfl)
  free_tuple := He.free_ok X G (c.fact 34 (f := .free "tuple") rfl)
  free_zip := He.free_ok X G (c.fact 35 (f := .free "zip") rfl)
  con_UNBOUNDED := He.str_ok X G (c.fact 36 rfl)
  d14 := by
    obtain ⟨fd, F⟩ := c.def_ 0 (d := ⟨("weight_of", none), "weight_of", "weight_of", defArgs st_weight_of, defBody st_weight_of, defScope st_weight_of, [], []⟩) rfl
    exact ⟨_, fd, He.glo_ok X G (c.fact 0 (f := .glo "weight_of") rfl), F⟩
  d15 := by
    obtain ⟨fd, F⟩ := c.def_ 1 (d := ⟨("least_round", none), "least_round", "least_round", defArgs st_least_round, defBody st_least_round, defScope st_least_round, [], []⟩) rfl
    exact ⟨_, fd, He.glo_ok X G (c.fact 1 (f := .glo "least_round") rfl), F⟩
  d94 := by
    obtain ⟨fd, F⟩ := c.def_ 2 (d := ⟨("least_weights", none), "least_weights", "least_weights", defArgs st_least_weights, defBody st_least_weights, defScope st_least_weights, [], []⟩) rfl
    exact ⟨_, fd, He.glo_ok X G (c.fact 2 (f := .glo "least_weights") rfl), F⟩
  d0 := by
    obtain ⟨fd, F⟩ := c.def_ 3 (d := ⟨("cost_with", none), "cost_with", "cost_with", defArgs st_cost_with, defBody st_cost_with, defScope st_cost_with, [], []⟩) rfl
    exact ⟨_, fd, He.glo_ok X G (c.fact 3 (f := .glo "cost_with") rfl), F⟩
  d1 := by
    obtain ⟨fd, F⟩ := c.def_ 4 (d := ⟨("cost_by", none), "cost_by", "cost_by", defArgs st_cost_by, defBody st_cost_by, defScope st_cost_by, [], []⟩) rfl
    exact ⟨_, fd, He.glo_ok X G (c.fact 4 (f := .glo "cost_by") rfl), F⟩
  d2 := by
    obtain ⟨fd, F⟩ := c.def_ 5 (d := ⟨("is_greater", none), "is_greater", "is_greater", defArgs st_is_greater, defBody st_is_greater, defScope st_is_greater, [], []⟩) rfl
    exact ⟨_, fd, He.glo_ok X G (c.fact 5 (f := .glo "is_greater") rfl), F⟩
  d3 := by
    obtain ⟨fd, F⟩ := c.def_ 6 (d := ⟨("greatest_round", none), "greatest_round", "greatest_round", defArgs st_greatest_round, defBody st_greatest_round, defScope st_greatest_round, [], []⟩) rfl
    exact ⟨_, fd, He.glo_ok X G (c.fact 6 (f := .glo "greatest_round") rfl), F⟩
  d64 := by
    obtain ⟨fd, F⟩ := c.def_ 7 (d := ⟨("joined", none), "joined", "joined", defArgs st_joined, defBody st_joined, defScope st_joined, [], []⟩) rfl
    exact ⟨_, fd, He.glo_ok X G (c.fact 7 (f := .glo "joined") rfl), F⟩
  d65 := by
    obtain ⟨fd, F⟩ := c.def_ 8 (d := ⟨("with_unbounded", none), "with_unbounded", "with_unbounded", defArgs st_with_unbounded, defBody st_with_unbounded, defScope st_with_unbounded, [], []⟩) rfl
    exact ⟨_, fd, He.glo_ok X G (c.fact 8 (f := .glo "with_unbounded") rfl), F⟩
  d66 := by
    obtain ⟨fd, F⟩ := c.def_ 9 (d := ⟨("greatest_prices", none), "greatest_prices", "greatest_prices", defArgs st_greatest_prices, defBody st_greatest_prices, defScope st_greatest_prices, [], []⟩) rfl
    exact ⟨_, fd, He.glo_ok X G (c.fact 9 (f := .glo "greatest_prices") rfl), F⟩
  d378 := by
    obtain ⟨fd, F⟩ := c.def_ 10 (d := ⟨("price_range", none), "price_range", "price_range", defArgs st_price_range, defBody st_price_range, defScope st_price_range, [], []⟩) rfl
    exact ⟨_, fd, He.glo_ok X G (c.fact 10 (f := .glo "price_range") rfl), F⟩
  d4 := by
    obtain ⟨fd, F⟩ := c.def_ 11 (d := ⟨("_law_tape", none), "_law_tape", "_law_tape", defArgs st__law_tape, defBody st__law_tape, defScope st__law_tape, [], []⟩) rfl
    exact ⟨_, fd, He.glo_ok X G (c.fact 11 (f := .glo "_law_tape") rfl), F⟩
  d5 := by
    obtain ⟨fd, F⟩ := c.def_ 12 (d := ⟨("_law_draw", none), "_law_draw", "_law_draw", defArgs st__law_draw, defBody st__law_draw, defScope st__law_draw, [], []⟩) rfl
    exact ⟨_, fd, He.glo_ok X G (c.fact 12 (f := .glo "_law_draw") rfl), F⟩
  d6 := by
    obtain ⟨fd, F⟩ := c.def_ 13 (d := ⟨("_law_price", none), "_law_price", "_law_price", defArgs st__law_price, defBody st__law_price, defScope st__law_price, [], []⟩) rfl
    exact ⟨_, fd, He.glo_ok X G (c.fact 13 (f := .glo "_law_price") rfl), F⟩
  d7 := by
    obtain ⟨fd, F⟩ := c.def_ 14 (d := ⟨("_law_family", none), "_law_family", "_law_family", defArgs st__law_family, defBody st__law_family, defScope st__law_family, [], []⟩) rfl
    exact ⟨_, fd, He.glo_ok X G (c.fact 14 (f := .glo "_law_family") rfl), F⟩
  d299 := by
    obtain ⟨fd, F⟩ := c.def_ 15 (d := ⟨("_law_weight", none), "_law_weight", "_law_weight", defArgs st__law_weight, defBody st__law_weight, defScope st__law_weight, [], []⟩) rfl
    exact ⟨_, fd, He.glo_ok X G (c.fact 15 (f := .glo "_law_weight") rfl), F⟩
  d300 := by
    obtain ⟨fd, F⟩ := c.def_ 16 (d := ⟨("_law_weights", none), "_law_weights", "_law_weights", defArgs st__law_weights, defBody st__law_weights, defScope st__law_weights, [], []⟩) rfl
    exact ⟨_, fd, He.glo_ok X G (c.fact 16 (f := .glo "_law_weights") rfl), F⟩
  d8 := by
    obtain ⟨fd, F⟩ := c.def_ 17 (d := ⟨("_law_same", none), "_law_same", "_law_same", defArgs st__law_same, defBody st__law_same, defScope st__law_same, [], []⟩) rfl
    exact ⟨_, fd, He.glo_ok X G (c.fact 17 (f := .glo "_law_same") rfl), F⟩
  d67 := by
    obtain ⟨fd, F⟩ := c.def_ 18 (d := ⟨("_law_large", none), "_law_large", "_law_large", defArgs st__law_large, defBody st__law_large, defScope st__law_large, [], []⟩) rfl
    exact ⟨_, fd, He.glo_ok X G (c.fact 18 (f := .glo "_law_large") rfl), F⟩
  d69 := by
    obtain ⟨fd, F⟩ := c.def_ 19 (d := ⟨("_law_dear", none), "_law_dear", "_law_dear", defArgs st__law_dear, defBody st__law_dear, defScope st__law_dear, [], []⟩) rfl
    exact ⟨_, fd, He.glo_ok X G (c.fact 19 (f := .glo "_law_dear") rfl), F⟩
  d10 := by
    obtain ⟨fd, F⟩ := c.def_ 20 (d := ⟨("_law_above", none), "_law_above", "_law_above", defArgs st__law_above, defBody st__law_above, defScope st__law_above, [], []⟩) rfl
    exact ⟨_, fd, He.glo_ok X G (c.fact 20 (f := .glo "_law_above") rfl), F⟩
  d70 := by
    obtain ⟨fd, F⟩ := c.def_ 21 (d := ⟨("_law_dears", none), "_law_dears", "_law_dears", defArgs st__law_dears, defBody st__law_dears, defScope st__law_dears, [], []⟩) rfl
    exact ⟨_, fd, He.glo_ok X G (c.fact 21 (f := .glo "_law_dears") rfl), F⟩
  d71 := by
    obtain ⟨fd, F⟩ := c.def_ 22 (d := ⟨("_law_greatest", none), "_law_greatest", "_law_greatest", defArgs st__law_greatest, defBody st__law_greatest, defScope st__law_greatest, [], []⟩) rfl
    exact ⟨_, fd, He.glo_ok X G (c.fact 22 (f := .glo "_law_greatest") rfl), F⟩
  d379 := by
    obtain ⟨fd, F⟩ := c.def_ 23 (d := ⟨("_law_range", none), "_law_range", "_law_range", defArgs st__law_range, defBody st__law_range, defScope st__law_range, [], []⟩) rfl
    exact ⟨_, fd, He.glo_ok X G (c.fact 23 (f := .glo "_law_range") rfl), F⟩
  d380 := by
    obtain ⟨fd, F⟩ := c.def_ 24 (d := ⟨("law", none), "law", "law", defArgs st_law, defBody st_law, defScope st_law, [], []⟩) rfl
    exact ⟨_, fd, He.glo_ok X G (c.fact 24 (f := .glo "law") rfl), F⟩
end L53
set_option Elab.async false
set_option linter.all false
set_option maxRecDepth 100000
set_option maxHeartbeats 4000000
namespace Mi
open PySem L2
local macro_rules | `(tactic| push_cast [$hs,*]) => `(tactic| simp -implicitDefEqProofs (disch := first | omega | (simp only [rng_len, List.length_map, List.length_append, List.length_range, List.length_replicate, List.length_cons, List.length_nil, List.length_set, List.length_reverse, List.length_zipIdx]; omega)) only [ev_seq, ev_if, ev_ifE, ev_nx, ev_bk, ev_ct, ev_E, ev_set, ev_tg, ev_ret, ev_retO, ev_retN, ev_put, ev_for, ev_C, ev_V, ev_vr, ev_ex, ev_o1, ev_o2, ev_t2, ev_tru, ev_and, ev_or, ev_not, ev_yes, ev_andE, ev_orE, ev_notE, ev_LN, ev_LC, ev_B, ev_TN, ev_TC, ev_tup, ev_lst, ev_GN, ev_GV, ev_GR, ev_call, ev_mu, ev_lc, ev_any, ev_r1, ev_r2, ev_rep, kS_nx, kS_bk, kS_ct, kS_rt, kIf_t, kIf_f, kM_ok, kSet_ok, kAnd_t, kAnd_f, kOr_t, kOr_f, kAndE_t, kAndE_f, kOrE_t, kOrE_f, kNotE_b, oVr_s, kO2_ok, kO2'_ok, g2_ss, gv_l, gv_r, kL_ok, kL'_ok, kB_ok, gB_s, gvL_n, gvL_c, kV_ss, kT_ok, kT'_ok, kG_ok, kG'_ok, gG_l, gG_t, gG_d, kC_ok, kC1_s, kC2_ok, kP_s, take_n, take_l, take_r, put_n, put_l, put_r, pt1_s, kPut1_ok, kPut2_ok, isL_l, kMu_ok, kFor_ok, kSeqI_l, kSeqI_l', kSeqI_t, kR2_ok, kRep_ok, rV_d, rV_l, cont_n, cont_c, ct1_s, wp_ok, wpC_ok, atI_0, atI_1, atI_2, atI_3, fIx_l, fIx_t, List.length_cons, List.length_nil, Nat.zero_add, Nat.reduceAdd, Int.reduceLT, Int.reduceLE, Int.reduceAdd, Int.reduceMul, Int.reduceToNat, Int.reduceNeg, Int.reduceSub, Nat.reduceLT, Nat.reduceLeDiff, Nat.reduceMul, gt_iff_lt, ge_iff_le, ixN_4_0, ixN_4_1, ixN_4_2, ixN_4_3, wipe_n, wipe_c, tgN_r, tgT_r, tgL_n, tgL_c, ofO_some, vw_d, vw_l, fAddI_int, fSub_int, fNeg_int, fMod_p, fMul_31, fMul_48271, fMul_69621, fPow18, fPow9, cCmp_int, cEq_int, cNe_int, cEq_str, cNe_str, cOrd_int, ev_aug, kAug_ok, ev_en, kEn_t, fIs_int, fIs_bool, fIs_none, fIs_str, fIs_list, fIs_tuple, isTy_int_int, isTy_int_bool, isTy_tuple_tuple, cIs_none, cIsNot_none, isNone_none, isNone_int, isNone_str, isNone_tuple, isNone_list, isNone_bool, truD_l, truD_t, truD_b, truD_n, bLen_l, bLen_t, bAbs_int, bInt_int, bMax_int, bMin_int, bList_l, bList_t, bTuple_l, bTuple_t, Option.map_some, Option.bind_some, List.getD_cons_zero, List.getD_cons_succ, List.set_cons_zero, List.set_cons_succ, if_true, if_false, lB, ↓reduceIte, Bool.not_true, Bool.not_false, kO1_ok, g1_s, kTru_ok, vf_d, vf_l, tk1_s, tkW_s, isO_l, isO_t, kF_ok, endF_r, endF_n, kF_ex, endX_s, rV_t, lpos_n, lpos_l, lpos_t, lpos_d, fAdd_int, ev_pN, ev_pS, kP1_i, ev_sl, kSl_ok, kSl2_ok, kSl3_ok, fSl_l, fSl_t, fRev_l, fRev_t, kR1_c, kR1_n, kR2_c, kLc_c, kRep2_n, gPut_n, gPut_c, gMu_app, rep_n, vw_d, List.length_map, List.length_range, rng_len, Int.toNat_natCast, beq_self_eq_true, Bool.not_true, Bool.not_false, Option.isNone_none, Option.isNone_some, decide_true, decide_false, ev_forN, List.isEmpty_nil, List.isEmpty_cons, kTg_2, kTg_3, ev_mv, gMv_s, ev_rvA, kRvA_t, kRvA_d, kRvA_l, ev_g1, kg1_i, ev_g2, kg2a_i, kg2_i, fNotT_l, fNotT_b, ev_tupR, ev_lstR, kTupR_s, kLstR_s, ev_rvR, kRvR_s, $hs,*])
def Rf (f : Fam) : List Nat := f.roots.filter fun s => (f.lw.getD s none).isSome
def lsR (f : Fam) : List Int := (Rf f).map fun s => ((f.lw.getD s none).map Prod.fst).getD 0
noncomputable def gsR (f : Fam) : List P3 := (Rf f).map fun s => (gp f).getD s none
noncomputable def rngD (f : Fam) : D := if (Rf f).isEmpty = true then .none else .tuple [.int (minI (lsR f)), if hasU (gsR f) = true then .none else .int (maxI (valsI (gsR f)))]
/-- what a family's roots and prices must be like -/
structure Fam.Rn (f : Fam) : Prop where
  ge : f.Ge
  sz : f.Sz
  roots : ∀ s ∈ f.roots, s < f.count
  few : f.roots.length ≤ 1000
  bd : ∃ p d, f.Pr p ∧ (∀ v ∈ f.vars, v.slots.length ≤ d) ∧ Bd p d f.count < 2 ^ 1000
theorem gs_N {f : Fam} (h : f.Rn) : hasN (gsR f) = false := by
  unfold hasN gsR
  rw [List.any_map, List.any_eq_false]
  intro s hs
  obtain ⟨h1, h2⟩ := List.mem_filter.mp hs
  have hn : (gp f).getD s none ≠ none := fun e => by
    rw [(gp_none h.ge.inn (h.roots s h1)).mp e] at h2
    cases h2
  simpa using hn
theorem gs_ne {f : Fam} (h : f.Rn) (hr : Rf f ≠ []) (hu : hasU (gsR f) = false) : valsI (gsR f) ≠ [] := by
  have e := valsI_int (gs_N h) hu
  intro z
  rw [z] at e
  have : gsR f = [] := by simpa using e
  unfold gsR at this
  exact hr (by simpa using this)
theorem ls_ne {f : Fam} (hr : Rf f ≠ []) : lsR f ≠ [] := by unfold lsR; simpa using hr
theorem ls_map (f : Fam) : ((Rf f).map fun s => PyData.int (((f.lw.getD s none).map Prod.fst).getD 0)) = (lsR f).map PyData.int := by unfold lsR; rw [List.map_map]; rfl
theorem gs_map (f : Fam) : ((Rf f).map fun s => p3D ((gp f).getD s none)) = (gsR f).map p3D := by unfold gsR; rw [List.map_map]; rfl
theorem emp {f : Fam} : ((Rf f).map natD).isEmpty = (Rf f).isEmpty := by cases Rf f <;> rfl
theorem prange_ok (C : Orc) (f : Fam) (h : f.Rn) (h94 : C 94 [.d f.dat] = .ok (.d (.tuple (f.lw.map wD))) []) (h66 : C 66 [.d f.dat] = .ok (.d (p3t (gp f))) []) : F378 C [.d f.dat] = .ok (.d (rngD f)) [] := by
  have hl : f.lw.length = f.count := lw_len h.sz.plain
  have hr := h.roots
  have hz := h.few
  have hfz : (Rf f).length ≤ 1000 := Nat.le_trans (List.length_filter_le _ _) hz
  have mem : ∀ s ∈ Rf f, s < f.count ∧ ∃ q, f.lw.getD s none = some q := fun s hs => by
    obtain ⟨h1, h2⟩ := List.mem_filter.mp hs
    exact ⟨hr s h1, Option.isSome_iff_exists.mp h2⟩
  have run : WpC (F378 C [.d f.dat]) fun w o => w = .d (rngD f) ∧ o = [] := by
    refine wpC_run (m := M378 C) rfl rfl rfl ?_
    simp only [List.map_cons, List.map_nil, List.cons_append, List.nil_append, List.replicate]
    unfold M378
    push_cast [h94, Fam.ix1]
    rw [cmpT_filter (dat := natD) (p := fun s => (f.lw.getD s none).isSome) (f := natD) (fun s hs => ⟨_, rfl, by
      have := hr s hs
      push_cast [natD_eq, wt_at (ts := f.lw) (s := s) (by omega), isNone_wD]
      cases hq : f.lw.getD s none with
      | none => exact ⟨by trivial, (fun _ => by trivial), fun h => by cases h⟩
      | some q =>
        refine ⟨rfl, (fun h => by cases h), fun _ => ?_⟩
        push_cast []
        exact ⟨by first | rfl | trivial, by trivial⟩⟩)]
    rw [show f.roots.filter (fun s => (f.lw.getD s none).isSome) = Rf f from rfl]
    unfold rngD
    cases hE : (Rf f).isEmpty with
    | true =>
      push_cast [emp, hE]
      exact ⟨by trivial, by trivial⟩
    | false =>
      have hne : Rf f ≠ [] := fun z => by rw [z] at hE; cases hE
      push_cast [emp, hE, h66]
      rw [cmpT_map (dat := natD) (f := fun s => p3D ((gp f).getD s none)) (fun s hs => ⟨_, rfl, by
        push_cast [natD_eq, ix_p3t (ts := gp f) (s := s) (by rw [gp_len]; exact (mem s hs).1)]
        exact ⟨by trivial, by trivial⟩⟩), gs_map]
      push_cast []
      rw [cmpT_map (dat := natD) (f := fun s => PyData.int (((f.lw.getD s none).map Prod.fst).getD 0)) (fun s hs => ⟨_, rfl, by
        obtain ⟨h1, q, hq⟩ := mem s hs
        push_cast [natD_eq, wt_at (ts := f.lw) (s := s) (by omega), hq, wD_some]
        exact ⟨rfl, by trivial⟩⟩), ls_map]
      cases hU : hasU (gsR f) with
      | true =>
        push_cast [bMinL_i (ls_ne hne), u_is, in_u, hU]
        exact ⟨by trivial, by trivial⟩
      | false =>
        have iu : cIn (.str uStr) (.list ((valsI (gsR f)).map PyData.int)) = some false := by rw [← valsI_int (gs_N h) hU, in_u, hU]
        push_cast [bMinL_i (ls_ne hne), u_is, iu, valsI_int (gs_N h) hU, bMaxL_i (gs_ne h hne hU)]
        exact ⟨by trivial, by trivial⟩
  obtain ⟨w, o, h, rfl, rfl⟩ := run
  exact h
theorem lrange_ok (C : Orc) (f : Fam) (h : f.Rn) (h300 : C 300 [.d f.dat] = .ok (.d (wtD true f.lw)) []) (h71 : C 71 [.d f.dat] = .ok (.d (p3t (gp f))) []) : F379 C [.d f.dat] = .ok (.d (rngD f)) [] := by
  have hl : f.lw.length = f.count := lw_len h.sz.plain
  have hr := h.roots
  have hz := h.few
  have run : WpC (F379 C [.d f.dat]) fun w o => w = .d (rngD f) ∧ o = [] := by
    refine wpC_run (m := M379 C) rfl rfl rfl ?_
    simp only [List.map_cons, List.map_nil, List.cons_append, List.nil_append, List.replicate]
    unfold M379
    push_cast [h300, h71, Fam.ix1]
    rw [cmpT_filter (dat := natD) (p := fun s => (f.lw.getD s none).isSome) (f := fun s => PyData.int (((f.lw.getD s none).map Prod.fst).getD 0)) (fun s hs => ⟨_, rfl, by
      have := hr s hs
      push_cast [natD_eq, wt_ix (k := true) (ts := f.lw) (s := s) (by omega), isNone_wD]
      cases hq : f.lw.getD s none with
      | none => exact ⟨by trivial, (fun _ => by trivial), fun h => by cases h⟩
      | some q =>
        refine ⟨rfl, (fun h => by cases h), fun _ => ?_⟩
        push_cast [wt_ix (k := true) (ts := f.lw) (s := s) (by omega), hq, wD_some]
        exact ⟨by first | rfl | trivial, by trivial⟩⟩)]
    rw [show f.roots.filter (fun s => (f.lw.getD s none).isSome) = Rf f from rfl, ls_map]
    unfold rngD
    cases hE : (Rf f).isEmpty with
    | true =>
      have e0 : (lsR f).map PyData.int = [] := by unfold lsR; rw [List.isEmpty_iff.mp hE]; rfl
      rw [e0]
      push_cast []
      exact ⟨by trivial, by trivial⟩
    | false =>
      have hne : Rf f ≠ [] := fun z => by rw [z] at hE; cases hE
      have e0 : ((lsR f).map PyData.int).isEmpty = false := by
        cases hq : lsR f with
        | nil => exact absurd hq (ls_ne hne)
        | cons _ _ => rfl
      push_cast [e0, Fam.ix1]
      rw [cmpT_filter (dat := natD) (p := fun s => (f.lw.getD s none).isSome) (f := fun s => p3D ((gp f).getD s none)) (fun s hs => ⟨_, rfl, by
        have hsr := hr s hs
        push_cast [natD_eq, ix_p3t (ts := gp f) (s := s) (by rw [gp_len]; exact hsr), isNone_p3, bnone]
        cases hq : f.lw.getD s none with
        | none =>
          rw [decide_eq_true ((gp_none h.ge.inn hsr).mpr hq)]
          exact ⟨rfl, (fun _ => by trivial), fun h => by cases h⟩
        | some q =>
          rw [decide_eq_false fun z => by rw [(gp_none h.ge.inn hsr).mp z] at hq; cases hq]
          refine ⟨rfl, (fun h => by cases h), fun _ => ?_⟩
          push_cast [ix_p3t (ts := gp f) (s := s) (by rw [gp_len]; exact hsr)]
          exact ⟨by first | rfl | trivial, by trivial⟩⟩)]
      rw [show f.roots.filter (fun s => (f.lw.getD s none).isSome) = Rf f from rfl, gs_map]
      cases hU : hasU (gsR f) with
      | true =>
        push_cast [bMinL_i (ls_ne hne), u_is, in_u, hU]
        exact ⟨by trivial, by trivial⟩
      | false =>
        have iu : cIn (.str uStr) (.list ((valsI (gsR f)).map PyData.int)) = some false := by rw [← valsI_int (gs_N h) hU, in_u, hU]
        push_cast [bMinL_i (ls_ne hne), u_is, iu, valsI_int (gs_N h) hU, bMaxL_i (gs_ne h hne hU)]
        exact ⟨by trivial, by trivial⟩
  obtain ⟨w, o, h, rfl, rfl⟩ := run
  exact h
theorem rng_nice {f : Fam} (h : f.Rn) : nice (rngD f) = true ∧ nodes (rngD f) ≤ 16000 ∧ (rngD f).depth ≤ 64 := by
  obtain ⟨p, d, hp, hd, hB⟩ := h.bd
  unfold rngD
  cases hE : (Rf f).isEmpty with
  | true => exact ⟨rfl, by simp [nodes], by simp [PyData.depth]⟩
  | false =>
    have hne : Rf f ≠ [] := fun z => by rw [z] at hE; cases hE
    have n1 : nice (.int (minI (lsR f))) = true := by
      have hm := minI_mem (ls_ne hne)
      obtain ⟨s, hs, e⟩ := List.mem_map.mp hm
      obtain ⟨h1, h2⟩ := List.mem_filter.mp hs
      obtain ⟨q, hq⟩ := Option.isSome_iff_exists.mp h2
      rw [hq] at e
      rw [← e]
      exact nice_i (wIt_bd h.ge.inn hp hd f.count s q hq) hB
    cases hU : hasU (gsR f) with
    | true =>
      refine ⟨?_, by simp [nodes, nodesAll], by simp [PyData.depth, PyData.depthAll]⟩
      show niceAll [.int (minI (lsR f)), .none] = true
      rw [niceAll_iff]
      intro x hx
      rcases (show x = .int (minI (lsR f)) ∨ x = .none by simpa using hx) with rfl | rfl
      · exact n1
      · rfl
    | false =>
      have hm := maxI_mem (gs_ne h hne hU)
      have n2 : nice (.int (maxI (valsI (gsR f)))) = true := by
        obtain ⟨z, hz, e⟩ := List.mem_filterMap.mp hm
        obtain ⟨s, hs, rfl⟩ := List.mem_map.mp hz
        obtain ⟨h1, h2⟩ := List.mem_filter.mp hs
        refine nice_i (gp_bd h.ge.inn hp hd (h.roots s h1) ?_) hB
        cases hg : (gp f).getD s none with
        | none => rw [hg] at e; cases e
        | some y => rw [hg] at e; rw [← show y = some (maxI (valsI (gsR f))) from e]
      refine ⟨?_, by simp [nodes, nodesAll], by simp [PyData.depth, PyData.depthAll]⟩
      show niceAll [.int (minI (lsR f)), .int (maxI (valsI (gsR f)))] = true
      rw [niceAll_iff]
      intro x hx
      rcases (show x = .int (minI (lsR f)) ∨ x = .int (maxI (valsI (gsR f))) by simpa using hx) with rfl | rfl
      · exact n1
      · exact n2
theorem rn_small {f : Fam} (hf : f.Ok 5 8 0) : f.Rn := by
  have hc := hf.count
  refine ⟨⟨hf.pos, by omega, ⟨fun v hv => (hf.vars v hv).plug, fun v hv => (hf.vars v hv).slots⟩, fun v hv => by have := (hf.vars v hv).len; omega⟩,
    ⟨hf.pos, by omega, fun v hv => (hf.vars v hv).plug, fun v hv => (hf.vars v hv).slots, fun v hv p hp => ((hf.vars v hv).price p hp).2.2 (by decide)⟩, hf.roots, ?_, 1000000000, 3, fun v hv p hp => ?_, fun v hv => (hf.vars v hv).len, ?_⟩
  · have h1 : f.roots.Nodup := hf.asc.imp fun h => Nat.ne_of_lt h
    have := nodup_le h1 hf.roots
    omega
  · have := (hf.vars v hv).price p hp
    omega
  · exact Nat.lt_of_le_of_lt (bd_mono hc) (by unfold Bd; decide)
theorem rn_large {f : Fam} (hf : f.Lg 0) : f.Rn := by
  have hc := hf.count
  refine ⟨⟨by omega, by omega, ⟨fun v hv => (hf.vars v hv).plug, fun v hv => (hf.vars v hv).slots⟩, fun v hv => by have := (hf.vars v hv).len; omega⟩,
    ⟨by omega, by omega, fun v hv => (hf.vars v hv).plug, fun v hv => (hf.vars v hv).slots, fun v hv p hp => ?_⟩, hf.roots, ?_, 13, 1, fun v hv p hp => ?_, fun v hv => (hf.vars v hv).len, ?_⟩
  · obtain ⟨q, h1, h2, h3⟩ := (hf.vars v hv).price
    rw [h1] at hp; cases hp
    exact h3 rfl
  · have h1 : f.roots.Nodup := hf.asc.imp fun h => Nat.ne_of_lt h
    have := nodup_le h1 hf.roots
    omega
  · obtain ⟨q, h1, h2, h3⟩ := (hf.vars v hv).price
    rw [h1] at hp; cases hp
    exact h2
  · exact Nat.lt_of_le_of_lt (bd_mono hc.2) (by unfold Bd; decide)
theorem k53_law (C : Orc) (hD : DrawS C) (hT : ∀ ns : List Int, ∃ t, C 4 [.d (.list (ns.map PyData.int))] = .ok (.l t) [] ∧ TapeOk t)
    (h7 : ∀ t, TapeOk t → ∃ (f : Fam) (t' : List D), C 7 [.l t, .d (.int 5), .d (.int 8), .d (.int 0)] = .ok (.d f.dat) [.l t'] ∧ TapeOk t' ∧ f.Ok 5 8 0)
    (h67 : ∀ t, TapeOk t → ∃ (f : Fam) (t' : List D), C 67 [.l t, .d (.int 0)] = .ok (.d f.dat) [.l t'] ∧ TapeOk t' ∧ f.Lg 0)
    (h378 : ∀ f : Fam, f.Rn → C 378 [.d f.dat] = .ok (.d (rngD f)) []) (h379 : ∀ f : Fam, f.Rn → C 379 [.d f.dat] = .ok (.d (rngD f)) []) (h8 : ∀ f : Fam, f.Rn → C 8 [.d (rngD f), .d (rngD f)] = .ok (.d (.bool true)) [])
    (ns : List Int) : F380 C [.d (.list (ns.map PyData.int))] = .ok (.d (.bool true)) [] := by
  have run : WpC (F380 C [.d (.list (ns.map PyData.int))]) fun w o => w = .d (.bool true) ∧ o = [] := by
    refine wpC_run (m := M380 C) rfl rfl rfl ?_
    simp only [List.map_cons, List.map_nil, List.cons_append, List.nil_append, List.replicate]
    unfold M380
    obtain ⟨t0, h0, ht0⟩ := hT ns
    obtain ⟨k, t1, h1, ht1, k0, k1⟩ := hD t0 ht0 8 (by decide)
    obtain ⟨f, t2, h2, ht2, hf⟩ := h7 t1 ht1
    obtain ⟨g, t3, h3, ht3, hg⟩ := h7 t2 ht2
    obtain ⟨l, t4, h4, ht4, hl⟩ := h67 t3 ht3
    have rf := rn_small hf
    have rg := rn_small hg
    have rl := rn_large hl
    by_cases hk : k = 0
    · subst hk
      push_cast [h0, h1, h2, h3, h4, h378 l rl, h379 l rl, h8 l rl, h378 g rg, h379 g rg, h8 g rg]
      exact ⟨by trivial, by trivial⟩
    · push_cast [h0, h1, h2, h3, show (k == 0) = false by simpa using hk, h378 f rf, h379 f rf, h8 f rf, h378 g rg, h379 g rg, h8 g rg]
      exact ⟨by trivial, by trivial⟩
  obtain ⟨w, o, h, rfl, rfl⟩ := run
  exact h
end Mi
namespace L53
open Mi PySem L2
theorem q380 (n : Nat) : callN (n + 1) 380 = F380 (callN n) := rfl
theorem dr (n : Nat) : DrawS (callN (n + 1)) := fun _ ht m hm => draw_ok (callN n) ht m hm
theorem tp (n : Nat) (ns : List Int) : ∃ t, callN (n + 1) 4 [.d (.list (ns.map PyData.int))] = .ok (.l t) [] ∧ TapeOk t := tape_ok (callN n) ns
theorem pr (n : Nat) : PriceS (callN (n + 2)) := fun _ ht a b h1 h2 => price_ok (callN (n + 1)) (dr n) ht a b h1 h2
theorem q7 (n : Nat) : callN (n + 1) 7 = F7 (callN n) := rfl
theorem fml (n : Nat) (a b : Nat) (low : Int) (ha : 0 < a) (ha2 : a ≤ 1000) (hb : b ≤ 1000) (t : List D) (ht : TapeOk t) : ∃ (f : Fam) (t' : List D), callN (n + 3) 7 [.l t, .d (.int (a : Int)), .d (.int (b : Int)), .d (.int low)] = .ok (.d f.dat) [.l t'] ∧ TapeOk t' ∧ f.Ok a b low := by
  rw [q7]
  exact family_ok (callN (n + 2)) (dr (n + 1)) (pr n) ht a b low ha ha2 hb
theorem q67 (n : Nat) : callN (n + 1) 67 = F67 (callN n) := rfl
theorem lrg (n : Nat) (t : List D) (ht : TapeOk t) (low : Int) (hl : 0 ≤ low ∧ low ≤ 1) : ∃ (f : Fam) (t' : List D), callN (n + 2) 67 [.l t, .d (.int low)] = .ok (.d f.dat) [.l t'] ∧ TapeOk t' ∧ f.Lg low := by
  rw [q67]; exact large_ok _ (dr n) ht low hl
theorem q378 (n : Nat) : callN (n + 1) 378 = F378 (callN n) := rfl
theorem q379 (n : Nat) : callN (n + 1) 379 = F379 (callN n) := rfl
theorem q15 (n : Nat) : callN (n + 1) 15 = F15 (callN n) := rfl
theorem q14 (n : Nat) : callN (n + 1) 14 = F14 (callN n) := rfl
theorem wo (n : Nat) (v : Var) (ws : List Wt) (h : ∀ s ∈ v.slots, s < ws.length) : callN (n + 1) 14 [.d v.dat, .d (.tuple (ws.map wD))] = .ok (.d (wD (weight v ws))) [] := by
  rw [q14]
  exact weight_of_ok (callN n) v ws h v.dat rfl
theorem lr (n : Nat) (f : Fam) (ws : List Wt) (hw : WtFor f ws) : callN (n + 2) 15 [.d f.dat, .d (.tuple (ws.map wD))] = .ok (.d (.tuple ((wRound f ws).map wD))) [] := by
  rw [q15]
  exact least_round_ok (callN (n + 1)) (wo n) f f.dat rfl ws hw
theorem q94 (n : Nat) : callN (n + 1) 94 = F94 (callN n) := rfl
theorem lwo (n : Nat) (f : Fam) (hf : f.Sz) : callN (n + 3) 94 [.d f.dat] = .ok (.d (.tuple (f.lw.map wD))) [] := by
  rw [q94]
  exact lw_ok _ (fun f ws hf hl => lr n f ws (hf.for_ hl)) f hf
theorem q0 (n : Nat) : callN (n + 1) 0 = F0 (callN n) := rfl
theorem gcw (n : Nat) (p : Option Int) (fs : List P3) : callN (n + 1) 0 [.d (priceD p), .d (.list (fs.map p3D))] = .ok (.d (p3D (dear p fs))) [] := by
  rw [q0]; exact cost_with_ok _ p fs
theorem q1 (n : Nat) : callN (n + 1) 1 = F1 (callN n) := rfl
theorem gcb (n : Nat) (v : Var) (ts : List P3) (h1 : ∀ s ∈ v.slots, s < ts.length) (h2 : v.slots.length ≤ 1000) : callN (n + 2) 1 [.d v.dat, .d (.tuple (ts.map p3D))] = .ok (.d (p3D (dearV v ts))) [] := by
  rw [q1]; exact cost_by_ok _ (gcw n) v ts h1 h2
theorem q2 (n : Nat) : callN (n + 1) 2 = F2 (callN n) := rfl
theorem gab (n : Nat) : AboveS (callN (n + 1)) 2 := fun a b => by rw [q2]; exact is_greater_ok _ a b
theorem q3 (n : Nat) : callN (n + 1) 3 = F3 (callN n) := rfl
theorem grs (n : Nat) : GRoundS (callN (n + 3)) 3 := fun f ts h => by rw [q3]; exact ground_ok _ (gcb n) (gab (n + 1)) f ts h
theorem q64 (n : Nat) : callN (n + 1) 64 = F64 (callN n) := rfl
theorem gjo (n : Nat) (as bs : List P3) (hl : as.length = bs.length) (hz : as.length ≤ 1000) : callN (n + 2) 64 [.d (p3t as), .d (p3t bs)] = .ok (.d (p3t (jnR as bs))) [] := by
  rw [q64]; exact joined_ok _ (gab n) as bs hl hz
theorem q65 (n : Nat) : callN (n + 1) 65 = F65 (callN n) := rfl
theorem gun (n : Nat) (f : Fam) (hf : f.Ge) (bs : List Bool) (hb : RB f bs) : callN (n + 4) 65 [.d f.dat, .d (p3t (qrow f bs))] = .ok (.d (p3t (gp f))) [] := by
  rw [q65]; exact unb_ok _ (grs n) (gjo (n + 1)) f hf bs hb
theorem q66 (n : Nat) : callN (n + 1) 66 = F66 (callN n) := rfl
theorem gre (n : Nat) (f : Fam) (hf : f.Ge) : callN (n + 5) 66 [.d f.dat] = .ok (.d (p3t (gp f))) [] := by
  rw [q66]; exact greatest_ok _ (grs (n + 1)) (gun n) f hf
theorem q299 (n : Nat) : callN (n + 1) 299 = F299 (callN n) := rfl
theorem lwl (n : Nat) : LWeightL (callN (n + 1)) := fun v ws h => by rw [q299]; exact lweight_lok _ v ws h
theorem q300 (n : Nat) : callN (n + 1) 300 = F300 (callN n) := rfl
theorem lws (n : Nat) (f : Fam) (hf : f.Sz) : callN (n + 2) 300 [.d f.dat] = .ok (.d (wtD true f.lw)) [] := by
  rw [q300]
  exact lws_ok _ (lwl n) f hf.plain hf.count
theorem q69 (n : Nat) : callN (n + 1) 69 = F69 (callN n) := rfl
theorem lde (n : Nat) (v : Var) (ts : List P3) (h1 : ∀ s ∈ v.slots, s < ts.length) (h2 : v.slots.length ≤ 1000) : callN (n + 1) 69 [.d v.dat, .d (.tuple (ts.map p3D))] = .ok (.d (p3D (dearV v ts))) [] := by
  rw [q69]; exact law_dear_ok _ v ts h1 h2
theorem q10 (n : Nat) : callN (n + 1) 10 = F10 (callN n) := rfl
theorem lab (n : Nat) : AboveS (callN (n + 1)) 10 := fun a b => by rw [q10]; exact law_above_ok _ a b
theorem q70 (n : Nat) : callN (n + 1) 70 = F70 (callN n) := rfl
theorem lds (n : Nat) : GRoundS (callN (n + 2)) 70 := fun f ts h => by rw [q70]; exact law_dears_ok _ (lde n) (lab n) f ts h
theorem q71 (n : Nat) : callN (n + 1) 71 = F71 (callN n) := rfl
theorem lgr (n : Nat) (f : Fam) (hf : f.Ge) : callN (n + 3) 71 [.d f.dat] = .ok (.d (p3t (gp f))) [] := by
  rw [q71]
  exact law_greatest_ok _ (lds n) f hf fun v hv => lde (n + 1) v _ (fun s hs => by rw [gIt_len hf.inn]; exact hf.inn.slots v hv s hs) (hf.few v hv)
theorem q8 (n : Nat) : callN (n + 1) 8 = F8 (callN n) := rfl
theorem same (n : Nat) {x : D} (h : nice x = true) (hn : nodes x ≤ 16000) (h2 : x.depth ≤ 64) : callN (n + 1) 8 [.d x, .d x] = .ok (.d (.bool true)) [] := by
  rw [q8]; exact same_ok _ h hn h2
theorem math_n (n : Nat) (ns : List Int) : callN (n + 7) 380 [.d (.list (ns.map .int))] = .ok (.d (.bool true)) [] := by
  rw [q380]
  refine k53_law (callN (n + 6)) (dr (n + 5)) (tp (n + 5)) (fun t ht => fml (n + 3) 5 8 0 (by decide) (by decide) (by decide) t ht) (fun t ht => lrg (n + 4) t ht 0 (by decide)) (fun f hf => ?_) (fun f hf => ?_) (fun f hf => ?_) ns
  · rw [q378]; exact prange_ok _ f hf (lwo (n + 2) f hf.sz) (gre n f hf.ge)
  · rw [q379]; exact lrange_ok _ f hf (lws (n + 3) f hf.sz) (lgr (n + 2) f hf.ge)
  · obtain ⟨h1, h2, h3⟩ := rng_nice hf
    exact same (n + 5) h1 h2 h3
theorem math : ∀ ns : List Int, ns.length ≤ 63 → callN 12 380 [.d (.list (ns.map .int))] = .ok (.d (.bool true)) [] := fun ns _ => math_n 5 ns
end L53
open PySem PySem.W PySem.Calls PyProof.Rows
set_option maxRecDepth 100000 in
set_option maxHeartbeats 0 in
theorem PySem.Challenge.cw_slotwise_k53_price_range_holds : PySem.Challenge.rw_slotwise_k53_price_range.Holds := by
  w_on; o_law
  refine HandSHeadRun.head_any (r := OpenLaw.row PySem.Challenge.rw_slotwise_k53_price_range) (q := view (OpenLaw.row PySem.Challenge.rw_slotwise_k53_price_range).prog [28]) (H := L53.hk) (ob := L53.ob) (M := 2000) (loose := L53.names) (d := HandSHeadRun.topDef (OpenLaw.row PySem.Challenge.rw_slotwise_k53_price_range).prog 28) (kwd := []) L53.ob_eq
    (by kernel_rfl) (fun s => by kernel_rfl) L53.run (by kernel_rfl) (by kernel_rfl) (by kernel_rfl) (by rfl) (by first | assumption | decide +kernel) (by decide +kernel) ⟨rfl, rfl, rfl, rfl, rfl, by decide +kernel⟩ ?hw ?hc
  case hw => w_witness2
  case hc =>
    refine Mi.walkG (l := PySem.Challenge.rw_slotwise_k53_price_range) (n := 63) (k := 12) (x := "_law_script") rfl (by decide) (by kernel_rfl) ⟨rfl, by decide, by decide⟩ ?F
    intro w mg fa h Y G hmg0
    obtain ⟨K, KX, c⟩ := Y
    have hd := L53.hd_of KX G c
    obtain ⟨f, fd, hm, F⟩ := hd.d380
    have hmg : mg ("law" : PySem.Str) = some (.ref fa) := by
      have e : (HandSHeadRun.topDef (OpenLaw.row PySem.Challenge.rw_slotwise_k53_price_range).prog 28).name = ("law" : PySem.Str) := by kernel_rfl
      rw [← e]
      exact hmg0
    have e := hm.symm.trans hmg
    cases e
    have b := L2.FunD.bindsA (ps := L53.ps_law) F fun _ _ _ _ _ _ us hl => match us, hl with | [_], _ => rfl
    exact ⟨K, fd, L53.callN 12 380, KX, fun s v => b s [v] rfl, L53.math, fun base _ _ => Mi.lawF F L53.sc_law rfl rfl rfl fun Pl hP cdv A outer s H o => Mi.one_P hP ▸ L53.s_law (L53.cals hd 11) o⟩
