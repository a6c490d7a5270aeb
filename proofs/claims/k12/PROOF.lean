import PyProof.Rows.All
import Wide.All
import OpenK.AllK
import Wide.FinOn
import HandS.ForMost
import HandS.Wide
import HandS.Defaults
import HandS.Deep
import HandS.IsInst
import HandS.Head0
import HandS.Head1
import HandS.Head2
import HandS.HeadEnd
import HandS.HeadHook1
import HandS.HeadHook2
import HandS.More
import KE.DataCmp
import HandS.TupMul
import KE.GoesEnum
import HandS.TupAny
import HandS.Style
import HandS.Rev
import HandS.Zip
import HandS.RevRange
import HandS.Conv
import HandS.Flow
import HandS.ExcValue
import KE.KDictItemsList
import HandS.DictComp
import HandS.Small
import KE.SortUse
import HandS.HeadHook4
import HandS.ExcInit
import HandS.ExcField
import HandS.ExcOwn
import HandS.ExcIs
import HandS.TryMany
import KE.KExcSuper
import KE.KExcIs
import HandS.HeadHook3
import KE.DataMinMax
import PyProof.ExcBaseAll.ValueError
import HandS.SetKeys
import PySem.Challenge.RW_slotwise_k12_variables_of_components
set_option Elab.async false
set_option linter.all false
set_option maxRecDepth 100000
set_option maxHeartbeats 4000000
/-! Mi1: data trees in the abstract heap, owned trees, the relation between values and mirrors -/
namespace Mi
open PySem PySem.Spec PyProof.Rows L2

abbrev D := PyData
abbrev KK := PySem.W.Frag

/-- a key as data -/
def kD : Key → D
  | .inl i => .int i
  | .inr x => .str x
/-- the keys and the values of a dict, the attributes of an instance, at an address -/
inductive Mp : HO → List D → List V → Prop
  | dK (kvs : List (Key × V)) : Mp (.dK kvs) (kvs.map fun p => kD p.1) (kvs.map (·.2))
  | dT (p : List Key × V) (kvs : List (List Key × V)) : Mp (.dT (p :: kvs)) ((p :: kvs).map fun p => .tuple (p.1.map kD)) ((p :: kvs).map (·.2))
/-- a dict that stands still, an instance, the dict of an exception, a range -/
def MpAt (H : Hp) (a : Addr) (ks : List D) (vs : List V) : Prop :=
  (∃ u, Rd H a u ∧ Mp u ks vs) ∨ (∃ c dx fs, H a = some (.ins c dx fs) ∧ ks = .none :: fs.map (fun p => .str p.1) ∧ vs = .int (c : Int) :: fs.map (·.2)) ∨
    (∃ fs, H a = some (.xd fs) ∧ ks = .bool true :: fs.map (fun p => .str p.1) ∧ vs = .bl true :: fs.map (·.2)) ∨
    ∃ lo hi : Int, H a = some (.rng lo hi) ∧ ks = [.bool false, .bool false] ∧ vs = [.int lo, .int hi]
mutual
/-- the value v bears the data tree; O: addresses that may still change -/
def Dat (K : KK) (H : Hp) (O : List Addr) : D → V → Prop
  | .none, v => v = .non
  | .bool b, v => v = .bl b
  | .int i, v => v = .int i
  | .str x, v => v = .str x
  | .list ds, v => ∃ a vs, v = .ref a ∧ SqL K H a vs ∧ a ∉ O ∧ Dats K H O ds vs
  | .tuple ds, v => ∃ a vs, v = .ref a ∧ SqT K H a vs ∧ a ∉ O ∧ Dats K H O ds vs
  | .dict kvs, v => ∃ a vs, v = .ref a ∧ MpAt H a (kvs.map (·.1)) vs ∧ a ∉ O ∧ Datk K H O kvs vs
def Dats (K : KK) (H : Hp) (O : List Addr) : List D → List V → Prop
  | [], vs => vs = []
  | d :: ds, vs => ∃ v r, vs = v :: r ∧ Dat K H O d v ∧ Dats K H O ds r
def Datk (K : KK) (H : Hp) (O : List Addr) : List (D × D) → List V → Prop
  | [], vs => vs = []
  | (_, d) :: ds, vs => ∃ v r, vs = v :: r ∧ Dat K H O d v ∧ Datk K H O ds r
end

/-- written objects are not tracked -/
def Good (K : KK) (H : Hp) : Prop := ∀ a o, K.lookup a = some o → H a = none

section
variable {K : KK} {H H' : Hp} {O O' : List Addr}
mutual
theorem Dat.mono (hL : ∀ a vs, a ∉ O → SqL K H a vs → SqL K H' a vs ∧ a ∉ O') (hT : ∀ a vs, a ∉ O → SqT K H a vs → SqT K H' a vs ∧ a ∉ O') (hD : ∀ a ks vs, a ∉ O → MpAt H a ks vs → MpAt H' a ks vs ∧ a ∉ O') :
    ∀ (d : D) (v : V), Dat K H O d v → Dat K H' O' d v
  | .none, _, h => by simpa [Dat] using h
  | .bool _, _, h => by simpa [Dat] using h
  | .int _, _, h => by simpa [Dat] using h
  | .str _, _, h => by simpa [Dat] using h
  | .list ds, v, h => by
    simp only [Dat] at h ⊢
    obtain ⟨a, vs, e, h1, h2, h3⟩ := h
    exact ⟨a, vs, e, (hL a vs h2 h1).1, (hL a vs h2 h1).2, Dats.mono hL hT hD ds vs h3⟩
  | .tuple ds, v, h => by
    simp only [Dat] at h ⊢
    obtain ⟨a, vs, e, h1, h2, h3⟩ := h
    exact ⟨a, vs, e, (hT a vs h2 h1).1, (hT a vs h2 h1).2, Dats.mono hL hT hD ds vs h3⟩
  | .dict kvs, v, h => by
    simp only [Dat] at h ⊢
    obtain ⟨a, vs, e, h1, h2, h3⟩ := h
    exact ⟨a, vs, e, (hD a _ vs h2 h1).1, (hD a _ vs h2 h1).2, Datk.mono hL hT hD kvs vs h3⟩
theorem Dats.mono (hL : ∀ a vs, a ∉ O → SqL K H a vs → SqL K H' a vs ∧ a ∉ O') (hT : ∀ a vs, a ∉ O → SqT K H a vs → SqT K H' a vs ∧ a ∉ O') (hD : ∀ a ks vs, a ∉ O → MpAt H a ks vs → MpAt H' a ks vs ∧ a ∉ O') :
    ∀ (ds : List D) (vs : List V), Dats K H O ds vs → Dats K H' O' ds vs
  | [], _, h => by simpa [Dats] using h
  | d :: ds, vs, h => by
    simp only [Dats] at h ⊢
    obtain ⟨v, r, e, h1, h2⟩ := h
    exact ⟨v, r, e, Dat.mono hL hT hD d v h1, Dats.mono hL hT hD ds r h2⟩
theorem Datk.mono (hL : ∀ a vs, a ∉ O → SqL K H a vs → SqL K H' a vs ∧ a ∉ O') (hT : ∀ a vs, a ∉ O → SqT K H a vs → SqT K H' a vs ∧ a ∉ O') (hD : ∀ a ks vs, a ∉ O → MpAt H a ks vs → MpAt H' a ks vs ∧ a ∉ O') :
    ∀ (ds : List (D × D)) (vs : List V), Datk K H O ds vs → Datk K H' O' ds vs
  | [], _, h => by simpa [Datk] using h
  | (k, d) :: ds, vs, h => by
    simp only [Datk] at h ⊢
    obtain ⟨v, r, e, h1, h2⟩ := h
    exact ⟨v, r, e, Dat.mono hL hT hD d v h1, Datk.mono hL hT hD ds r h2⟩
end

theorem Rd.to {a : Addr} {u : HO} (e : ∀ o, H a = some o → H' a = some o) (h : Rd H a u) : Rd H' a u := by
  rcases h with h | ⟨o, h⟩
  · exact .inl (e _ h)
  · exact .inr ⟨o, e _ h⟩
theorem sqL_to {a : Addr} {vs : List V} (e : ∀ o, H a = some o → H' a = some o) (h : SqL K H a vs) : SqL K H' a vs := by
  rcases h with h | h
  · exact .inl (Rd.to e h)
  · exact .inr h
theorem sqT_to {a : Addr} {vs : List V} (e : ∀ o, H a = some o → H' a = some o) (h : SqT K H a vs) : SqT K H' a vs := by
  rcases h with h | h
  · exact .inl (Rd.to e h)
  · exact .inr h
theorem mpAt_to {a : Addr} {ks : List D} {vs : List V} (e : ∀ o, H a = some o → H' a = some o) (h : MpAt H a ks vs) : MpAt H' a ks vs := by
  rcases h with ⟨u, h, m⟩ | ⟨c, dx, fs, h, m⟩ | ⟨fs, h, m⟩ | ⟨lo, hi, h, m⟩
  · exact .inl ⟨u, Rd.to e h, m⟩
  · exact .inr (.inl ⟨c, dx, fs, e _ h, m⟩)
  · exact .inr (.inr (.inl ⟨fs, e _ h, m⟩))
  · exact .inr (.inr (.inr ⟨lo, hi, e _ h, m⟩))
/-- the heap beyond O is kept, O does not grow -/
theorem Dat.to (e : ∀ a o, a ∉ O → H a = some o → H' a = some o) (s : ∀ a, a ∈ O' → a ∈ O) (d : D) (v : V) (h : Dat K H O d v) : Dat K H' O' d v :=
  Dat.mono (fun a vs n q => ⟨sqL_to (fun o z => e a o n z) q, fun z => n (s a z)⟩) (fun a vs n q => ⟨sqT_to (fun o z => e a o n z) q, fun z => n (s a z)⟩) (fun a ks vs n q => ⟨mpAt_to (fun o z => e a o n z) q, fun z => n (s a z)⟩) d v h
theorem Dats.to (e : ∀ a o, a ∉ O → H a = some o → H' a = some o) (s : ∀ a, a ∈ O' → a ∈ O) (d : List D) (v : List V) (h : Dats K H O d v) : Dats K H' O' d v :=
  Dats.mono (fun a vs n q => ⟨sqL_to (fun o z => e a o n z) q, fun z => n (s a z)⟩) (fun a vs n q => ⟨sqT_to (fun o z => e a o n z) q, fun z => n (s a z)⟩) (fun a ks vs n q => ⟨mpAt_to (fun o z => e a o n z) q, fun z => n (s a z)⟩) d v h
theorem sqL_ne {a p : Addr} {vs : List V} (hp : H p = none) (hk : K.lookup p = none) (h : SqL K H a vs) : a ≠ p := by
  rintro rfl
  rcases h with (h | ⟨o, h⟩) | ⟨o, _, _, h, _⟩
  · rw [hp] at h; cases h
  · rw [hp] at h; cases h
  · rw [hk] at h; cases h
theorem sqT_ne {a p : Addr} {vs : List V} (hp : H p = none) (hk : K.lookup p = none) (h : SqT K H a vs) : a ≠ p := by
  rintro rfl
  rcases h with (h | ⟨o, h⟩) | ⟨o, _, _, h, _⟩
  · rw [hp] at h; cases h
  · rw [hp] at h; cases h
  · rw [hk] at h; cases h
theorem mpAt_ne {a p : Addr} {ks : List D} {vs : List V} (hp : H p = none) (h : MpAt H a ks vs) : a ≠ p := by
  rintro rfl
  rcases h with ⟨u, h | ⟨o, h⟩, m⟩ | ⟨c, dx, fs, h, m⟩ | ⟨fs, h, m⟩ | ⟨lo, hi, h, m⟩ <;> rw [hp] at h <;> cases h
/-- a new object p is laid, p may be owned -/
theorem Dat.new {p : Addr} {u : HO} (hp : H p = none) (hk : K.lookup p = none) (d : D) (v : V) (h : Dat K H O d v) : Dat K (upd H p u) (p :: O) d v :=
  Dat.mono (fun a vs n q => ⟨sqL_to (fun o z => by rw [upd_ne (sqL_ne hp hk q)]; exact z) q, fun z => (List.mem_cons.mp z).elim (sqL_ne hp hk q) n⟩)
    (fun a vs n q => ⟨sqT_to (fun o z => by rw [upd_ne (sqT_ne hp hk q)]; exact z) q, fun z => (List.mem_cons.mp z).elim (sqT_ne hp hk q) n⟩)
    (fun a ks vs n q => ⟨mpAt_to (fun o z => by rw [upd_ne (mpAt_ne hp q)]; exact z) q, fun z => (List.mem_cons.mp z).elim (mpAt_ne hp q) n⟩) d v h
theorem Dats.new {p : Addr} {u : HO} (hp : H p = none) (hk : K.lookup p = none) (d : List D) (v : List V) (h : Dats K H O d v) : Dats K (upd H p u) (p :: O) d v :=
  Dats.mono (fun a vs n q => ⟨sqL_to (fun o z => by rw [upd_ne (sqL_ne hp hk q)]; exact z) q, fun z => (List.mem_cons.mp z).elim (sqL_ne hp hk q) n⟩)
    (fun a vs n q => ⟨sqT_to (fun o z => by rw [upd_ne (sqT_ne hp hk q)]; exact z) q, fun z => (List.mem_cons.mp z).elim (sqT_ne hp hk q) n⟩)
    (fun a ks vs n q => ⟨mpAt_to (fun o z => by rw [upd_ne (mpAt_ne hp q)]; exact z) q, fun z => (List.mem_cons.mp z).elim (mpAt_ne hp q) n⟩) d v h

theorem Dats.length : ∀ {ds : List D} {vs : List V}, Dats K H O ds vs → ds.length = vs.length
  | [], _, h => by simp only [Dats] at h; subst h; rfl
  | d :: ds, _, h => by
    simp only [Dats] at h
    obtain ⟨v, r, rfl, _, h2⟩ := h
    simp [Dats.length h2]
theorem Dats.get : ∀ {ds : List D} {vs : List V} {i : Nat} {d : D}, Dats K H O ds vs → ds[i]? = some d → ∃ v, vs[i]? = some v ∧ Dat K H O d v
  | [], _, _, _, _, e => by simp at e
  | d :: ds, _, i, x, h, e => by
    simp only [Dats] at h
    obtain ⟨v, r, rfl, h1, h2⟩ := h
    cases i with
    | zero => simp at e; subst e; exact ⟨v, rfl, h1⟩
    | succ i => simpa using Dats.get (i := i) h2 (by simpa using e)
theorem Dats.append : ∀ {ds es : List D} {vs us : List V}, Dats K H O ds vs → Dats K H O es us → Dats K H O (ds ++ es) (vs ++ us)
  | [], es, _, us, h, g => by simp only [Dats] at h; subst h; exact g
  | d :: ds, es, _, us, h, g => by
    simp only [Dats] at h
    obtain ⟨v, r, rfl, h1, h2⟩ := h
    exact ⟨v, r ++ us, rfl, h1, Dats.append h2 g⟩
theorem Dats.one {d : D} {v : V} (h : Dat K H O d v) : Dats K H O [d] [v] := ⟨v, [], rfl, h, rfl⟩
theorem Dats.set : ∀ {ds : List D} {vs : List V} (i : Nat) {d : D} {v : V}, Dats K H O ds vs → Dat K H O d v → Dats K H O (ds.set i d) (vs.set i v)
  | [], _, _, _, _, h, _ => by simp only [Dats] at h; subst h; rfl
  | d :: ds, _, i, x, y, h, g => by
    simp only [Dats] at h
    obtain ⟨v, r, rfl, h1, h2⟩ := h
    cases i with
    | zero => exact ⟨y, r, rfl, g, h2⟩
    | succ i => exact ⟨v, r.set i y, rfl, h1, Dats.set i h2 g⟩
theorem Dats.take : ∀ {ds : List D} {vs : List V} (n : Nat), Dats K H O ds vs → Dats K H O (ds.take n) (vs.take n)
  | [], _, n, h => by simp only [Dats] at h; subst h; simp [Dats]
  | d :: ds, _, n, h => by
    simp only [Dats] at h
    obtain ⟨v, r, rfl, h1, h2⟩ := h
    cases n with
    | zero => simp [Dats]
    | succ n => exact ⟨v, r.take n, rfl, h1, Dats.take n h2⟩
theorem Dats.drop : ∀ {ds : List D} {vs : List V} (n : Nat), Dats K H O ds vs → Dats K H O (ds.drop n) (vs.drop n)
  | [], _, n, h => by simp only [Dats] at h; subst h; simp [Dats]
  | d :: ds, _, n, h => by
    simp only [Dats] at h
    obtain ⟨v, r, rfl, h1, h2⟩ := h
    cases n with
    | zero => exact ⟨v, r, rfl, h1, h2⟩
    | succ n => simpa using Dats.drop n h2
theorem Dats.reverse : ∀ {ds : List D} {vs : List V}, Dats K H O ds vs → Dats K H O ds.reverse vs.reverse
  | [], _, h => by simp only [Dats] at h; subst h; rfl
  | d :: ds, _, h => by
    simp only [Dats] at h
    obtain ⟨v, r, rfl, h1, h2⟩ := h
    rw [List.reverse_cons, List.reverse_cons]
    exact Dats.append (Dats.reverse h2) (Dats.one h1)
theorem Dats.ints : ∀ {ns : List Int} {vs : List V}, Dats K H O (ns.map PyData.int) vs → vs = ns.map V.int
  | [], _, h => by simpa [Dats] using h
  | n :: ns, _, h => by
    simp only [List.map_cons, Dats] at h
    obtain ⟨v, r, rfl, h1, h2⟩ := h
    simp only [Dat] at h1
    subst h1
    rw [Dats.ints h2]; rfl
theorem dats_ints : ∀ {ns : List Int}, Dats K H O (ns.map PyData.int) (ns.map V.int)
  | [] => rfl
  | n :: ns => ⟨_, _, rfl, rfl, dats_ints⟩
end

/-! ### values of mirrors: data, an owned list of data, or an owned tree -/
inductive Tag where
  | lst
  /-- a list whose items stand at these places -/
  | lsa (as : List Addr)
  | dic (ks : List D)
  | obj (c : Nat) (fs : List Str)
inductive W where
  | d (x : D)
  | l (xs : List D)
  | t (g : Tag) (ws : List W)
def vt : Tag → List D → D
  | .lst, xs => .list xs
  | .lsa _, xs => .list xs
  | .dic ks, xs => .dict (ks.zip xs)
  | .obj c fs, xs => .dict ((.none, .int (c : Int)) :: (fs.map PyData.str).zip xs)
mutual
def vw : W → D
  | .d x => x
  | .l xs => .list xs
  | .t g ws => vt g (vws ws)
def vws : List W → List D
  | [] => []
  | w :: ws => vw w :: vws ws
end
@[simp] theorem vw_d (x : D) : vw (.d x) = x := by simp [vw]
@[simp] theorem vw_l (xs : List D) : vw (.l xs) = .list xs := by simp [vw]
theorem vws_map : ∀ ws : List W, vws ws = ws.map vw
  | [] => by simp [vws]
  | w :: ws => by simp [vws, vws_map ws]
/-- data, or a list of data -/
def isF : W → Bool
  | .t _ _ => false
  | _ => true
/-- owned -/
def isO : W → Bool
  | .d _ => false
  | _ => true

def adr : V → List Addr
  | .ref a => [a]
  | _ => []
def hat (H : Hp) : V → Option HO
  | .ref a => H a
  | _ => none
def kids : Option HO → List V
  | some (.lst vs) => vs
  | some (.dK kvs) => kvs.map (·.2)
  | some (.dT kvs) => kvs.map (·.2)
  | some (.ins _ _ fs) => fs.map (·.2)
  | _ => []
mutual
/-- the addresses that a value owns -/
def ow (H : Hp) : W → V → List Addr
  | .d _, _ => []
  | .l _, v => adr v
  | .t _ ws, v => adr v ++ ows H ws (kids (hat H v))
def ows (H : Hp) : List W → List V → List Addr
  | [], _ => []
  | _ :: _, [] => []
  | w :: ws, v :: vs => ow H w v ++ ows H ws vs
end
/-- what kind of object stands for a node -/
inductive Shp : Tag → HO → Prop
  | lst (vs : List V) : Shp .lst (.lst vs)
  | lsa (as : List Addr) : Shp (.lsa as) (.lst (as.map V.ref))
  | dK (kvs : List (Key × V)) : Shp (.dic (kvs.map fun p => kD p.1)) (.dK kvs)
  | dT (p : List Key × V) (kvs : List (List Key × V)) : Shp (.dic ((p :: kvs).map fun p => .tuple (p.1.map kD))) (.dT (p :: kvs))
  | obj (c dx : Nat) (fs : List (Str × V)) : Shp (.obj c (fs.map (·.1))) (.ins c dx fs)
mutual
def RW (K : KK) (H : Hp) (O : List Addr) : V → W → Prop
  | v, .d x => Dat K H O x v
  | v, .l xs => ∃ a vs, v = .ref a ∧ H a = some (.lst vs) ∧ Dats K H O xs vs
  | v, .t g ws => ∃ a u, v = .ref a ∧ H a = some u ∧ Shp g u ∧ RWs K H O (kids (some u)) ws
def RWs (K : KK) (H : Hp) (O : List Addr) : List V → List W → Prop
  | vs, [] => vs = []
  | vs, w :: ws => ∃ v r, vs = v :: r ∧ RW K H O v w ∧ RWs K H O r ws
end
abbrev owned (H : Hp) (L : List (V × W)) : List Addr := L.flatMap fun p => ow H p.2 p.1
structure Rels (K : KK) (H : Hp) (L : List (V × W)) : Prop where
  nd : (owned H L).Nodup
  at_ : ∀ p ∈ L, RW K H (owned H L) p.1 p.2

section
variable {K : KK} {H H' : Hp} {O O' : List Addr} {L L' T : List (V × W)}
mutual
theorem ow_congr : ∀ (w : W) (v : V), (∀ a ∈ ow H w v, H' a = H a) → ow H' w v = ow H w v
  | .d _, _, _ => by simp [ow]
  | .l _, _, _ => by simp [ow]
  | .t g ws, v, h => by
    simp only [ow, List.mem_append] at h ⊢
    have e : hat H' v = hat H v := by
      cases v with
      | ref a => exact h a (.inl (by simp [adr]))
      | _ => rfl
    rw [e, ows_congr ws (kids (hat H v)) fun a ha => h a (.inr ha)]
theorem ows_congr : ∀ (ws : List W) (vs : List V), (∀ a ∈ ows H ws vs, H' a = H a) → ows H' ws vs = ows H ws vs
  | [], _, _ => by simp [ows]
  | _ :: _, [], _ => by simp [ows]
  | w :: ws, v :: vs, h => by
    simp only [ows, List.mem_append] at h ⊢
    rw [ow_congr w v fun a ha => h a (.inl ha), ows_congr ws vs fun a ha => h a (.inr ha)]
end
mutual
theorem RW.to (e : ∀ a o, a ∉ O → H a = some o → H' a = some o) (s : ∀ a, a ∈ O' → a ∈ O) : ∀ (w : W) (v : V), (∀ a ∈ ow H w v, H' a = H a) → RW K H O v w → RW K H' O' v w
  | .d x, v, _, h => by
    simp only [RW] at h ⊢
    exact Dat.to e s x v h
  | .l xs, v, k, h => by
    simp only [RW] at h ⊢
    obtain ⟨a, vs, rfl, h1, h2⟩ := h
    exact ⟨a, vs, rfl, by rw [k a (by simp [ow, adr])]; exact h1, Dats.to e s xs vs h2⟩
  | .t g ws, v, k, h => by
    simp only [RW] at h ⊢
    obtain ⟨a, u, rfl, h1, h2, h3⟩ := h
    refine ⟨a, u, rfl, by rw [k a (by simp [ow, adr])]; exact h1, h2, RWs.to e s ws _ (fun b hb => k b ?_) h3⟩
    simp only [ow, hat, h1, List.mem_append]
    exact .inr hb
theorem RWs.to (e : ∀ a o, a ∉ O → H a = some o → H' a = some o) (s : ∀ a, a ∈ O' → a ∈ O) : ∀ (ws : List W) (vs : List V), (∀ a ∈ ows H ws vs, H' a = H a) → RWs K H O vs ws → RWs K H' O' vs ws
  | [], _, _, h => by simpa [RWs] using h
  | w :: ws, vs, k, h => by
    simp only [RWs] at h ⊢
    obtain ⟨v, r, rfl, h1, h2⟩ := h
    simp only [ows, List.mem_append] at k
    exact ⟨v, r, rfl, RW.to e s w v (fun a ha => k a (.inl ha)) h1, RWs.to e s ws r (fun a ha => k a (.inr ha)) h2⟩
end
/-- an owned address is that of a list, a dict, an instance -/
def Mu : HO → Prop
  | .lst _ => True
  | .dK _ => True
  | .dT _ => True
  | .ins _ _ _ => True
  | _ => False
theorem Shp.mu {g : Tag} {u : HO} (h : Shp g u) : Mu u := by cases h <;> trivial
mutual
theorem RW.has : ∀ (w : W) (v : V), RW K H O v w → ∀ a ∈ ow H w v, ∃ u, H a = some u ∧ Mu u
  | .d x, v, _, a, ha => by simp [ow] at ha
  | .l xs, v, h, a, ha => by
    simp only [RW] at h
    obtain ⟨b, vs, rfl, h1, _⟩ := h
    simp only [ow, adr, List.mem_singleton] at ha
    subst ha
    exact ⟨_, h1, trivial⟩
  | .t g ws, v, h, a, ha => by
    simp only [RW] at h
    obtain ⟨b, u, rfl, h1, h2, h3⟩ := h
    simp only [ow, adr, hat, h1, List.mem_append, List.mem_singleton] at ha
    rcases ha with rfl | ha
    · exact ⟨u, h1, h2.mu⟩
    · exact RWs.has ws _ h3 a ha
theorem RWs.has : ∀ (ws : List W) (vs : List V), RWs K H O vs ws → ∀ a ∈ ows H ws vs, ∃ u, H a = some u ∧ Mu u
  | [], _, _, a, ha => by simp [ows] at ha
  | w :: ws, vs, h, a, ha => by
    simp only [RWs] at h
    obtain ⟨v, r, rfl, h1, h2⟩ := h
    simp only [ows, List.mem_append] at ha
    rcases ha with ha | ha
    · exact RW.has w v h1 a ha
    · exact RWs.has ws r h2 a ha
end
theorem RWs.length : ∀ {ws : List W} {vs : List V}, RWs K H O vs ws → ws.length = vs.length
  | [], vs, h => by simp only [RWs] at h; subst h; rfl
  | w :: ws, vs, h => by
    simp only [RWs] at h
    obtain ⟨v, r, rfl, _, h2⟩ := h
    simp [RWs.length h2]
mutual
theorem RW.fz (s : ∀ a, a ∈ O' → a ∈ O) : ∀ (w : W) (v : V), (∀ a ∈ ow H w v, a ∉ O') → RW K H O v w → Dat K H O' (vw w) v
  | .d x, v, _, h => by
    simp only [RW] at h
    rw [vw_d]
    exact Dat.to (fun _ _ _ z => z) s x v h
  | .l xs, v, n, h => by
    simp only [RW] at h
    obtain ⟨a, vs, rfl, h1, h2⟩ := h
    rw [vw_l]
    simp only [Dat]
    exact ⟨a, vs, rfl, SqL.of h1, n a (by simp [ow, adr]), Dats.to (fun _ _ _ z => z) s xs vs h2⟩
  | .t g ws, v, n, h => by
    simp only [RW] at h
    obtain ⟨a, u, rfl, h1, h2, h3⟩ := h
    have hn : a ∉ O' := n a (by simp [ow, adr])
    have hd := RWs.fz s ws _ (fun b hb => n b (by simp only [ow, hat, h1, List.mem_append]; exact .inr hb)) h3
    have hl := h3.length
    simp only [vw]
    cases h2 with
    | lst vs =>
      simp only [vt, Dat]
      exact ⟨a, vs, rfl, SqL.of h1, hn, hd.1⟩
    | lsa as =>
      simp only [vt, Dat]
      exact ⟨a, _, rfl, SqL.of h1, hn, hd.1⟩
    | dK kvs =>
      simp only [vt, Dat]
      have hl2 : (kvs.map fun p => kD p.1).length = (vws ws).length := by
        rw [vws_map, List.length_map, List.length_map, hl]; simp [kids]
      exact ⟨a, _, rfl, .inl ⟨_, Rd.of h1, by rw [List.map_fst_zip (by omega)]; exact .dK kvs⟩, hn, hd.2 _ hl2⟩
    | dT p kvs =>
      simp only [vt, Dat]
      have hl2 : ((p :: kvs).map fun p => PyData.tuple (p.1.map kD)).length = (vws ws).length := by
        rw [vws_map, List.length_map, List.length_map, hl]; simp [kids]
      exact ⟨a, _, rfl, .inl ⟨_, Rd.of h1, by rw [List.map_fst_zip (by omega)]; exact .dT p kvs⟩, hn, hd.2 _ hl2⟩
    | obj c dx fs =>
      simp only [vt, Dat]
      have hl2 : ((fs.map (·.1)).map PyData.str).length = (vws ws).length := by
        rw [vws_map, List.length_map, List.length_map, List.length_map, hl]; simp [kids]
      refine ⟨a, _, rfl, .inr (.inl ⟨c, dx, fs, h1, ?_, rfl⟩), hn, ?_⟩
      · rw [List.map_cons, List.map_fst_zip (by omega), List.map_map]; rfl
      · exact ⟨_, _, rfl, rfl, hd.2 _ hl2⟩
theorem RWs.fz (s : ∀ a, a ∈ O' → a ∈ O) : ∀ (ws : List W) (vs : List V), (∀ a ∈ ows H ws vs, a ∉ O') → RWs K H O vs ws → Dats K H O' (vws ws) vs ∧ ∀ ks : List D, ks.length = (vws ws).length → Datk K H O' (ks.zip (vws ws)) vs
  | [], vs, _, h => by
    simp only [RWs] at h
    subst h
    simp only [vws, Dats]
    exact ⟨trivial, fun ks _ => by simp [Datk]⟩
  | w :: ws, vs, n, h => by
    simp only [RWs] at h
    obtain ⟨v, r, rfl, h1, h2⟩ := h
    simp only [ows, List.mem_append] at n
    have a := RW.fz s w v (fun a ha => n a (.inl ha)) h1
    have b := RWs.fz s ws r (fun a ha => n a (.inr ha)) h2
    simp only [vws]
    refine ⟨⟨v, r, rfl, a, b.1⟩, fun ks hk => ?_⟩
    cases ks with
    | nil => simp at hk
    | cons k ks => exact ⟨v, r, rfl, a, b.2 ks (by simpa using hk)⟩
end
theorem ownedP (H : Hp) (p : L.Perm L') : (owned H L).Perm (owned H L') := List.Perm.flatMap_right _ p
theorem ownedM (H : Hp) (p : L.Perm L') {a : Addr} : a ∈ owned H L ↔ a ∈ owned H L' := (ownedP H p).mem_iff
theorem ownedS (H : Hp) : ∀ {L L' : List (V × W)}, L'.Sublist L → (owned H L').Sublist (owned H L)
  | _, _, .slnil => List.Sublist.refl _
  | _, _, .cons a h => by
    unfold owned
    rw [List.flatMap_cons]
    exact (ownedS H h).trans (List.sublist_append_right _ _)
  | _, _, .cons_cons a h => by
    unfold owned
    rw [List.flatMap_cons, List.flatMap_cons]
    exact List.Sublist.append_left (ownedS H h) _
theorem mem_owned {a : Addr} : a ∈ owned H L ↔ ∃ p ∈ L, a ∈ ow H p.2 p.1 := List.mem_flatMap
theorem owned_congr (k : ∀ a ∈ owned H L, H' a = H a) : owned H' L = owned H L := by
  unfold owned
  induction L with
  | nil => rfl
  | cons p L ih =>
    rw [List.flatMap_cons, List.flatMap_cons]
    have k' : ∀ a ∈ ow H p.2 p.1 ++ owned H L, H' a = H a := k
    rw [ow_congr p.2 p.1 fun a ha => k' a (List.mem_append_left _ ha)]
    rw [ih fun a ha => k' a (List.mem_append_right _ ha)]
theorem owned_d {v : V} {d : D} : owned H ((v, W.d d) :: L) = owned H L := by
  unfold owned
  rw [List.flatMap_cons]
  simp [ow]
theorem owned_l {a : Addr} {xs : List D} : owned H ((V.ref a, W.l xs) :: L) = a :: owned H L := by
  unfold owned
  rw [List.flatMap_cons]
  simp [ow, adr]
theorem owned_c {p : V × W} : owned H (p :: L) = ow H p.2 p.1 ++ owned H L := by
  unfold owned
  rw [List.flatMap_cons]
theorem owned_app {A B : List (V × W)} : owned H (A ++ B) = owned H A ++ owned H B := List.flatMap_append
theorem Rels.has (h : Rels K H L) {a : Addr} (ha : a ∈ owned H L) : ∃ u, H a = some u ∧ Mu u := by
  obtain ⟨p, hp, hq⟩ := mem_owned.mp ha
  exact RW.has p.2 p.1 (h.at_ p hp) a hq
theorem Rels.perm (h : Rels K H L) (p : L.Perm L') : Rels K H L' := by
  refine ⟨((ownedP H p).nodup_iff).mp h.nd, fun q hq => ?_⟩
  exact RW.to (fun _ _ _ z => z) (fun a z => (ownedM H p).mpr z) q.2 q.1 (fun _ _ => rfl) (h.at_ q (p.mem_iff.mpr hq))
theorem Rels.sub (h : Rels K H L) (p : L'.Sublist L) : Rels K H L' := by
  refine ⟨h.nd.sublist (ownedS H p), fun q hq => ?_⟩
  exact RW.to (fun _ _ _ z => z) (fun a z => (ownedS H p).mem z) q.2 q.1 (fun _ _ => rfl) (h.at_ q (p.mem hq))
theorem Rels.tail {p : V × W} (h : Rels K H (p :: L)) : Rels K H L := h.sub (List.sublist_cons_self _ _)
/-- a further datum is held -/
theorem Rels.data {v : V} {d : D} (h : Rels K H L) (q : Dat K H (owned H L) d v) : Rels K H ((v, .d d) :: L) := by
  refine ⟨by rw [owned_d]; exact h.nd, fun p hp => ?_⟩
  rw [owned_d]
  rcases List.mem_cons.mp hp with rfl | hp
  · simpa only [RW] using q
  · exact h.at_ p hp
/-- all that is tracked is kept -/
theorem Rels.ext (h : Rels K H L) (e : ∀ a o, H a = some o → H' a = some o) : Rels K H' L := by
  have k : ∀ a ∈ owned H L, H' a = H a := fun a ha => by
    obtain ⟨u, hu, _⟩ := h.has ha
    rw [hu, e a u hu]
  have eo := owned_congr k
  refine ⟨by rw [eo]; exact h.nd, fun p hp => ?_⟩
  rw [eo]
  exact RW.to (fun a o _ z => e a o z) (fun _ z => z) p.2 p.1 (fun a ha => k a (mem_owned.mpr ⟨p, hp, ha⟩)) (h.at_ p hp)
theorem Rels.ext_owned (h : Rels K H L) (e : ∀ a o, H a = some o → H' a = some o) : owned H' L = owned H L :=
  owned_congr fun a ha => by
    obtain ⟨u, hu, _⟩ := h.has ha
    rw [hu, e a u hu]
/-- a new object that is not owned is laid -/
theorem Rels.laid {p : Addr} {u : HO} (h : Rels K H L) (hp : H p = none) : Rels K (upd H p u) L :=
  h.ext fun a o z => by rw [upd_ne (ne_of_none z hp)]; exact z
theorem Rels.laid_owned {p : Addr} {u : HO} (h : Rels K H L) (hp : H p = none) : owned (upd H p u) L = owned H L :=
  h.ext_owned fun a o z => by rw [upd_ne (ne_of_none z hp)]; exact z
theorem Rels.fresh {p : Addr} (h : Rels K H L) (hp : H p = none) : p ∉ owned H L := fun z => by
  obtain ⟨u, hu, _⟩ := h.has z
  rw [hp] at hu; cases hu
theorem Rels.newTup {p : Addr} {ds : List D} {vs : List V} (h : Rels K H L) (hp : H p = none) (hk : K.lookup p = none) (q : Dats K H (owned H L) ds vs) : Rels K (upd H p (.tup vs)) ((.ref p, .d (.tuple ds)) :: L) := by
  refine (h.laid hp).data ?_
  rw [h.laid_owned hp]
  simp only [Dat]
  exact ⟨p, vs, rfl, SqT.of upd_same, h.fresh hp, Dats.to (fun a o _ z => by rw [upd_ne (ne_of_none z hp)]; exact z) (fun _ z => z) ds vs q⟩
mutual
theorem RW.new {p : Addr} {u : HO} (hp : H p = none) (hk : K.lookup p = none) : ∀ (w : W) (v : V), RW K H O v w → RW K (upd H p u) (p :: O) v w
  | .d x, v, h => by simp only [RW] at h ⊢; exact Dat.new hp hk x v h
  | .l xs, v, h => by
    simp only [RW] at h ⊢
    obtain ⟨a, us, rfl, h1, h2⟩ := h
    exact ⟨a, us, rfl, by rw [upd_ne (ne_of_none h1 hp)]; exact h1, Dats.new hp hk xs us h2⟩
  | .t g ws, v, h => by
    simp only [RW] at h ⊢
    obtain ⟨a, u', rfl, h1, h2, h3⟩ := h
    exact ⟨a, u', rfl, by rw [upd_ne (ne_of_none h1 hp)]; exact h1, h2, RWs.new hp hk ws _ h3⟩
theorem RWs.new {p : Addr} {u : HO} (hp : H p = none) (hk : K.lookup p = none) : ∀ (ws : List W) (vs : List V), RWs K H O vs ws → RWs K (upd H p u) (p :: O) vs ws
  | [], _, h => by simpa only [RWs] using h
  | w :: ws, vs, h => by
    simp only [RWs] at h ⊢
    obtain ⟨v, r, rfl, h1, h2⟩ := h
    exact ⟨v, r, rfl, RW.new hp hk w v h1, RWs.new hp hk ws r h2⟩
end
/-- a new tree is owned -/
theorem Rels.newT {p : Addr} {u : HO} {w : W} (h : Rels K H L) (hp : H p = none) (ho : ow (upd H p u) w (.ref p) = [p]) (q : RW K (upd H p u) (p :: owned H L) (.ref p) w) (hk : K.lookup p = none) : Rels K (upd H p u) ((.ref p, w) :: L) := by
  have np := h.fresh hp
  have eo : owned (upd H p u) ((.ref p, w) :: L) = p :: owned H L := by
    rw [owned_c, h.laid_owned hp]
    show ow (upd H p u) w (.ref p) ++ owned H L = _
    rw [ho]; rfl
  refine ⟨by rw [eo]; exact List.nodup_cons.mpr ⟨np, h.nd⟩, fun x hx => ?_⟩
  rw [eo]
  rcases List.mem_cons.mp hx with rfl | hx
  · exact q
  · have g := h.at_ _ hx
    exact RW.new hp hk x.2 x.1 g
theorem Rels.newOwn {p : Addr} {ds : List D} {vs : List V} (h : Rels K H L) (hp : H p = none) (hk : K.lookup p = none) (q : Dats K H (owned H L) ds vs) : Rels K (upd H p (.lst vs)) ((.ref p, .l ds) :: L) := by
  refine h.newT hp (by simp [ow, adr]) ?_ hk
  simp only [RW]
  exact ⟨p, vs, rfl, upd_same, Dats.new hp hk ds vs q⟩
/-- an owned node is written: its own address alone -/
theorem Rels.put {a : Addr} {u : HO} {v : V} {w w' : W} (h : Rels K H ((v, w) :: L)) (ha : a ∈ ow H w v) (eo : ow (upd H a u) w' v = ow H w v) (q : RW K (upd H a u) (owned H ((v, w) :: L)) v w') : Rels K (upd H a u) ((v, w') :: L) := by
  have nd := h.nd
  rw [owned_c] at nd
  have na : a ∉ owned H L := fun z => (List.nodup_append.mp nd).2.2 a ha a z rfl
  have eL : owned (upd H a u) L = owned H L := owned_congr fun b hb => upd_ne (by rintro rfl; exact na hb)
  have eo2 : owned (upd H a u) ((v, w') :: L) = owned H ((v, w) :: L) := by
    rw [owned_c, owned_c, eL]
    show ow (upd H a u) w' v ++ _ = ow H w v ++ _
    rw [eo]
  have haO : a ∈ owned H ((v, w) :: L) := by rw [owned_c]; exact List.mem_append_left _ ha
  refine ⟨by rw [eo2, owned_c]; exact nd, fun x hx => ?_⟩
  rw [eo2]
  rcases List.mem_cons.mp hx with rfl | hx
  · exact q
  · refine RW.to (fun b o n z => ?_) (fun _ z => z) x.2 x.1 (fun b hb => ?_) (h.at_ x (List.mem_cons_of_mem _ hx))
    · have : b ≠ a := by rintro rfl; exact n haO
      rw [upd_ne this]; exact z
    · have : b ≠ a := by rintro rfl; exact na (mem_owned.mpr ⟨x, hx, hb⟩)
      exact upd_ne this
/-- an owned list is written -/
theorem Rels.write {a : Addr} {xs ys : List D} {us : List V} (h : Rels K H ((.ref a, .l xs) :: L)) (q : Dats K H (owned H ((.ref a, .l xs) :: L)) ys us) : Rels K (upd H a (.lst us)) ((.ref a, .l ys) :: L) := by
  refine h.put (by simp [ow, adr]) (by simp [ow]) ?_
  simp only [RW]
  refine ⟨a, us, rfl, upd_same, Dats.to (fun b o n z => ?_) (fun _ z => z) ys us q⟩
  rw [upd_ne]
  · exact z
  · rintro rfl
    exact n (by rw [owned_l]; exact List.mem_cons_self)
/-- what is owned is frozen -/
theorem Rels.fz {v : V} {w : W} (h : Rels K H ((v, w) :: L)) : Rels K H ((v, .d (vw w)) :: L) := by
  refine h.tail.data ?_
  have nd := h.nd
  rw [owned_c] at nd
  refine RW.fz (fun a z => ?_) w v (fun a ha z => ?_) (h.at_ _ List.mem_cons_self)
  · rw [owned_c]; exact List.mem_append_right _ z
  · exact (List.nodup_append.mp nd).2.2 a ha a z rfl
theorem Rels.freeze {v : V} {xs : List D} (h : Rels K H ((v, .l xs) :: L)) : Rels K H ((v, .d (.list xs)) :: L) := by
  have := h.fz
  rwa [vw_l] at this

/-- v is held with the view d: data, or an owned list of data -/
def Vw (L : List (V × W)) (v : V) (d : D) : Prop := ∃ w, (v, w) ∈ L ∧ isF w = true ∧ vw w = d
theorem Vw.cons {p : V × W} {v : V} {d : D} (h : Vw L v d) : Vw (p :: L) v d := let ⟨w, a, b⟩ := h; ⟨w, List.mem_cons_of_mem _ a, b⟩
theorem Vw.sub {v : V} {d : D} (h : Vw L v d) (s : ∀ p ∈ L, p ∈ L') : Vw L' v d := let ⟨w, a, b⟩ := h; ⟨w, s _ a, b⟩
/-- what a view tells: data, or an owned list -/
theorem Vw.cases {v : V} {d : D} (h : Rels K H L) (q : Vw L v d) : Dat K H (owned H L) d v ∨ ∃ a vs xs, d = .list xs ∧ v = .ref a ∧ H a = some (.lst vs) ∧ Dats K H (owned H L) xs vs := by
  obtain ⟨w, hm, hf, e⟩ := q
  have g := h.at_ _ hm
  cases w with
  | d x =>
    rw [vw_d] at e
    subst e
    simp only [RW] at g
    exact .inl g
  | l xs =>
    rw [vw_l] at e
    simp only [RW] at g
    obtain ⟨a, vs, e1, h1, h2⟩ := g
    exact .inr ⟨a, vs, xs, e.symm, e1, h1, h2⟩
  | t g ws => cases hf
theorem Vw.int {v : V} {i : Int} (h : Rels K H L) (q : Vw L v (.int i)) : v = .int i := by
  rcases q.cases h with g | ⟨_, _, _, e, _⟩
  · simpa only [Dat] using g
  · cases e
theorem Vw.bool {v : V} {i : Bool} (h : Rels K H L) (q : Vw L v (.bool i)) : v = .bl i := by
  rcases q.cases h with g | ⟨_, _, _, e, _⟩
  · simpa only [Dat] using g
  · cases e
theorem Vw.str {v : V} {i : Str} (h : Rels K H L) (q : Vw L v (.str i)) : v = .str i := by
  rcases q.cases h with g | ⟨_, _, _, e, _⟩
  · simpa only [Dat] using g
  · cases e
theorem Vw.none {v : V} (h : Rels K H L) (q : Vw L v .none) : v = .non := by
  rcases q.cases h with g | ⟨_, _, _, e, _⟩
  · simpa only [Dat] using g
  · cases e
theorem Vw.list {v : V} {ds : List D} (h : Rels K H L) (q : Vw L v (.list ds)) : ∃ a vs, v = .ref a ∧ SqL K H a vs ∧ Dats K H (owned H L) ds vs := by
  rcases q.cases h with g | ⟨a, vs, xs, e, e1, h1, h2⟩
  · simp only [Dat] at g
    obtain ⟨a, vs, e, h1, _, h2⟩ := g
    exact ⟨a, vs, e, h1, h2⟩
  · cases e
    exact ⟨a, vs, e1, SqL.of h1, h2⟩
theorem Vw.tuple {v : V} {ds : List D} (h : Rels K H L) (q : Vw L v (.tuple ds)) : ∃ a vs, v = .ref a ∧ SqT K H a vs ∧ a ∉ owned H L ∧ Dats K H (owned H L) ds vs := by
  rcases q.cases h with g | ⟨_, _, _, e, _⟩
  · simpa only [Dat] using g
  · cases e
theorem Vw.dict {v : V} {ds : List (D × D)} (h : Rels K H L) (q : Vw L v (.dict ds)) : ∃ a vs, v = .ref a ∧ MpAt H a (ds.map (·.1)) vs ∧ a ∉ owned H L ∧ Datk K H (owned H L) ds vs := by
  rcases q.cases h with g | ⟨_, _, _, e, _⟩
  · simpa only [Dat] using g
  · cases e
theorem Rels.dat {v : V} {d : D} (h : Rels K H ((v, .d d) :: L)) : Dat K H (owned H L) d v := by
  have := h.at_ _ List.mem_cons_self
  rw [owned_d] at this
  simpa only [RW] using this
theorem Rels.lst {v : V} {xs : List D} (h : Rels K H ((v, .l xs) :: L)) : ∃ a vs, v = .ref a ∧ H a = some (.lst vs) ∧ Dats K H (owned H ((v, .l xs) :: L)) xs vs := by
  have := h.at_ _ List.mem_cons_self
  simpa only [RW] using this
mutual
/-- no dict within -/
def noD : D → Bool
  | .list ds => noDs ds
  | .tuple ds => noDs ds
  | .dict _ => false
  | _ => true
def noDs : List D → Bool
  | [] => true
  | d :: ds => noD d && noDs ds
end
mutual
theorem Dat.dp : ∀ (d : D) (v : V), noD d = true → Dat K H O d v → Dp K H v d
  | .none, _, _, h => by simp only [Dat] at h; subst h; exact .non
  | .bool _, _, _, h => by simp only [Dat] at h; subst h; exact .bl _
  | .int _, _, _, h => by simp only [Dat] at h; subst h; exact .int _
  | .str _, _, _, h => by simp only [Dat] at h; subst h; exact .str _
  | .list ds, v, n, h => by
    simp only [Dat] at h
    obtain ⟨a, vs, rfl, h1, h2, h3⟩ := h
    exact .lst h1 (Dats.dp ds vs (by simpa only [noD] using n) h3)
  | .tuple ds, v, n, h => by
    simp only [Dat] at h
    obtain ⟨a, vs, rfl, h1, h2, h3⟩ := h
    exact .tup h1 (Dats.dp ds vs (by simpa only [noD] using n) h3)
  | .dict _, _, n, h => by simp [noD] at n
theorem Dats.dp : ∀ (ds : List D) (vs : List V), noDs ds = true → Dats K H O ds vs → DpAll K H vs ds
  | [], _, _, h => by simp only [Dats] at h; subst h; exact .nil
  | d :: ds, _, n, h => by
    simp only [Dats] at h
    obtain ⟨v, r, rfl, h1, h2⟩ := h
    simp only [noDs, Bool.and_eq_true] at n
    exact .cons (Dat.dp d v n.1 h1) (Dats.dp ds r n.2 h2)
end
theorem Vw.dp {v : V} {d : D} (h : Rels K H L) (q : Vw L v d) (n : noD d = true) : Dp K H v d := by
  rcases q.cases h with g | ⟨a, vs, xs, rfl, rfl, h1, h2⟩
  · exact Dat.dp d v n g
  · exact .lst (SqL.of h1) (Dats.dp xs vs (by simpa only [noD] using n) h2)
end
end Mi
set_option Elab.async false
set_option linter.all false
set_option maxRecDepth 100000
set_option maxHeartbeats 4000000
/-! Mi2: frames of mirrors, readings of mirrors, expressions -/
namespace Mi
open PySem PySem.Spec PyProof.Rows L2

abbrev Env := List (Option W)
/-- an exception: its class's name, its fields -/
structure Exn where
  cls : Str
  fs : List (Str × D)
inductive Res (α : Type) where
  | ok (a : α) (e : Env)
  | ex (x : Exn) (e : Env)
  | no
def bnd {α β : Type} : Res α → (α → Env → Res β) → Res β
  | .ok a e, f => f a e
  | .ex x e, _ => .ex x e
  | .no, _ => .no
@[simp] theorem bnd_ok {α β : Type} (a : α) (e : Env) (f : α → Env → Res β) : bnd (.ok a e) f = f a e := rfl
@[simp] theorem bnd_no {α β : Type} (f : α → Env → Res β) : bnd (.no : Res α) f = .no := rfl
@[simp] theorem bnd_ex {α β : Type} (x : Exn) (e : Env) (f : α → Env → Res β) : bnd (.ex x e : Res α) f = .ex x e := rfl
theorem bnd_eq_ok {α β : Type} {r : Res α} {f : α → Env → Res β} {b : β} {e : Env} (h : bnd r f = .ok b e) : ∃ a e1, r = .ok a e1 ∧ f a e1 = .ok b e := by
  cases r with
  | ok a e1 => exact ⟨a, e1, rfl, h⟩
  | ex x e1 => cases h
  | no => cases h
def ofO {α : Type} : Option α → Env → Res α
  | some a, e => .ok a e
  | none, _ => .no
@[simp] theorem ofO_some {α : Type} (a : α) (e : Env) : ofO (some a) e = .ok a e := rfl
@[simp] theorem ofO_none {α : Type} (e : Env) : ofO (none : Option α) e = .no := rfl
theorem ofO_eq_ok {α : Type} {o : Option α} {e e' : Env} {a : α} (h : ofO o e = .ok a e') : o = some a ∧ e' = e := by
  cases o with
  | none => cases h
  | some b => cases h; exact ⟨rfl, rfl⟩

abbrev ME := Env → Res W
abbrev MT := Env → Res Bool

def pc : Option V → Option W → List (V × W)
  | some v, some x => [(v, x)]
  | _, _ => []
def pr : L2.St → Env → List (V × W)
  | s :: σ, w :: e => pc s w ++ pr σ e
  | _, _ => []
theorem pr_mem : ∀ {σ : L2.St} {env : Env} {i : Nat} {v : V} {w : W}, σ[i]? = some (some v) → env.getD i none = some w → (v, w) ∈ pr σ env
  | [], _, _, _, _, h, _ => by simp at h
  | _ :: _, [], _, _, _, _, h => by simp at h
  | s :: σ, x :: e, 0, v, w, h, g => by
    simp at h g
    subst h g
    simp [pr, pc]
  | s :: σ, x :: e, i + 1, v, w, h, g => by
    simp at h g
    exact List.mem_append_right _ (pr_mem (i := i) h (by simpa using g))
theorem pr_set : ∀ {σ : L2.St} {env : Env} {i : Nat}, i < σ.length → σ.length = env.length → ∃ A B, pr σ env = A ++ (pc (σ.getD i none) (env.getD i none) ++ B) ∧ ∀ s x, pr (σ.set i s) (env.set i x) = A ++ (pc s x ++ B)
  | [], _, _, h, _ => by simp at h
  | _ :: _, [], _, _, h => by simp at h
  | s :: σ, x :: e, 0, _, _ => ⟨[], pr σ e, by simp [pr], fun s x => by simp [pr]⟩
  | s :: σ, x :: e, i + 1, h, g => by
    obtain ⟨A, B, h1, h2⟩ := pr_set (σ := σ) (env := e) (i := i) (by simpa using h) (by simpa using g)
    refine ⟨pc s x ++ A, B, ?_, fun s' x' => ?_⟩
    · simp [pr, h1]
    · simp [pr, h2]

/-- the state: what the slots and the held values bear -/
structure SR (K : KK) (P : List Nat) (p0 : L2.St) (T : List (V × W)) (σ : L2.St) (env : Env) (H : Hp) : Prop where
  rels : Rels K H (pr σ env ++ T)
  len : σ.length = env.length
  len0 : p0.length = σ.length
  cov : ∀ i w, env.getD i none = some w → ∃ v, σ[i]? = some (some v)
  par : ∀ i ∈ P, σ[i]? = p0[i]? ∧ ∃ w, env.getD i none = some w ∧ isO w = true

section
variable {K : KK} {P : List Nat} {p0 : L2.St} {T T' : List (V × W)} {σ : L2.St} {env env' : Env} {H H' : Hp}
theorem SR.push {v : V} {w : W} (h : SR K P p0 T σ env H) (r : Rels K H' ((v, w) :: (pr σ env ++ T))) : SR K P p0 ((v, w) :: T) σ env H' :=
  ⟨r.perm List.perm_middle.symm, h.len, h.len0, h.cov, h.par⟩
theorem SR.top {p : V × W} (h : SR K P p0 (p :: T) σ env H) : Rels K H (p :: (pr σ env ++ T)) := h.rels.perm List.perm_middle
theorem SR.re (h : SR K P p0 T σ env H) (r : Rels K H' (pr σ env ++ T')) : SR K P p0 T' σ env H' := ⟨r, h.len, h.len0, h.cov, h.par⟩
theorem SR.drop {p : V × W} (h : SR K P p0 (p :: T) σ env H) : SR K P p0 T σ env H := h.re h.top.tail
theorem SR.sub (h : SR K P p0 T σ env H) (s : T'.Sublist T) : SR K P p0 T' σ env H := h.re (h.rels.sub (List.Sublist.append_left s _))
theorem SR.fz {v : V} {w : W} (h : SR K P p0 ((v, w) :: T) σ env H) : SR K P p0 ((v, .d (vw w)) :: T) σ env H := SR.push h.drop h.top.fz
theorem SR.lt (h : SR K P p0 T σ env H) {i : Nat} {w : W} (e : env.getD i none = some w) : i < σ.length := by
  rw [h.len]
  by_cases hi : i < env.length
  · exact hi
  · rw [List.getD_eq_getElem?_getD, List.getElem?_eq_none (by omega)] at e
    cases e
theorem SR.dat {v : V} {d : D} (h : SR K P p0 ((v, .d d) :: T) σ env H) : Dat K H (owned H (pr σ env ++ T)) d v := h.top.dat
theorem SR.int {v : V} {i : Int} (h : SR K P p0 ((v, .d (.int i)) :: T) σ env H) : v = .int i := by simpa only [Dat] using h.dat
theorem SR.lst {v : V} {xs : List D} (h : SR K P p0 ((v, .l xs) :: T) σ env H) : ∃ a vs, v = .ref a ∧ H a = some (.lst vs) ∧ Dats K H (owned H ((v, .l xs) :: (pr σ env ++ T))) xs vs := h.top.lst
end
theorem set_getD {env : Env} {i j : Nat} {x : Option W} : (env.set i x).getD j none = if i = j ∧ i < env.length then x else env.getD j none := by
  simp only [List.getD_eq_getElem?_getD, List.getElem?_set]
  by_cases h : i = j
  · subst h
    by_cases g : i < env.length
    · simp [g]
    · simp [g]
  · simp [h]

section
variable {K : KK} {P : List Nat} {p0 : L2.St} {T T' : List (V × W)} {σ : L2.St} {env env' : Env} {H H' : Hp}
/-- the slot's content is another one; the address (σ) stays -/
theorem SR.slot (h : SR K P p0 T σ env H) {i : Nat} {v : V} {w w' : W} (hv : σ[i]? = some (some v)) (hw : env.getD i none = some w) (hP : i ∈ P → isO w' = true)
    (r : ∀ L, (pr σ env ++ T).Perm ((v, w) :: L) → Rels K H ((v, w) :: L) → Rels K H' ((v, w') :: L)) : SR K P p0 T σ (env.set i (some w')) H' := by
  have hi := h.lt hw
  obtain ⟨A, B, h1, h2⟩ := pr_set hi h.len
  have hs : σ.getD i none = some v := by rw [List.getD_eq_getElem?_getD, hv]; rfl
  have e2 : σ.set i (some v) = σ := by
    apply List.ext_getElem?
    intro j
    rw [List.getElem?_set]
    by_cases hj : i = j
    · subst hj; rw [if_pos rfl, if_pos hi, hv]
    · rw [if_neg hj]
  have h3 := h2 (some v) (some w')
  rw [e2] at h3
  rw [hs, hw] at h1
  have q := h.rels
  rw [h1] at q
  refine ⟨?_, by rw [List.length_set]; exact h.len, h.len0, fun j x e => ?_, fun j hj => ?_⟩
  · rw [h3]
    have q1 : Rels K H ((v, w) :: (A ++ B ++ T)) := q.perm (by
      simp only [pc, List.append_assoc, List.singleton_append]
      exact List.perm_middle)
    refine (r _ ?_ q1).perm ?_
    · rw [h1]
      simp only [pc, List.append_assoc, List.singleton_append]
      exact List.perm_middle
    simp only [pc, List.append_assoc, List.singleton_append]
    exact List.perm_middle.symm
  · rw [set_getD] at e
    split at e
    · rename_i z
      rw [← z.1]
      exact ⟨v, hv⟩
    · exact h.cov j x e
  · refine ⟨(h.par j hj).1, ?_⟩
    rw [set_getD]
    split
    · rename_i z
      exact ⟨w', rfl, hP (z.1 ▸ hj)⟩
    · exact (h.par j hj).2
/-- a slot is stored -/
theorem SR.store {v : V} {w : W} (h : SR K P p0 ((v, w) :: T) σ env H) {i : Nat} (hi : i < σ.length) (hP : i ∉ P) : SR K P p0 T (σ.set i (some v)) (env.set i (some w)) H := by
  obtain ⟨A, B, h1, h2⟩ := pr_set hi h.len
  refine ⟨?_, by simp [h.len], by simp [h.len0], fun j x e => ?_, fun j hj => ?_⟩
  · rw [h2]
    have q := h.top
    rw [h1] at q
    refine (q.sub (L' := (v, w) :: (A ++ (B ++ T))) ?_).perm ?_
    · refine List.Sublist.cons_cons _ ?_
      rw [List.append_assoc, List.append_assoc]
      exact List.Sublist.append_left (List.sublist_append_right _ _) _
    · simp only [pc, List.append_assoc, List.singleton_append]
      exact List.perm_middle.symm
  · rw [set_getD] at e
    split at e
    · rename_i z
      rw [← z.1]
      exact ⟨v, by rw [List.getElem?_set_self hi]⟩
    · rename_i z
      obtain ⟨u, hu⟩ := h.cov j x e
      have ne : i ≠ j := fun q => z ⟨q, by rw [← h.len]; exact hi⟩
      exact ⟨u, by rw [List.getElem?_set_ne ne]; exact hu⟩
  · have ne : i ≠ j := fun q => hP (q ▸ hj)
    rw [List.getElem?_set_ne ne, set_getD, if_neg (fun q => ne q.1)]
    exact h.par j hj
/-- a slot is forgotten -/
theorem SR.clear (h : SR K P p0 T σ env H) {i : Nat} (hi : i < σ.length) (hP : i ∉ P) : SR K P p0 T (σ.set i none) (env.set i none) H := by
  obtain ⟨A, B, h1, h2⟩ := pr_set hi h.len
  refine ⟨?_, by simp [h.len], by simp [h.len0], fun j x e => ?_, fun j hj => ?_⟩
  · rw [h2]
    have q := h.rels
    rw [h1] at q
    refine q.sub ?_
    simp only [pc, List.nil_append]
    exact List.Sublist.append_right (List.Sublist.append_left (List.sublist_append_right _ _) _) _
  · rw [set_getD] at e
    split at e
    · cases e
    · rename_i z
      obtain ⟨u, hu⟩ := h.cov j x e
      have ne : i ≠ j := fun q => z ⟨q, by rw [← h.len]; exact hi⟩
      exact ⟨u, by rw [List.getElem?_set_ne ne]; exact hu⟩
  · have ne : i ≠ j := fun q => hP (q ▸ hj)
    rw [List.getElem?_set_ne ne, set_getD, if_neg (fun q => ne q.1)]
    exact h.par j hj
theorem SR.val (h : SR K P p0 T σ env H) {i : Nat} {v : V} {w : W} (hv : σ[i]? = some (some v)) (hw : env.getD i none = some w) : RW K H (owned H (pr σ env ++ T)) v w :=
  h.rels.at_ (v, w) (List.mem_append_left _ (pr_mem hv hw))
end

/-! ### operands: a name that is only looked at, or a value -/
inductive Opd where
  | vr (i : Nat)
  | ex (m : ME)
def Opd.run : Opd → Env → Res (Nat ⊕ W)
  | .vr i, e => match e.getD i none with
    | some _ => .ok (.inl i) e
    | none => .no
  | .ex m, e => bnd (m e) fun w e' => .ok (.inr w) e'
def vf : W → Option D
  | .d x => some x
  | .l xs => some (.list xs)
  | .t _ _ => none
@[simp] theorem vf_d (x : D) : vf (.d x) = some x := rfl
@[simp] theorem vf_l (xs : List D) : vf (.l xs) = some (.list xs) := rfl
theorem vf_some {w : W} {d : D} (h : vf w = some d) : isF w = true ∧ vw w = d := by
  cases w with
  | d x => cases h; exact ⟨rfl, vw_d _⟩
  | l xs => cases h; exact ⟨rfl, vw_l _⟩
  | t g ws => cases h
def gv (e : Env) : Nat ⊕ W → Option D
  | .inl i => (e.getD i none).bind vf
  | .inr w => vf w
def held (T : List (V × W)) (v : V) : Nat ⊕ W → List (V × W)
  | .inl _ => T
  | .inr w => (v, w) :: T
def Own (σ : L2.St) (v : V) : Nat ⊕ W → Prop
  | .inl i => σ[i]? = some (some v)
  | .inr _ => True

/-! ### readings -/
def tE (K : KK) (P : List Nat) (m : ME) : TE := fun σ H Q => ∃ p0 T env w env', SR K P p0 T σ env H ∧ Good K H ∧ m env = .ok w env' ∧
  ∀ v H', SR K P p0 ((v, w) :: T) σ env' H' → Good K H' → Q v H'
def tD (K : KK) (P : List Nat) (o : Opd) : TE := fun σ H Q => ∃ p0 T env r env', SR K P p0 T σ env H ∧ Good K H ∧ o.run env = .ok r env' ∧
  ∀ v H', Own σ v r → SR K P p0 (held T v r) σ env' H' → Good K H' → Q v H'
def tM (K : KK) (P : List Nat) (m : MT) : TT := fun σ H Q => ∃ p0 T env b env', SR K P p0 T σ env H ∧ Good K H ∧ m env = .ok b env' ∧
  ∀ H', SR K P p0 T σ env' H' → Good K H' → Q b H'

section
variable {X : Cx} {P : List Nat} {e : Expr}
theorem inv_good {pins : List (Addr × Obj)} {σ : L2.St} {H : Hp} {s : Shared} (I : Inv X pins σ H s) : Good X.K H := fun a o h => (I.bs a o (I.mod.kin a o h)).2
theorem mkE {t : TE} {m : ME} (h : PE X e t)
    (k : ∀ (p0 : L2.St) (T : List (V × W)) (σ : L2.St) (env : Env) (H : Hp) (w : W) (env' : Env) (Q : VK), SR X.K P p0 T σ env H → Good X.K H → m env = .ok w env' →
      (∀ v H', (Good X.K H' → SR X.K P p0 ((v, w) :: T) σ env' H') → Q v H') → t σ H Q) : PE X e (tE X.K P m) := by
  refine ⟨fun pins s σ H Q I hq => ?_⟩
  obtain ⟨p0, T, env, w, env', sr, g, hm, hQ⟩ := hq
  refine thn (h.run pins s σ H (fun v H' => Good X.K H' → Q v H') I (k p0 T σ env H w env' _ sr g hm fun v H' q g' => hQ v H' (q g') g')) ?_
  rintro u s' ⟨v, H', I', r, q⟩
  exact ⟨v, H', I', r, q (inv_good I')⟩
theorem mkT {t : TT} {m : MT} (h : PT X e t)
    (k : ∀ (p0 : L2.St) (T : List (V × W)) (σ : L2.St) (env : Env) (H : Hp) (b : Bool) (env' : Env) (Q : Bool → Hp → Prop), SR X.K P p0 T σ env H → Good X.K H → m env = .ok b env' →
      (∀ H', (Good X.K H' → SR X.K P p0 T σ env' H') → Q b H') → t σ H Q) : PT X e (tM X.K P m) := by
  refine ⟨fun pins s σ H Q I hq => ?_⟩
  obtain ⟨p0, T, env, w, env', sr, g, hm, hQ⟩ := hq
  refine thn (h.run pins s σ H (fun v H' => Good X.K H' → Q v H') I (k p0 T σ env H w env' _ sr g hm fun H' q g' => hQ H' (q g') g')) ?_
  rintro u s' ⟨H', I', q⟩
  exact ⟨H', I', q (inv_good I')⟩
theorem mkW {t : TT} {m : MT} (h : PW X e t)
    (k : ∀ (p0 : L2.St) (T : List (V × W)) (σ : L2.St) (env : Env) (H : Hp) (b : Bool) (env' : Env) (Q : Bool → Hp → Prop), SR X.K P p0 T σ env H → Good X.K H → m env = .ok b env' →
      (∀ H', (Good X.K H' → SR X.K P p0 T σ env' H') → Q b H') → t σ H Q) : PW X e (tM X.K P m) := by
  refine ⟨fun wh pins s σ H Q I hq => ?_⟩
  obtain ⟨p0, T, env, w, env', sr, g, hm, hQ⟩ := hq
  refine thn (h.run wh pins s σ H (fun v H' => Good X.K H' → Q v H') I (k p0 T σ env H w env' _ sr g hm fun H' q g' => hQ H' (q g') g')) ?_
  rintro u s' ⟨H', I', q⟩
  exact ⟨H', I', q (inv_good I')⟩

/-! ### names, constants -/
def eC (d : D) : ME := fun e => .ok (.d d) e
@[simp] theorem eC_run (d : D) (e : Env) : eC d e = .ok (.d d) e := rfl
def eV (i : Nat) : ME := fun e => match e.getD i none with
  | some (.d d) => .ok (.d d) e
  | some (.l xs) => .ok (.d (.list xs)) (e.set i (some (.d (.list xs))))
  | some (.t g ws) => .ok (.d (vw (.t g ws))) (e.set i (some (.d (vw (.t g ws)))))
  | none => .no
inductive Flat : D → V → Prop
  | none : Flat .none .non
  | bool (b : Bool) : Flat (.bool b) (.bl b)
  | int (i : Int) : Flat (.int i) (.int i)
  | str (x : Str) : Flat (.str x) (.str x)
theorem Flat.dat {K : KK} {H : Hp} {O : List Addr} {d : D} {v : V} (f : Flat d v) : Dat K H O d v := by cases f <;> simp [Dat]
theorem pe_c {d : D} {v : V} (f : Flat d v) (h : PE X e (tC v)) : PE X e (tE X.K P (eC d)) := mkE h fun p0 T σ env H w env' Q sr g hm hQ => by
  cases hm
  exact hQ _ _ fun _ => sr.push (sr.rels.data f.dat)
theorem pe_name {i : Nat} (hP : P.contains i = false) (h : PE X e (tVar i)) : PE X e (tE X.K P (eV i)) := mkE h fun p0 T σ env H w env' Q sr g hm hQ => by
  have hP' : i ∉ P := fun z => by rw [List.contains_iff_mem.mpr z] at hP; cases hP
  unfold eV at hm
  split at hm
  · rename_i d hd
    cases hm
    obtain ⟨v, hv⟩ := sr.cov i _ hd
    refine ⟨v, hv, hQ _ _ fun _ => sr.push (sr.rels.data (by simpa only [RW] using sr.val hv hd))⟩
  · rename_i xs hd
    cases hm
    obtain ⟨v, hv⟩ := sr.cov i _ hd
    have s2 := sr.slot hv hd (w' := .d (.list xs)) (fun z => (hP' z).elim) fun L _ q => q.freeze
    have hi := sr.lt hd
    have hd2 : (env.set i (some (W.d (.list xs)))).getD i none = some (.d (.list xs)) := by
      rw [set_getD, if_pos ⟨rfl, by rw [← sr.len]; exact hi⟩]
    refine ⟨v, hv, hQ _ _ fun _ => s2.push (s2.rels.data (by simpa only [RW] using s2.val hv hd2))⟩
  · rename_i g0 ws hd
    cases hm
    obtain ⟨v, hv⟩ := sr.cov i _ hd
    have s2 := sr.slot hv hd (w' := .d (vw (.t g0 ws))) (fun z => (hP' z).elim) fun L _ q => q.fz
    have hi := sr.lt hd
    have hd2 : (env.set i (some (W.d (vw (.t g0 ws))))).getD i none = some (.d (vw (.t g0 ws))) := by
      rw [set_getD, if_pos ⟨rfl, by rw [← sr.len]; exact hi⟩]
    refine ⟨v, hv, hQ _ _ fun _ => s2.push (s2.rels.data (by simpa only [RW] using s2.val hv hd2))⟩
  · cases hm
theorem pd_v {i : Nat} (h : PE X e (tVar i)) : PE X e (tD X.K P (.vr i)) := by
  refine ⟨fun pins s σ H Q I hq => ?_⟩
  obtain ⟨p0, T, env, r, env', sr, g, hm, hQ⟩ := hq
  change (match env.getD i none with | some _ => Res.ok (Sum.inl i) env | none => Res.no) = Res.ok r env' at hm
  cases hd : env.getD i none with
  | none => rw [hd] at hm; cases hm
  | some w =>
    rw [hd] at hm
    cases hm
    obtain ⟨v, hv⟩ := sr.cov i _ hd
    exact h.run pins s σ H Q I ⟨v, hv, hQ v H hv sr g⟩
theorem pd_e {m : ME} (h : PE X e (tE X.K P m)) : PE X e (tD X.K P (.ex m)) := by
  refine ⟨fun pins s σ H Q I hq => ?_⟩
  obtain ⟨p0, T, env, r, env', sr, g, hm, hQ⟩ := hq
  obtain ⟨w, e1, h1, h2⟩ := bnd_eq_ok (show bnd (m env) _ = _ from hm)
  cases h2
  exact h.run pins s σ H Q I ⟨p0, T, env, w, env', sr, g, h1, fun v H' s2 g2 => hQ v H' trivial s2 g2⟩
theorem view_of {K : KK} {p0 : L2.St} {T' : List (V × W)} {σ : L2.St} {env : Env} {H : Hp} {r : Nat ⊕ W} {v : V} {d : D} (sr : SR K P p0 T' σ env H) (o : Own σ v r) (hs : ∀ w, r = .inr w → (v, w) ∈ T') (hg : gv env r = some d) : Vw (pr σ env ++ T') v d := by
  cases r with
  | inl i =>
    simp only [gv] at hg
    cases hd : env.getD i none with
    | none => rw [hd] at hg; cases hg
    | some w =>
      rw [hd] at hg
      exact ⟨w, List.mem_append_left _ (pr_mem o hd), vf_some hg⟩
  | inr w => exact ⟨w, List.mem_append_right _ (hs w rfl), vf_some hg⟩

/-! ### operations on views -/
/-- r, asked of values with these views, gives a value with f's -/
def Op1 (K : KK) (r : V → Hp → VK → Prop) (f : D → Option W) : Prop := ∀ (H : Hp) (L : List (V × W)) (x : V) (dx : D) (w : W) (Q : VK), Good K H → Rels K H L → Vw L x dx → f dx = some w →
  (∀ v H', (Good K H' → Rels K H' ((v, w) :: L)) → Q v H') → r x H Q
def Op2 (K : KK) (r : R2) (f : D → D → Option W) : Prop := ∀ (H : Hp) (L : List (V × W)) (x y : V) (dx dy : D) (w : W) (Q : VK), Good K H → Rels K H L → Vw L x dx → Vw L y dy → f dx dy = some w →
  (∀ v H', (Good K H' → Rels K H' ((v, w) :: L)) → Q v H') → r x y H Q
def eO1 (f : D → Option W) (a : Opd) : ME := fun e => bnd (a.run e) fun r e1 => match gv e1 r with
  | some d => ofO (f d) e1
  | none => .no
def eO2 (f : D → D → Option W) (a b : Opd) : ME := fun e => bnd (a.run e) fun r e1 => bnd (b.run e1) fun r2 e2 => match gv e2 r with
  | some x => (match gv e2 r2 with
    | some y => ofO (f x y) e2
    | none => .no)
  | none => .no
theorem dropHeld {K : KK} {p0 : L2.St} {T : List (V × W)} {σ : L2.St} {env : Env} {H : Hp} {v : V} {w : W} {x : V} {r : Nat ⊕ W} (sr : SR K P p0 ((v, w) :: held T x r) σ env H) : SR K P p0 ((v, w) :: T) σ env H := by
  cases r with
  | inl i => exact sr
  | inr w' => exact sr.sub (List.Sublist.cons_cons _ (List.sublist_cons_self _ _))
theorem pe_o1 {r : V → Hp → VK → Prop} {f : D → Option W} {o : Opd} {ta : TE} (ht : ta = tD X.K P o) (ho : Op1 X.K r f) (h : PE X e (tUn r ta)) : PE X e (tE X.K P (eO1 f o)) := mkE h fun p0 T σ env H w env' Q sr g hm hQ => by
  subst ht
  obtain ⟨ra, e1, h1, h2⟩ := bnd_eq_ok hm
  refine ⟨p0, T, env, ra, e1, sr, g, h1, fun x H1 ox sr1 g1 => ?_⟩
  cases hg : gv e1 ra with
  | none => rw [hg] at h2; cases h2
  | some d =>
    rw [hg] at h2
    obtain ⟨h3, rfl⟩ := ofO_eq_ok h2
    exact ho H1 _ x d w _ g1 sr1.rels (view_of sr1 ox (fun w e => by subst e; exact List.mem_cons_self) hg) h3 fun v H2 q => hQ v H2 fun g2 => dropHeld (sr1.push (q g2))
theorem pe_o2 {r : R2} {f : D → D → Option W} {oa ob : Opd} {ta tb : TE} (hta : ta = tD X.K P oa) (htb : tb = tD X.K P ob) (ho : Op2 X.K r f) (h : PE X e (tOp r ta tb)) : PE X e (tE X.K P (eO2 f oa ob)) := mkE h fun p0 T σ env H w env' Q sr g hm hQ => by
  subst hta htb
  obtain ⟨ra, e1, h1, hm⟩ := bnd_eq_ok hm
  refine ⟨p0, T, env, ra, e1, sr, g, h1, fun x H1 ox sr1 g1 => ?_⟩
  obtain ⟨rb, e2, h2, hm⟩ := bnd_eq_ok hm
  refine ⟨p0, held T x ra, e1, rb, e2, sr1, g1, h2, fun y H2 oy sr2 g2 => ?_⟩
  cases hg : gv e2 ra with
  | none => rw [hg] at hm; cases hm
  | some d =>
    rw [hg] at hm
    cases hg2 : gv e2 rb with
    | none => rw [hg2] at hm; cases hm
    | some d2 =>
      rw [hg2] at hm
      obtain ⟨h3, rfl⟩ := ofO_eq_ok hm
      refine ho H2 _ x y d d2 w _ g2 sr2.rels (view_of sr2 ox (fun w e => ?_) hg) (view_of sr2 oy (fun w e => by subst e; exact List.mem_cons_self) hg2) h3 fun v H3 q => hQ v H3 fun g3 => dropHeld (dropHeld (sr2.push (q g3)))
      subst e
      cases rb with
      | inl i => exact List.mem_cons_self
      | inr w' => exact List.mem_cons_of_mem _ List.mem_cons_self

/-! ### tests -/
/-- a value that is a truth value, as a test -/
def tV (m : ME) : MT := fun e => bnd (m e) fun w e1 => match vw w with
  | .bool b => .ok b e1
  | _ => .no
def tAnd' (a b : MT) : MT := fun e => bnd (a e) fun c e1 => if c = true then b e1 else .ok false e1
def tOr' (a b : MT) : MT := fun e => bnd (a e) fun c e1 => if c = true then .ok true e1 else b e1
def tNot' (a : MT) : MT := fun e => bnd (a e) fun c e1 => .ok (!c) e1
variable {a b : Expr} {rest : List Expr} {pos : Pos} {ma mb mc : MT}
theorem pw_andM (ha : PT X a (tM X.K P ma)) (hb : PW X (.BoolOp .And (b :: rest) pos) (tM X.K P mb)) : PW X (.BoolOp .And (a :: b :: rest) pos) (tM X.K P (tAnd' ma mb)) := mkW (pw_and ha hb) fun p0 T σ env H b env' Q sr g hm hQ => by
  obtain ⟨c, e1, h1, h2⟩ := bnd_eq_ok hm
  refine ⟨p0, T, env, c, e1, sr, g, h1, fun H1 sr1 g1 => ?_⟩
  split at h2
  · rename_i hc
    rw [if_pos hc]
    exact ⟨p0, T, e1, b, env', sr1, g1, h2, fun H2 sr2 g2 => hQ H2 fun _ => sr2⟩
  · rename_i hc
    rw [if_neg hc]
    cases h2
    exact hQ H1 fun _ => sr1
theorem pw_orM (ha : PT X a (tM X.K P ma)) (hb : PW X (.BoolOp .Or (b :: rest) pos) (tM X.K P mb)) : PW X (.BoolOp .Or (a :: b :: rest) pos) (tM X.K P (tOr' ma mb)) := mkW (pw_or ha hb) fun p0 T σ env H b env' Q sr g hm hQ => by
  obtain ⟨c, e1, h1, h2⟩ := bnd_eq_ok hm
  refine ⟨p0, T, env, c, e1, sr, g, h1, fun H1 sr1 g1 => ?_⟩
  split at h2
  · rename_i hc
    rw [if_pos hc]
    cases h2
    exact hQ H1 fun _ => sr1
  · rename_i hc
    rw [if_neg hc]
    exact ⟨p0, T, e1, b, env', sr1, g1, h2, fun H2 sr2 g2 => hQ H2 fun _ => sr2⟩
theorem pt_notM (ha : PT X a (tM X.K P ma)) : PT X (.UnaryOp .Not a pos) (tM X.K P (tNot' ma)) := mkT (pt_not ha) fun p0 T σ env H b env' Q sr g hm hQ => by
  obtain ⟨c, e1, h1, h2⟩ := bnd_eq_ok hm
  cases h2
  exact ⟨p0, T, env, c, env', sr, g, h1, fun H1 sr1 g1 => hQ H1 fun _ => sr1⟩
/-- and, or, not as values -/
def eAnd (a b : ME) : ME := fun e => bnd (a e) fun w e1 => match vw w with
  | .bool true => b e1
  | .bool false => .ok (.d (.bool false)) e1
  | _ => .no
def eOr (a b : ME) : ME := fun e => bnd (a e) fun w e1 => match vw w with
  | .bool true => .ok (.d (.bool true)) e1
  | .bool false => b e1
  | _ => .no
def eNot (a : ME) : ME := fun e => bnd (a e) fun w e1 => match vw w with
  | .bool c => .ok (.d (.bool (!c))) e1
  | _ => .no
/-- a if t else b -/
def eIf (t : MT) (a b : ME) : ME := fun e => bnd (t e) fun c e1 => if c = true then a e1 else b e1
end
end Mi
set_option Elab.async false
set_option linter.all false
set_option maxRecDepth 100000
set_option maxHeartbeats 4000000
/-! Mi3: argument lists, displays, statements, loops -/
namespace Mi
open PySem PySem.Spec PyProof.Rows L2

/-! ### lists of operands -/
def evL : List Opd → Env → Res (List (Nat ⊕ W))
  | [], e => .ok [] e
  | o :: os, e => bnd (o.run e) fun r e1 => bnd (evL os e1) fun rs e2 => .ok (r :: rs) e2
def gvL (e : Env) : List (Nat ⊕ W) → Option (List D)
  | [] => some []
  | r :: rs => match gv e r with
    | some d => (match gvL e rs with
      | some ds => some (d :: ds)
      | none => none)
    | none => none
def heldL (T : List (V × W)) : List V → List (Nat ⊕ W) → List (V × W)
  | v :: vs, r :: rs => heldL (held T v r) vs rs
  | _, _ => T
def OwnL (σ : L2.St) : List V → List (Nat ⊕ W) → Prop
  | [], [] => True
  | v :: vs, r :: rs => Own σ v r ∧ OwnL σ vs rs
  | _, _ => False
def Vws (L : List (V × W)) : List V → List D → Prop
  | [], [] => True
  | v :: vs, d :: ds => Vw L v d ∧ Vws L vs ds
  | _, _ => False
def tAL (K : KK) (P : List Nat) (os : List Opd) : TA := fun σ H Q => ∃ p0 T env rs env', SR K P p0 T σ env H ∧ Good K H ∧ evL os env = .ok rs env' ∧
  ∀ vs H', OwnL σ vs rs → SR K P p0 (heldL T vs rs) σ env' H' → Good K H' → Q vs H'
/-- arguments of a def of the text: a list handed on, or a value -/
inductive Arg where
  | rf (i : Nat)
  | vl (m : ME)
def evG : List Arg → Env → Res (List (Nat ⊕ D))
  | [], e => .ok [] e
  | .rf i :: as, e => match e.getD i none with
    | some (.d x) => bnd (evG as e) fun rs e2 => .ok (.inr x :: rs) e2
    | some _ => bnd (evG as e) fun rs e2 => .ok (.inl i :: rs) e2
    | none => .no
  | .vl m :: as, e => bnd (m e) fun w e1 => bnd (evG as e1) fun rs e2 => .ok (.inr (vw w) :: rs) e2
/-- what is known of the values: a slot's, or data -/
def ARel (K : KK) (H : Hp) (O : List Addr) (σ : L2.St) : List V → List (Nat ⊕ D) → Prop
  | [], [] => True
  | v :: vs, .inl i :: rs => σ[i]? = some (some v) ∧ ARel K H O σ vs rs
  | v :: vs, .inr d :: rs => Dat K H O d v ∧ ARel K H O σ vs rs
  | _, _ => False
def tG (K : KK) (P : List Nat) (as : List Arg) : TA := fun σ H Q => ∃ p0 T env rs env', SR K P p0 T σ env H ∧ Good K H ∧ evG as env = .ok rs env' ∧
  ∀ vs H', ARel K H' (owned H' (pr σ env' ++ T)) σ vs rs → SR K P p0 T σ env' H' → Good K H' → Q vs H'
section
variable {X : Cx} {P : List Nat} {e : Expr} {es : List Expr}
theorem mkA {t : TA} {os : List Opd} (h : PA X es t)
    (k : ∀ (p0 : L2.St) (T : List (V × W)) (σ : L2.St) (env : Env) (H : Hp) rs (env' : Env) (Q : List V → Hp → Prop), SR X.K P p0 T σ env H → Good X.K H → evL os env = .ok rs env' →
      (∀ vs H', (Good X.K H' → OwnL σ vs rs ∧ SR X.K P p0 (heldL T vs rs) σ env' H') → Q vs H') → t σ H Q) : PA X es (tAL X.K P os) := by
  refine ⟨fun pos pins s σ H Q I hq => ?_⟩
  obtain ⟨p0, T, env, w, env', sr, g, hm, hQ⟩ := hq
  refine thn (h.run pos pins s σ H (fun v H' => Good X.K H' → Q v H') I (k p0 T σ env H w env' _ sr g hm fun v H' q g' => hQ v H' (q g').1 (q g').2 g')) ?_
  rintro u s' ⟨v, H', I', r, q⟩
  exact ⟨v, H', I', r, q (inv_good I')⟩
theorem pa_nilM : PA X [] (tAL X.K P []) := mkA pa_nil fun p0 T σ env H rs env' Q sr g hm hQ => by
  cases hm
  exact hQ [] H fun _ => ⟨trivial, sr⟩
theorem pa_consM {o : Opd} {os : List Opd} (he : PE X e (tD X.K P o)) (hr : PA X es (tAL X.K P os)) (hs : starEach (e :: es) X.env = (false, eval e X.env) :: starEach es X.env := by rfl) : PA X (e :: es) (tAL X.K P (o :: os)) :=
  mkA (pa_cons he hr hs) fun p0 T σ env H rs env' Q sr g hm hQ => by
    obtain ⟨r, e1, h1, hm⟩ := bnd_eq_ok hm
    obtain ⟨rs', e2, h2, hm⟩ := bnd_eq_ok hm
    cases hm
    exact ⟨p0, T, env, r, e1, sr, g, h1, fun v H1 ox sr1 g1 => ⟨p0, held T v r, e1, rs', _, sr1, g1, h2, fun vs H2 oy sr2 g2 => hQ (v :: vs) H2 fun _ => ⟨⟨ox, oy⟩, sr2⟩⟩⟩
theorem heldL_sub : ∀ {vs : List V} {rs : List (Nat ⊕ W)} {T : List (V × W)}, T.Sublist (heldL T vs rs)
  | [], _, T => List.Sublist.refl _
  | _ :: _, [], T => List.Sublist.refl _
  | v :: vs, .inl i :: rs, T => heldL_sub (vs := vs) (rs := rs)
  | v :: vs, .inr w :: rs, T => (List.sublist_cons_self _ _).trans (heldL_sub (vs := vs) (rs := rs) (T := (v, w) :: T))
theorem views_of {K : KK} {p0 : L2.St} {σ : L2.St} {env : Env} {H : Hp} : ∀ {vs : List V} {rs : List (Nat ⊕ W)} {ds : List D} {T T' : List (V × W)}, SR K P p0 T' σ env H → OwnL σ vs rs → (∀ p ∈ heldL T vs rs, p ∈ T') → gvL env rs = some ds → Vws (pr σ env ++ T') vs ds
  | [], [], ds, _, _, _, _, _, h => by
    simp only [gvL, Option.some.injEq] at h
    subst h
    trivial
  | [], _ :: _, _, _, _, _, o, _, _ => o.elim
  | _ :: _, [], _, _, _, _, o, _, _ => o.elim
  | v :: vs, r :: rs, ds, T, T', sr, o, hs, h => by
    unfold gvL at h
    cases hg : gv env r with
    | none => rw [hg] at h; cases h
    | some d =>
      rw [hg] at h
      cases hg2 : gvL env rs with
      | none => rw [hg2] at h; cases h
      | some ds' =>
        rw [hg2] at h
        cases h
        refine ⟨view_of sr o.1 (fun w e => ?_) hg, views_of (T := held T v r) sr o.2 hs hg2⟩
        subst e
        exact hs _ ((heldL_sub (vs := vs) (rs := rs)).mem List.mem_cons_self)
/-- a built-in by its arguments' views -/
def OpC (K : KK) (r : List V → Hp → VK → Prop) (f : List D → Option W) : Prop := ∀ (H : Hp) (L : List (V × W)) (vs : List V) (ds : List D) (w : W) (Q : VK), Good K H → Rels K H L → Vws L vs ds → f ds = some w →
  (∀ v H', (Good K H' → Rels K H' ((v, w) :: L)) → Q v H') → r vs H Q
def eB (f : List D → Option W) (os : List Opd) : ME := fun e => bnd (evL os e) fun rs e1 => match gvL e1 rs with
  | some ds => ofO (f ds) e1
  | none => .no
theorem pe_oc {r : List V → Hp → VK → Prop} {f : List D → Option W} {os : List Opd} {ta : TA} (hta : ta = tAL X.K P os) (ho : OpC X.K r f) (h : PE X e (tCB r ta)) : PE X e (tE X.K P (eB f os)) := mkE h fun p0 T σ env H w env' Q sr g hm hQ => by
  subst hta
  obtain ⟨rs, e1, h1, h2⟩ := bnd_eq_ok hm
  refine ⟨p0, T, env, rs, e1, sr, g, h1, fun vs H1 ox sr1 g1 => ?_⟩
  cases hg : gvL e1 rs with
  | none => rw [hg] at h2; cases h2
  | some ds =>
    rw [hg] at h2
    obtain ⟨h3, rfl⟩ := ofO_eq_ok h2
    refine ho H1 _ vs ds w _ g1 sr1.rels (views_of sr1 ox (fun _ z => z) hg) h3 fun v H2 q => hQ v H2 fun g2 => ?_
    exact (sr1.push (q g2)).sub (List.Sublist.cons_cons _ heldL_sub)

/-! ### values for a def, a display -/
theorem mkG {t : TA} {as : List Arg} (h : PA X es t)
    (k : ∀ (p0 : L2.St) (T : List (V × W)) (σ : L2.St) (env : Env) (H : Hp) rs (env' : Env) (Q : List V → Hp → Prop), SR X.K P p0 T σ env H → Good X.K H → evG as env = .ok rs env' →
      (∀ vs H', (Good X.K H' → ARel X.K H' (owned H' (pr σ env' ++ T)) σ vs rs ∧ SR X.K P p0 T σ env' H') → Q vs H') → t σ H Q) : PA X es (tG X.K P as) := by
  refine ⟨fun pos pins s σ H Q I hq => ?_⟩
  obtain ⟨p0, T, env, w, env', sr, g, hm, hQ⟩ := hq
  refine thn (h.run pos pins s σ H (fun v H' => Good X.K H' → Q v H') I (k p0 T σ env H w env' _ sr g hm fun v H' q g' => hQ v H' (q g').1 (q g').2 g')) ?_
  rintro u s' ⟨v, H', I', r, q⟩
  exact ⟨v, H', I', r, q (inv_good I')⟩
theorem pg_nilM : PA X [] (tG X.K P []) := mkG pa_nil fun p0 T σ env H rs env' Q sr g hm hQ => by
  cases hm
  exact hQ [] H fun _ => ⟨trivial, sr⟩
theorem ARel.to {K : KK} {H H' : Hp} {O O' : List Addr} {σ : L2.St} (e : ∀ a o, a ∉ O → H a = some o → H' a = some o) (s : ∀ a, a ∈ O' → a ∈ O) : ∀ {vs : List V} {rs : List (Nat ⊕ D)}, ARel K H O σ vs rs → ARel K H' O' σ vs rs
  | [], [], h => h
  | [], _ :: _, h => by simp [ARel] at h
  | _ :: _, [], h => by simp [ARel] at h
  | v :: vs, .inl i :: rs, h => ⟨h.1, ARel.to e s h.2⟩
  | v :: vs, .inr d :: rs, h => ⟨Dat.to e s d v h.1, ARel.to e s h.2⟩
theorem pg_valM {m : ME} {as : List Arg} (he : PE X e (tE X.K P m)) (hr : PA X es (tG X.K P as)) (hs : starEach (e :: es) X.env = (false, eval e X.env) :: starEach es X.env := by rfl) : PA X (e :: es) (tG X.K P (.vl m :: as)) :=
  mkG (pa_cons he hr hs) fun p0 T σ env H rs env' Q sr g hm hQ => by
    obtain ⟨w, e1, h1, hm⟩ := bnd_eq_ok hm
    obtain ⟨rs', e2, h2, hm⟩ := bnd_eq_ok hm
    cases hm
    refine ⟨p0, T, env, w, e1, sr, g, h1, fun v H1 sr1 g1 => ⟨p0, (v, .d (vw w)) :: T, e1, rs', _, sr1.fz, g1, h2, fun vs H2 ar sr2 g2 => hQ (v :: vs) H2 fun _ => ⟨⟨?_, ?_⟩, sr2.drop⟩⟩⟩
    · exact sr2.dat
    · refine ar.to (fun _ _ _ z => z) fun a z => ?_
      have pp : (pr σ env' ++ (v, W.d (vw w)) :: T).Perm ((v, W.d (vw w)) :: (pr σ env' ++ T)) := List.perm_middle
      refine (ownedM _ pp).mpr ?_
      rw [owned_d]
      exact z
theorem pg_refM {i : Nat} {as : List Arg} (he : PE X e (tVar i)) (hr : PA X es (tG X.K P as)) (hs : starEach (e :: es) X.env = (false, eval e X.env) :: starEach es X.env := by rfl) : PA X (e :: es) (tG X.K P (.rf i :: as)) :=
  mkG (pa_cons he hr hs) fun p0 T σ env H rs env' Q sr g hm hQ => by
    change (match env.getD i none with | some (.d x) => bnd (evG as env) (fun rs e2 => Res.ok (Sum.inr x :: rs) e2) | some _ => bnd (evG as env) (fun rs e2 => Res.ok (Sum.inl i :: rs) e2) | none => Res.no) = _ at hm
    cases hd : env.getD i none with
    | none => rw [hd] at hm; cases hm
    | some w =>
    rw [hd] at hm
    obtain ⟨v, hv⟩ := sr.cov i w hd
    have own : bnd (evG as env) (fun rs e2 => Res.ok (Sum.inl i :: rs) e2) = .ok rs env' → tVar i σ H fun v1 H1 => tG X.K P as σ H1 fun vs H2 => Q (v1 :: vs) H2 := fun hm => by
      obtain ⟨rs', e2, h2, hm⟩ := bnd_eq_ok hm
      cases hm
      exact ⟨v, hv, p0, T, env, rs', _, sr, g, h2, fun vs H2 ar sr2 g2 => hQ (v :: vs) H2 fun _ => ⟨⟨hv, ar⟩, sr2⟩⟩
    cases w with
    | l xs => exact own hm
    | t g0 ws => exact own hm
    | d x =>
      obtain ⟨rs', e2, h2, hm⟩ := bnd_eq_ok hm
      cases hm
      have hdat : Dat X.K H (owned H (pr σ env ++ T)) x v := by simpa only [RW] using sr.val hv hd
      refine ⟨v, hv, p0, (v, .d x) :: T, env, rs', _, sr.push (sr.rels.data hdat), g, h2, fun vs H2 ar sr2 g2 => hQ (v :: vs) H2 fun _ => ⟨⟨sr2.dat, ?_⟩, sr2.drop⟩⟩
      refine ar.to (fun _ _ _ z => z) fun a z => ?_
      have pp : (pr σ env' ++ (v, W.d x) :: T).Perm ((v, W.d x) :: (pr σ env' ++ T)) := List.perm_middle
      refine (ownedM _ pp).mpr ?_
      rw [owned_d]
      exact z
end
end Mi
set_option Elab.async false
set_option linter.all false
set_option maxRecDepth 100000
set_option maxHeartbeats 4000000
/-! Mi4: displays, owned lists written, statements, loops, comprehensions -/
namespace Mi
open PySem PySem.Spec PyProof.Rows L2

/-! ### displays -/
def evT : List ME → Env → Res (List D)
  | [], e => .ok [] e
  | m :: ms, e => bnd (m e) fun w e1 => bnd (evT ms e1) fun ds e2 => .ok (vw w :: ds) e2
def tF (K : KK) (P : List Nat) (ms : List ME) : TA := fun σ H Q => ∃ p0 T env ds env', SR K P p0 T σ env H ∧ Good K H ∧ evT ms env = .ok ds env' ∧
  ∀ vs H', Dats K H' (owned H' (pr σ env' ++ T)) ds vs → SR K P p0 T σ env' H' → Good K H' → Q vs H'
theorem evT_len : ∀ {ms : List ME} {env env' : Env} {ds : List D}, evT ms env = .ok ds env' → ds.length = ms.length
  | [], _, _, _, h => by cases h; rfl
  | m :: ms, _, _, _, h => by
    obtain ⟨w, e1, _, h⟩ := bnd_eq_ok h
    obtain ⟨ds, e2, h2, h⟩ := bnd_eq_ok h
    cases h
    simp [evT_len h2]
section
variable {X : Cx} {P : List Nat} {e : Expr} {es : List Expr}
theorem mkF {t : TA} {as : List ME} (h : PA X es t)
    (k : ∀ (p0 : L2.St) (T : List (V × W)) (σ : L2.St) (env : Env) (H : Hp) rs (env' : Env) (Q : List V → Hp → Prop), SR X.K P p0 T σ env H → Good X.K H → evT as env = .ok rs env' →
      (∀ vs H', (Good X.K H' → Dats X.K H' (owned H' (pr σ env' ++ T)) rs vs ∧ SR X.K P p0 T σ env' H') → Q vs H') → t σ H Q) : PA X es (tF X.K P as) := by
  refine ⟨fun pos pins s σ H Q I hq => ?_⟩
  obtain ⟨p0, T, env, w, env', sr, g, hm, hQ⟩ := hq
  refine thn (h.run pos pins s σ H (fun v H' => Good X.K H' → Q v H') I (k p0 T σ env H w env' _ sr g hm fun v H' q g' => hQ v H' (q g').1 (q g').2 g')) ?_
  rintro u s' ⟨v, H', I', r, q⟩
  exact ⟨v, H', I', r, q (inv_good I')⟩
theorem pf_nil : PA X [] (tF X.K P []) := mkF pa_nil fun p0 T σ env H rs env' Q sr g hm hQ => by
  cases hm
  exact hQ [] H fun _ => ⟨rfl, sr⟩
theorem ownedMid {H : Hp} {A T : List (V × W)} {v : V} {d : D} {a : Addr} (z : a ∈ owned H (A ++ T)) : a ∈ owned H (A ++ (v, W.d d) :: T) := by
  have pp : (A ++ (v, W.d d) :: T).Perm ((v, W.d d) :: (A ++ T)) := List.perm_middle
  refine (ownedM H pp).mpr ?_
  rw [owned_d]
  exact z
theorem pf_cons {m : ME} {as : List ME} (he : PE X e (tE X.K P m)) (hr : PA X es (tF X.K P as)) (hs : starEach (e :: es) X.env = (false, eval e X.env) :: starEach es X.env := by rfl) : PA X (e :: es) (tF X.K P (m :: as)) :=
  mkF (pa_cons he hr hs) fun p0 T σ env H rs env' Q sr g hm hQ => by
    obtain ⟨w, e1, h1, hm⟩ := bnd_eq_ok hm
    obtain ⟨rs', e2, h2, hm⟩ := bnd_eq_ok hm
    cases hm
    refine ⟨p0, T, env, w, e1, sr, g, h1, fun v H1 sr1 g1 => ⟨p0, (v, .d (vw w)) :: T, e1, rs', _, sr1.fz, g1, h2, fun vs H2 ar sr2 g2 => hQ (v :: vs) H2 fun _ => ⟨⟨v, vs, rfl, ?_, ?_⟩, sr2.drop⟩⟩⟩
    · exact sr2.dat
    · exact ar.to (fun _ _ _ z => z) fun a z => ownedMid z
def eTup (ms : List ME) : ME := fun e => bnd (evT ms e) fun ds e1 => .ok (.d (.tuple ds)) e1
def eLst (ms : List ME) : ME := fun e => bnd (evT ms e) fun ds e1 => .ok (.l ds) e1
theorem pe_tupM {ms : List ME} {x1} {pos : Pos} (h : PA X es (tF X.K P ms)) (hl : ms.length ≤ 10000 := by first | decide | simp) : PE X (.Tuple es x1 pos) (tE X.K P (eTup ms)) := mkE (pe_tup h) fun p0 T σ env H w env' Q sr g hm hQ => by
  obtain ⟨ds, e1, h1, hm⟩ := bnd_eq_ok hm
  cases hm
  refine ⟨p0, T, env, ds, _, sr, g, h1, fun vs H1 ds1 sr1 g1 => ⟨?_, fun p hp => hQ _ _ fun g2 => ?_⟩⟩
  · rw [← ds1.length, evT_len h1, sizeLine_eq]; omega
  · have hk : X.K.lookup p = none := by
      cases q : X.K.lookup p with
      | none => rfl
      | some o => have := g2 p o q; rw [upd_same] at this; cases this
    exact sr1.push (sr1.rels.newTup hp hk ds1)
theorem pe_lstM {ms : List ME} {pos : Pos} (h : PA X es (tF X.K P ms)) (hl : ms.length ≤ 10000 := by first | decide | simp) : PE X (.List es pos) (tE X.K P (eLst ms)) := mkE (pe_lst h) fun p0 T σ env H w env' Q sr g hm hQ => by
  obtain ⟨ds, e1, h1, hm⟩ := bnd_eq_ok hm
  cases hm
  refine ⟨p0, T, env, ds, _, sr, g, h1, fun vs H1 ds1 sr1 g1 => ⟨?_, fun p hp => hQ _ _ fun g2 => ?_⟩⟩
  · rw [← ds1.length, evT_len h1, sizeLine_eq]; omega
  · have hk : X.K.lookup p = none := by
      cases q : X.K.lookup p with
      | none => rfl
      | some o => have := g2 p o q; rw [upd_same] at this; cases this
    exact sr1.push (sr1.rels.newOwn hp hk ds1)

/-! ### owned lists written by a method -/
/-- a method of the list xs with data: its value, the new content -/
def OpM (K : KK) (r : V → List V → Hp → VK → Prop) (f : List D → List D → Option (W × List D)) : Prop := ∀ (H : Hp) (L : List (V × W)) (a : Addr) (xs ds ys : List D) (vs : List V) (w : W) (Q : VK),
  Good K H → Rels K H ((.ref a, .l xs) :: L) → Dats K H (owned H ((.ref a, .l xs) :: L)) ds vs → f xs ds = some (w, ys) → (∀ v H', (Good K H' → Rels K H' ((v, w) :: (.ref a, .l ys) :: L)) → Q v H') → r (.ref a) vs H Q
def isL : Option W → Bool
  | some (.l _) => true
  | _ => false
def eMu (f : List D → List D → Option (W × List D)) (i : Nat) (ms : List ME) : ME := fun e =>
  if isL (e.getD i none) = true then bnd (evT ms e) fun ds e1 => match e1.getD i none with
    | some (.l xs) => (match f xs ds with
      | some (w, ys) => .ok w (e1.set i (some (.l ys)))
      | none => .no)
    | _ => .no
  else .no
theorem SR.front {K : KK} {p0 : L2.St} {T : List (V × W)} {σ : L2.St} {env : Env} {H : Hp} (h : SR K P p0 T σ env H) {i : Nat} {v : V} {w : W} (hv : σ[i]? = some (some v)) (hw : env.getD i none = some w) :
    ∃ R, (pr σ env ++ T).Perm ((v, w) :: R) ∧ ∀ w', (pr σ (env.set i (some w')) ++ T).Perm ((v, w') :: R) := by
  have hi := h.lt hw
  obtain ⟨A, B, h1, h2⟩ := pr_set hi h.len
  have hs : σ.getD i none = some v := by rw [List.getD_eq_getElem?_getD, hv]; rfl
  have e2 : σ.set i (some v) = σ := by
    apply List.ext_getElem?
    intro j
    rw [List.getElem?_set]
    by_cases hj : i = j
    · subst hj; rw [if_pos rfl, if_pos hi, hv]
    · rw [if_neg hj]
  refine ⟨A ++ B ++ T, ?_, fun w' => ?_⟩
  · rw [h1, hs, hw]
    simp only [pc, List.append_assoc, List.singleton_append]
    exact List.perm_middle
  · have h3 := h2 (some v) (some w')
    rw [e2] at h3
    rw [h3]
    simp only [pc, List.append_assoc, List.singleton_append]
    exact List.perm_middle
theorem pe_mu {f : List D → List D → Option (W × List D)} {i : Nat} {ms : List ME} {ta : TA} {te : TE} {Ty : String} {r : V → List V → Hp → VK → Prop} (hte : te = tVar i) (hta : ta = tF X.K P ms) (hTy : Ty = "list") (ho : OpM X.K r f)
    (h : PE X e (tBM X.K Ty r te ta)) : PE X e (tE X.K P (eMu f i ms)) := mkE h fun p0 T σ env H w env' Q sr g hm hQ => by
  subst hte hta hTy
  unfold eMu at hm
  split at hm
  · rename_i hL
    obtain ⟨ds, e1, h1, hm⟩ := bnd_eq_ok hm
    cases hd : env.getD i none with
    | none => rw [hd] at hL; cases hL
    | some w0 =>
    cases w0 with
    | d x => rw [hd] at hL; cases hL
    | t g0 ws0 => rw [hd] at hL; cases hL
    | l xs0 =>
    obtain ⟨v, hv⟩ := sr.cov i _ hd
    obtain ⟨a, us, rfl, ha, _⟩ := (show ∃ a us, v = .ref a ∧ H a = some (.lst us) ∧ Dats X.K H (owned H (pr σ env ++ T)) xs0 us from by simpa only [RW] using sr.val hv hd)
    refine ⟨.ref a, hv, Or.inl ⟨rfl, _, SqL.of ha⟩, p0, T, env, ds, e1, sr, g, h1, fun vs H1 ds1 sr1 g1 => ?_⟩
    cases hd1 : e1.getD i none with
    | none => rw [hd1] at hm; cases hm
    | some w1 =>
    cases w1 with
    | d x => rw [hd1] at hm; cases hm
    | t g0 ws0 => rw [hd1] at hm; cases hm
    | l xs =>
    rw [hd1] at hm
    change (match f xs ds with | some (w, ys) => Res.ok w (e1.set i (some (.l ys))) | none => Res.no) = _ at hm
    cases hf : f xs ds with
    | none => rw [hf] at hm; cases hm
    | some p =>
    obtain ⟨w', ys⟩ := p
    rw [hf] at hm
    cases hm
    obtain ⟨R, q1, q2⟩ := sr1.front hv hd1
    refine ho H1 R a xs ds ys vs w _ g1 (sr1.rels.perm q1) ?_ hf fun u H2 q => hQ u H2 fun g2 => ?_
    · exact ds1.to (fun _ _ _ z => z) fun b z => (ownedM _ q1).mpr z
    · have q' := q g2
      have s2 : SR X.K P p0 T σ (e1.set i (some (.l ys))) H2 := by
        refine ⟨q'.tail.perm (q2 _).symm, by rw [List.length_set]; exact sr1.len, sr1.len0, fun j x hj => ?_, fun j hj => ⟨(sr1.par j hj).1, ?_⟩⟩
        · rw [set_getD] at hj
          split at hj
          · rename_i z
            rw [← z.1]
            exact ⟨_, hv⟩
          · exact sr1.cov j x hj
        · rw [set_getD]
          split
          · exact ⟨_, rfl, rfl⟩
          · exact (sr1.par j hj).2
      exact s2.push (q'.perm (List.Perm.cons _ (q2 _).symm))
  · cases hm
end

/-! ### statements -/
inductive Out where
  | nx
  | bk
  | ct
  | rt (w : W)
abbrev MS := Env → Res Out
def PostS (K : KK) (P : List Nat) (p0 : L2.St) (T : List (V × W)) (env : Env) (D : Ends) : Out → Prop
  | .nx => ∀ σ H, SR K P p0 T σ env H → Good K H → D.nx σ H
  | .bk => ∀ σ H, SR K P p0 T σ env H → Good K H → D.bk σ H
  | .ct => ∀ σ H, SR K P p0 T σ env H → Good K H → D.ct σ H
  | .rt w => ∀ v σ H, SR K P p0 ((v, w) :: T) σ env H → Good K H → D.rt v H
def PostG (K : KK) (P : List Nat) (p0 : L2.St) (T : List (V × W)) (env : Env) (D : Ends) : Out → Prop
  | .nx => ∀ σ H, (Good K H → SR K P p0 T σ env H) → D.nx σ H
  | .bk => ∀ σ H, (Good K H → SR K P p0 T σ env H) → D.bk σ H
  | .ct => ∀ σ H, (Good K H → SR K P p0 T σ env H) → D.ct σ H
  | .rt w => ∀ v σ H, (Good K H → SR K P p0 ((v, w) :: T) σ env H) → D.rt v H
def tS (K : KK) (P : List Nat) (m : MS) : TS := fun D σ H => ∃ p0 T env o env', SR K P p0 T σ env H ∧ Good K H ∧ m env = .ok o env' ∧ PostS K P p0 T env' D o
/-- the ends under Good -/
def gEnds (K : KK) (D : Ends) : Ends := ⟨fun σ H => Good K H → D.nx σ H, fun v H => Good K H → D.rt v H, fun σ H => Good K H → D.bk σ H, fun σ H => Good K H → D.ct σ H⟩
theorem PostS.g {K : KK} {P : List Nat} {p0 : L2.St} {T : List (V × W)} {env : Env} {D : Ends} {o : Out} (h : PostS K P p0 T env D o) : PostG K P p0 T env (gEnds K D) o := by
  cases o with
  | nx => exact fun σ H q g => h σ H (q g) g
  | bk => exact fun σ H q g => h σ H (q g) g
  | ct => exact fun σ H q g => h σ H (q g) g
  | rt w => exact fun v σ H q g => h v σ H (q g) g
theorem PostG.s {K : KK} {P : List Nat} {p0 : L2.St} {T : List (V × W)} {env : Env} {D : Ends} {o : Out} (h : PostG K P p0 T env D o) : PostS K P p0 T env D o := by
  cases o with
  | nx => exact fun σ H q _ => h σ H fun _ => q
  | bk => exact fun σ H q _ => h σ H fun _ => q
  | ct => exact fun σ H q _ => h σ H fun _ => q
  | rt w => exact fun v σ H q _ => h v σ H fun _ => q
section
variable {X : Cx} {P : List Nat} {st : Stmt} {sts : List Stmt} {e : Expr} {pos : Pos}
theorem sp_g {pins : List (Addr × Obj)} {D : Ends} {f : Flow} {s' : Shared} (h : SP X pins (gEnds X.K D) f s') : SP X pins D f s' := by
  cases f with
  | next => obtain ⟨σ', H', I, q⟩ := h; exact ⟨σ', H', I, q (inv_good I)⟩
  | brk => obtain ⟨σ', H', I, q⟩ := h; exact ⟨σ', H', I, q (inv_good I)⟩
  | cont => obtain ⟨σ', H', I, q⟩ := h; exact ⟨σ', H', I, q (inv_good I)⟩
  | ret u => obtain ⟨v, σ', H', I, r, q⟩ := h; exact ⟨v, σ', H', I, r, q (inv_good I)⟩
theorem mkS {t : TS} {m : MS} (h : PS X st t)
    (k : ∀ (p0 : L2.St) (T : List (V × W)) (σ : L2.St) (env : Env) (H : Hp) (o : Out) (env' : Env) (D : Ends), SR X.K P p0 T σ env H → Good X.K H → σ.length = X.N.length → m env = .ok o env' → PostG X.K P p0 T env' D o → t D σ H) : PS X st (tS X.K P m) := by
  refine ⟨fun pins s σ H D I hq => ?_⟩
  obtain ⟨p0, T, env, o, env', sr, g, hm, hQ⟩ := hq
  exact thn (h.run pins s σ H (gEnds X.K D) I (k p0 T σ env H o env' _ sr g I.len hm hQ.g)) fun f s' q => sp_g q
theorem mkSs {t : TS} {m : MS} (h : PSs X sts t)
    (k : ∀ (p0 : L2.St) (T : List (V × W)) (σ : L2.St) (env : Env) (H : Hp) (o : Out) (env' : Env) (D : Ends), SR X.K P p0 T σ env H → Good X.K H → σ.length = X.N.length → m env = .ok o env' → PostG X.K P p0 T env' D o → t D σ H) : PSs X sts (tS X.K P m) := by
  refine ⟨fun pins s σ H D I hq => ?_⟩
  obtain ⟨p0, T, env, o, env', sr, g, hm, hQ⟩ := hq
  exact thn (h.run pins s σ H (gEnds X.K D) I (k p0 T σ env H o env' _ sr g I.len hm hQ.g)) fun f s' q => sp_g q
def sNx : MS := fun e => .ok .nx e
def sBk : MS := fun e => .ok .bk e
def sCt : MS := fun e => .ok .ct e
def sSeq (a b : MS) : MS := fun e => bnd (a e) fun o e1 => match o with
  | .nx => b e1
  | o => .ok o e1
def sE (m : ME) : MS := fun e => bnd (m e) fun _ e1 => .ok .nx e1
def sSet (i : Nat) (m : ME) : MS := fun e => bnd (m e) fun w e1 => .ok .nx (e1.set i (some w))
def sRet (m : ME) : MS := fun e => bnd (m e) fun w e1 => .ok (.rt (.d (vw w))) e1
def sRetO (m : ME) : MS := fun e => bnd (m e) fun w e1 => .ok (.rt w) e1
def sRetN : MS := fun e => .ok (.rt (.d .none)) e
def sIf (t : MT) (a b : MS) : MS := fun e => bnd (t e) fun c e1 => if c = true then a e1 else b e1
/-- x[i] = v of an owned list -/
def sPut (i : Nat) (mi mv : ME) : MS := fun e => bnd (mv e) fun w e1 => if isL (e1.getD i none) = true then bnd (mi e1) fun wi e2 => match vw wi with
  | .int k => (match e2.getD i none with
    | some (.l xs) => (match ixN xs.length k with
      | some j => .ok .nx (e2.set i (some (.l (xs.set j (vw w)))))
      | none => .no)
    | _ => .no)
  | _ => .no
  else .no
theorem pss_nilM : PSs X [] (tS X.K P sNx) := mkSs pss_nil fun p0 T σ env H o env' D sr g _ hm hQ => by
  cases hm
  exact hQ σ H fun _ => sr
theorem pss_consM {a b : MS} (h1 : PS X st (tS X.K P a)) (h2 : PSs X sts (tS X.K P b)) : PSs X (st :: sts) (tS X.K P (sSeq a b)) := mkSs (pss_cons h1 h2) fun p0 T σ env H o env' D sr g _ hm hQ => by
  obtain ⟨o1, e1, h3, hm⟩ := bnd_eq_ok hm
  refine ⟨p0, T, env, o1, e1, sr, g, h3, ?_⟩
  cases o1 with
  | nx => exact fun σ1 H1 sr1 g1 => ⟨p0, T, e1, o, env', sr1, g1, hm, hQ.s⟩
  | bk => cases hm; exact hQ.s
  | ct => cases hm; exact hQ.s
  | rt w => cases hm; exact hQ.s
theorem pss_oneM {a : MS} (h1 : PS X st (tS X.K P a)) : PSs X [st] (tS X.K P a) := pss_one h1
theorem ps_exprM {m : ME} (he : PE X e (tE X.K P m)) (hs : swapsWith e none pos.line X.env = pure false := by rfl) : PS X (.Expr e pos) (tS X.K P (sE m)) := mkS (ps_expr he hs) fun p0 T σ env H o env' D sr g _ hm hQ => by
  obtain ⟨w, e1, h1, hm⟩ := bnd_eq_ok hm
  cases hm
  exact ⟨p0, T, env, w, _, sr, g, h1, fun v H1 sr1 g1 => hQ σ H1 fun _ => sr1.drop⟩
theorem ps_setM {i : Nat} {x : Str} {m : ME} {pos' : Pos} (hN : X.N.Nodup) (hP : P.contains i = false) (hi : X.N[i]? = some x) (hx : Loc X.env.scope x) (he : PE X e (tE X.K P m)) (hs : swapsWith e (some (.Name x pos')) pos.line X.env = pure false := by rfl)
    (hf : X.fn x = true ∨ X.env.scope.names.lookup x = some .local := by first | exact .inl rfl | exact .inr rfl | assumption) : PS X (.Assign [.Name x pos'] e pos) (tS X.K P (sSet i m)) := mkS (ps_set hN hi hx he hs hf) fun p0 T σ env H o env' D sr g hl hm hQ => by
  have hP' : i ∉ P := fun z => by rw [List.contains_iff_mem.mpr z] at hP; cases hP
  obtain ⟨w, e1, h1, hm⟩ := bnd_eq_ok hm
  cases hm
  exact ⟨p0, T, env, w, _, sr, g, h1, fun v H1 sr1 g1 => hQ _ H1 fun _ => sr1.store (by rw [hl]; exact (List.getElem?_eq_some_iff.mp hi).1) hP'⟩
theorem ps_retM {m : ME} (he : PE X e (tE X.K P m)) : PS X (.Return (some e) pos) (tS X.K P (sRet m)) := mkS (ps_ret he) fun p0 T σ env H o env' D sr g hl hm hQ => by
  obtain ⟨w, e1, h1, hm⟩ := bnd_eq_ok hm
  cases hm
  exact ⟨p0, T, env, w, _, sr, g, h1, fun v H1 sr1 g1 => hQ v σ H1 fun _ => sr1.fz⟩
theorem ps_retOM {m : ME} (he : PE X e (tE X.K P m)) : PS X (.Return (some e) pos) (tS X.K P (sRetO m)) := mkS (ps_ret he) fun p0 T σ env H o env' D sr g hl hm hQ => by
  obtain ⟨w, e1, h1, hm⟩ := bnd_eq_ok hm
  cases hm
  exact ⟨p0, T, env, w, _, sr, g, h1, fun v H1 sr1 g1 => hQ v σ H1 fun _ => sr1⟩
theorem ps_ifM {c : Expr} {a b : List Stmt} {mc : MT} {ma mb : MS} (hc : PT X c (tM X.K P mc)) (ha : PSs X a (tS X.K P ma)) (hb : PSs X b (tS X.K P mb)) : PS X (.If c a b pos) (tS X.K P (sIf mc ma mb)) := mkS (ps_if hc ha hb) fun p0 T σ env H o env' D sr g hl hm hQ => by
  obtain ⟨k, e1, h1, hm⟩ := bnd_eq_ok hm
  refine ⟨p0, T, env, k, e1, sr, g, h1, fun H1 sr1 g1 => ?_⟩
  split at hm
  · rename_i hk
    rw [if_pos hk]
    exact ⟨p0, T, e1, o, env', sr1, g1, hm, hQ.s⟩
  · rename_i hk
    rw [if_neg hk]
    exact ⟨p0, T, e1, o, env', sr1, g1, hm, hQ.s⟩
theorem vw_int {w : W} {k : Int} (h : vw w = .int k) : w = .d (.int k) := by
  cases w with
  | d x => rw [vw_d] at h; exact congrArg W.d h
  | l xs => rw [vw_l] at h; cases h
  | t g ws => cases g <;> simp [vw, vt] at h
theorem isL_some {o : Option W} (h : isL o = true) : ∃ xs, o = some (.l xs) := by
  cases o with
  | none => cases h
  | some w => cases w with
    | d x => cases h
    | t g ws => cases h
    | l xs => exact ⟨xs, rfl⟩
theorem ps_putM {i : Nat} {x : Str} {mi mv : ME} {ei : Expr} {p1 p2 : Pos} {tv : TE} (htv : tv = tVar i)
    (h : PS X (.Assign [.Subscript (.Name x p1) ei p2] e pos) (tAsg (tE X.K P mv) (gSub tv (tE X.K P mi) rSetL))) : PS X (.Assign [.Subscript (.Name x p1) ei p2] e pos) (tS X.K P (sPut i mi mv)) := mkS h fun p0 T σ env H o env' D sr g hl hm hQ => by
  subst htv
  obtain ⟨w, e1, h1, hm⟩ := bnd_eq_ok hm
  split at hm
  · rename_i hL
    obtain ⟨xs0, hd0⟩ := isL_some hL
    obtain ⟨wi, e2, h2, hm⟩ := bnd_eq_ok hm
    split at hm
    · rename_i k hk
      have := vw_int hk
      subst this
      split at hm
      · rename_i xs hd
        split at hm
        · rename_i j hj
          cases hm
          refine ⟨p0, T, env, w, e1, sr, g, h1, fun v H1 sr1 g1 => ?_⟩
          have sr1 := sr1.fz
          obtain ⟨u, hu⟩ := sr1.cov i _ hd0
          refine ⟨u, hu, p0, _, e1, _, e2, sr1, g1, h2, fun iv H2 sr2 g2 => ?_⟩
          have hiv : iv = .int k := sr2.int
          have sr2 := sr2.drop
          obtain ⟨a, us, rfl, ha, hds⟩ := (show ∃ a us, u = .ref a ∧ H2 a = some (.lst us) ∧ Dats X.K H2 (owned H2 (pr σ e2 ++ (v, W.d (vw w)) :: T)) xs us from by simpa only [RW] using sr2.val hu hd)
          refine ⟨a, us, k, j, rfl, hiv, ha, by rw [← hds.length]; exact hj, hQ σ _ fun _ => ?_⟩
          have hdv : Dat X.K H2 (owned H2 (pr σ e2 ++ (v, W.d (vw w)) :: T)) (vw w) v := by
            simpa only [RW] using sr2.rels.at_ (v, W.d (vw w)) (List.mem_append_right _ List.mem_cons_self)
          have s2 := sr2.slot hu hd (w' := .l (xs.set j (vw w))) (fun _ => rfl) (H' := upd H2 a (.lst (us.set j v))) fun L qp q => q.write (hds.set j hdv |>.to (fun _ _ _ z => z) fun b z => (ownedM _ qp).mpr z)
          exact s2.drop
        · cases hm
      · cases hm
    · cases hm
  · cases hm
end
end Mi
set_option Elab.async false
set_option linter.all false
set_option maxRecDepth 100000
set_option maxHeartbeats 4000000
/-! Mi5: what is walked, for, while, comprehensions, targets -/
namespace Mi
open PySem PySem.Spec PyProof.Rows L2

/-! ### targets -/
abbrev Tg := D → Env → Option Env
def TgS (K : KK) (P : List Nat) (n : Nat) (vs : List Nat) (g : TG) (tg : Tg) : Prop := ∀ (p0 : L2.St) (T : List (V × W)) (σ : L2.St) (env : Env) (H : Hp) (v : V) (x : D) (env' : Env) (Q : L2.St → Hp → Prop),
  p0.length = n → SR K P p0 ((v, .d x) :: T) σ env H → tg x env = some env' → (∀ σ', wipe σ' vs = wipe σ vs → SR K P p0 T σ' env' H → Q σ' H) → g v σ H Q
def tgN (j : Nat) : Tg := fun x e => some (e.set j (some (.d x)))
def tgL : List Tg → List D → Env → Option Env
  | [], [], e => some e
  | t :: ts, x :: xs, e => (t x e).bind (tgL ts xs)
  | _, _, _ => none
def tgT (ts : List Tg) : Tg := fun x e => match x with
  | .tuple xs => tgL ts xs e
  | _ => none
/-- the slots that a target stores: for comprehensions -/
def TgsS (K : KK) (P : List Nat) (n : Nat) (ws : List Nat) (g : TGs) (ts : List Tg) : Prop := ∀ (p0 : L2.St) (T : List (V × W)) (σ : L2.St) (env : Env) (H : Hp) (vs : List V) (xs : List D) (env' : Env) (Q : L2.St → Hp → Prop),
  p0.length = n → Dats K H (owned H (pr σ env ++ T)) xs vs → SR K P p0 T σ env H → (∀ d v, (v, d) ∈ vs.zip xs → (v, W.d d) ∈ T) → tgL ts xs env = some env' → (∀ σ', wipe σ' ws = wipe σ ws → SR K P p0 T σ' env' H → Q σ' H) → g vs σ H Q
section
variable {K : KK} {P : List Nat} {n : Nat}
theorem wipe_set_in {σ : L2.St} {x : Option V} {j : Nat} : ∀ {vs : List Nat}, j ∈ vs → wipe (σ.set j x) vs = wipe σ vs
  | [], h => by simp at h
  | v :: vs, h => by
    by_cases hj : j ∈ vs
    · simp only [wipe]
      rw [wipe_set_in hj]
    · have e : j = v := by
        rcases List.mem_cons.mp h with e | e
        · exact e
        · exact absurd e hj
      subst e
      simp only [wipe]
      have : ∀ (vs : List Nat), j ∉ vs → wipe (σ.set j x) vs = (wipe σ vs).set j x := by
        intro vs
        induction vs with
        | nil => intro _; rfl
        | cons u us ih =>
          intro hu
          simp only [wipe]
          rw [ih fun z => hu (List.mem_cons_of_mem _ z), List.set_comm _ _ (fun e => hu (by rw [e]; exact List.mem_cons_self))]
      rw [this vs hj, List.set_set]
theorem tgs_name {ws : List Nat} {j : Nat} (hP : P.contains j = false) (hj : j < n) (hw : j ∈ ws) : TgS K P n ws (gName j) (tgN j) := fun p0 T σ env H v x env' Q hn sr h hQ => by
  have hP' : j ∉ P := fun z => by rw [List.contains_iff_mem.mpr z] at hP; cases hP
  cases h
  exact hQ _ (wipe_set_in hw) (sr.store (by rw [← sr.len0, hn]; exact hj) hP')
theorem tgs_nil {ws : List Nat} : TgsS K P n ws gNil [] := fun p0 T σ env H vs xs env' Q hn hd sr hm h hQ => by
  cases xs with
  | nil =>
    cases h
    simp only [Dats] at hd
    exact ⟨hd, hQ σ rfl sr⟩
  | cons x xs => cases h
theorem tgs_cons {ws : List Nat} {g : TG} {gs : TGs} {t : Tg} {ts : List Tg} (h1 : TgS K P n ws g t) (h2 : TgsS K P n ws gs ts) : TgsS K P n ws (gCons g gs) (t :: ts) := fun p0 T σ env H vs xs env' Q hn hd sr hm h hQ => by
  cases xs with
  | nil => cases h
  | cons x xs =>
    simp only [Dats] at hd
    obtain ⟨v, r, rfl, hx, hr⟩ := hd
    obtain ⟨e1, h3, h4⟩ := Option.bind_eq_some_iff.mp (show (t x env).bind (tgL ts xs) = some env' from h)
    refine ⟨v, r, rfl, h1 p0 T σ env H v x e1 _ hn (sr.push (sr.rels.data hx)) h3 fun σ1 wp1 sr1 => ?_⟩
    refine h2 p0 T σ1 e1 H r xs env' Q hn ?_ sr1 (fun d u z => hm d u (List.mem_cons_of_mem _ z)) h4 (fun σ' wp' s' => hQ σ' (wp'.trans wp1) s')
    -- the items are held in T
    have all : ∀ (xs : List D) (r : List V), r.length = xs.length → (∀ d u, (u, d) ∈ r.zip xs → (u, W.d d) ∈ T) → Dats K H (owned H (pr σ1 e1 ++ T)) xs r := by
      intro xs
      induction xs with
      | nil => intro r hl _; cases r with
        | nil => rfl
        | cons _ _ => simp at hl
      | cons y ys ih => intro r hl hm; cases r with
        | nil => simp at hl
        | cons u us =>
          refine ⟨u, us, rfl, ?_, ih us (by simpa using hl) fun d w z => hm d w (List.mem_cons_of_mem _ z)⟩
          simpa only [RW] using sr1.rels.at_ (u, W.d y) (List.mem_append_right _ (hm y u List.mem_cons_self))
    exact all xs r hr.length.symm fun d u z => hm d u (List.mem_cons_of_mem _ z)
theorem owned_zip {H : Hp} (l : List (V × D)) (A T : List (V × W)) : owned H (A ++ (l.map (fun p => (p.1, W.d p.2)) ++ T)) = owned H (A ++ T) := by
  rw [owned_app, owned_app, owned_app]
  congr 1
  have : owned H (l.map (fun p => (p.1, W.d p.2))) = [] := by
    induction l with
    | nil => rfl
    | cons p l ih => rw [List.map_cons, owned_d]; exact ih
  rw [this, List.nil_append]
theorem heldDs : ∀ {xs : List D} {vs : List V} {T : List (V × W)} {σ : L2.St} {env : Env} {p0 : L2.St} {H : Hp}, SR K P p0 T σ env H → Dats K H (owned H (pr σ env ++ T)) xs vs → SR K P p0 ((vs.zip xs).map (fun p => (p.1, W.d p.2)) ++ T) σ env H
  | [], vs, T, σ, env, p0, H, sr, hd => by simp only [Dats] at hd; subst hd; exact sr
  | x :: xs, vs, T, σ, env, p0, H, sr, hd => by
    simp only [Dats] at hd
    obtain ⟨v, r, rfl, hx, hr⟩ := hd
    have s2 := heldDs sr hr
    refine s2.push (s2.rels.data ?_)
    refine hx.to (fun _ _ _ z => z) fun a z => ?_
    rw [owned_zip] at z
    exact z
theorem tgs_tup {ws : List Nat} {gs : TGs} {ts : List Tg} {k : Nat} (hk : ts.length = k) (h : TgsS K P n ws gs ts) : TgS K P n ws (gTup K k gs) (tgT ts) := fun p0 T σ env H v x env' Q hn sr hx hQ => by
  unfold tgT at hx
  split at hx
  · rename_i xs
    have q := sr.dat
    simp only [Dat] at q
    obtain ⟨a, vs, e, hs, _, hd⟩ := q
    have hl : ∀ (ts : List Tg) (xs : List D) (e e' : Env), tgL ts xs e = some e' → ts.length = xs.length := by
      intro ts
      induction ts with
      | nil => intro xs e e' h; cases xs with
        | nil => rfl
        | cons _ _ => cases h
      | cons t ts ih => intro xs e e' h; cases xs with
        | nil => cases h
        | cons x xs =>
          obtain ⟨e1, h3, h4⟩ := Option.bind_eq_some_iff.mp (show (t x e).bind (tgL ts xs) = some e' from h)
          simp [ih xs e1 e' h4]
    refine ⟨a, vs, e, hs, by rw [← hd.length, ← hl _ _ _ _ hx]; exact hk, ?_⟩
    have sr1 := heldDs sr.drop hd
    refine h p0 _ σ env H vs xs env' _ hn ?_ sr1 ?_ hx fun σ' wp' sr' => hQ σ' wp' (sr'.sub (List.sublist_append_right _ _))
    · refine hd.to (fun _ _ _ z => z) fun a z => ?_
      rw [owned_zip] at z
      exact z
    · intro d u z
      exact List.mem_append_left _ (List.mem_map.mpr ⟨(u, d), z, rfl⟩)
  · cases hx
end

/-! ### what is walked -/
structure ItOk (K : KK) (J : It) (xs : List D) (S : List (V × W)) : Prop where
  go : ∀ (i : Nat) (H : Hp) (L : List (V × W)), i < xs.length → Rels K H L → (∀ p ∈ S, p ∈ L) → J.go i H
  stop : ∀ (H : Hp) (L : List (V × W)), Rels K H L → (∀ p ∈ S, p ∈ L) → J.stop xs.length H
  yld : ∀ (i : Nat) (H : Hp) (L : List (V × W)) (x : V) (H' : Hp) (d : D), Rels K H L → (∀ p ∈ S, p ∈ L) → xs[i]? = some d → J.yld i H x H' → (Good K H' → Good K H ∧ Rels K H' ((x, .d d) :: L))
abbrev MI := Env → Res (List D)
def tI (K : KK) (P : List Nat) (src : MI) : TI := fun σ H R => ∃ p0 T env xs env', SR K P p0 T σ env H ∧ Good K H ∧ src env = .ok xs env' ∧
  ∀ J S H', ItOk K J xs S → SR K P p0 (S ++ T) σ env' H' → Good K H' → R J H'
section
variable {X : Cx} {P : List Nat} {tg iter : Expr}
theorem mkI {wi : TI} {src : MI} (h : PI X tg iter wi)
    (k : ∀ (p0 : L2.St) (T : List (V × W)) (σ : L2.St) (env : Env) (H : Hp) (xs : List D) (env' : Env) (R : It → Hp → Prop), SR X.K P p0 T σ env H → Good X.K H → src env = .ok xs env' →
      (∀ J S H', ItOk X.K J xs S → (Good X.K H' → SR X.K P p0 (S ++ T) σ env' H') → R J H') → wi σ H R) : PI X tg iter (tI X.K P src) := by
  refine ⟨fun pins s σ H R I hq => ?_⟩
  obtain ⟨p0, T, env, xs, env', sr, g, hm, hQ⟩ := hq
  refine thn (h.run pins s σ H (fun J H' => Good X.K H' → R J H') I (k p0 T σ env H xs env' _ sr g hm fun J S H' io q g' => hQ J S H' io (q g') g')) fun v s1 h1 => ?_
  refine thn h1 fun itv s2 h2 => ?_
  obtain ⟨it, fp, tn, J, H', e1, I', h3, h4, h5, h6⟩ := h2
  exact ⟨it, fp, tn, J, H', e1, I', h3, h4, h5, h6 (inv_good I')⟩
/-- a list, by its value -/
def iSeq (m : ME) : MI := fun e => bnd (m e) fun w e1 => match vw w with
  | .list xs => .ok xs e1
  | _ => .no
def iTup' (m : ME) : MI := fun e => bnd (m e) fun w e1 => match vw w with
  | .tuple xs => .ok xs e1
  | _ => .no
theorem Dats.at {K : KK} {H : Hp} {O : List Addr} {xs : List D} {vs : List V} (h : Dats K H O xs vs) {i : Nat} {d : D} (e : xs[i]? = some d) {x : V} (hx : vs[i]? = some x) : Dat K H O d x := by
  obtain ⟨v, h1, h2⟩ := h.get e
  rw [h1] at hx; cases hx
  exact h2
theorem Dats.lt {K : KK} {H : Hp} {O : List Addr} {xs : List D} {vs : List V} (h : Dats K H O xs vs) {i : Nat} (e : i < xs.length) : ∃ x, vs[i]? = some x := by
  rw [h.length] at e
  exact ⟨vs[i], by simp [e]⟩
theorem itOk_list {K : KK} {a : Addr} {xs : List D} : ItOk K (Itl K a) xs [(.ref a, .d (.list xs))] where
  go := fun i H L hi h s => by
    obtain ⟨b, vs, e, h1, _, h2⟩ := (show ∃ b vs, V.ref a = .ref b ∧ SqL K H b vs ∧ b ∉ owned H L ∧ Dats K H (owned H L) xs vs from by simpa only [RW, Dat] using h.at_ _ (s _ List.mem_cons_self))
    cases e
    obtain ⟨x, hx⟩ := h2.lt hi
    exact ⟨vs, x, h1, hx⟩
  stop := fun H L h s => by
    obtain ⟨b, vs, e, h1, _, h2⟩ := (show ∃ b vs, V.ref a = .ref b ∧ SqL K H b vs ∧ b ∉ owned H L ∧ Dats K H (owned H L) xs vs from by simpa only [RW, Dat] using h.at_ _ (s _ List.mem_cons_self))
    cases e
    exact ⟨vs, h1, by rw [h2.length]; exact Nat.le_refl _⟩
  yld := fun i H L x H' d h s e y g => by
    obtain ⟨b, vs, e2, h1, _, h2⟩ := (show ∃ b vs, V.ref a = .ref b ∧ SqL K H b vs ∧ b ∉ owned H L ∧ Dats K H (owned H L) xs vs from by simpa only [RW, Dat] using h.at_ _ (s _ List.mem_cons_self))
    cases e2
    obtain ⟨rfl, hy⟩ := y
    exact ⟨g, h.data (h2.at e (hy vs h1))⟩
theorem itOk_tup {K : KK} {a : Addr} {xs : List D} : ItOk K (Itt K a) xs [(.ref a, .d (.tuple xs))] where
  go := fun i H L hi h s => by
    obtain ⟨b, vs, e, h1, _, h2⟩ := (show ∃ b vs, V.ref a = .ref b ∧ SqT K H b vs ∧ b ∉ owned H L ∧ Dats K H (owned H L) xs vs from by simpa only [RW, Dat] using h.at_ _ (s _ List.mem_cons_self))
    cases e
    obtain ⟨x, hx⟩ := h2.lt hi
    exact ⟨vs, x, h1, hx⟩
  stop := fun H L h s => by
    obtain ⟨b, vs, e, h1, _, h2⟩ := (show ∃ b vs, V.ref a = .ref b ∧ SqT K H b vs ∧ b ∉ owned H L ∧ Dats K H (owned H L) xs vs from by simpa only [RW, Dat] using h.at_ _ (s _ List.mem_cons_self))
    cases e
    exact ⟨vs, h1, by rw [h2.length]; exact Nat.le_refl _⟩
  yld := fun i H L x H' d h s e y g => by
    obtain ⟨b, vs, e2, h1, _, h2⟩ := (show ∃ b vs, V.ref a = .ref b ∧ SqT K H b vs ∧ b ∉ owned H L ∧ Dats K H (owned H L) xs vs from by simpa only [RW, Dat] using h.at_ _ (s _ List.mem_cons_self))
    cases e2
    obtain ⟨rfl, hy⟩ := y
    exact ⟨g, h.data (h2.at e (hy vs h1))⟩
/-- ranges -/
def rng (lo : Int) (n : Nat) : List D := (List.range n).map fun (i : Nat) => PyData.int (lo + (i : Int))
theorem itOk_rng {K : KK} {lo : Int} {n : Nat} : ItOk K (Itr lo n) (rng lo n) [] where
  go := fun i H L hi h s => by simpa [rng, Itr] using hi
  stop := fun H L h s => by simp [rng, Itr]
  yld := fun i H L x H' d h s e y g => by
    obtain ⟨rfl, rfl⟩ := y
    have : d = .int (lo + i) := by
      simp only [rng, List.getElem?_map] at e
      by_cases hi : i < n
      · rw [List.getElem?_range hi] at e
        cases e; rfl
      · rw [List.getElem?_eq_none (by simpa using hi)] at e
        cases e
    subst this
    exact ⟨g, h.data (by simp [Dat])⟩
def iR1 (a : ME) : MI := fun e => bnd (a e) fun w e1 => match vw w with
  | .int j => if -4611686018427387904 ≤ j ∧ j < 4611686018427387904 then .ok (rng 0 j.toNat) e1 else .no
  | _ => .no
def iR2 (a b : ME) : MI := fun e => bnd (a e) fun w e1 => bnd (b e1) fun w2 e2 => match vw w with
  | .int i => (match vw w2 with
    | .int j => if -4611686018427387904 ≤ i ∧ i < 4611686018427387904 ∧ -4611686018427387904 ≤ j ∧ j < 4611686018427387904 then .ok (rng i (j - i).toNat) e2 else .no
    | _ => .no)
  | _ => .no
theorem pi_r1M {m : ME} {ta : TA} (hta : ta = tF X.K P [m]) (h : PI X tg iter (iRng1 ta)) : PI X tg iter (tI X.K P (iR1 m)) := mkI h fun p0 T σ env H xs env' R sr g hm hR => by
  subst hta
  obtain ⟨w, e1, h1, hm⟩ := bnd_eq_ok hm
  split at hm
  · rename_i j hw
    split at hm
    · rename_i hj
      obtain ⟨rfl, rfl⟩ : rng 0 j.toNat = xs ∧ e1 = env' := by cases hm; exact ⟨rfl, rfl⟩
      refine ⟨p0, T, env, [.int j], e1, sr, g, by simp only [evT, h1, bnd_ok, hw], fun vs H1 hd sr1 g1 => ?_⟩
      obtain ⟨v, r, rfl, hv, rfl⟩ := hd
      have hv' : v = .int j := by simpa only [Dat] using hv
      subst hv'
      exact ⟨j, rfl, hj.1, hj.2, hR _ [] H1 itOk_rng fun _ => sr1⟩
    · cases hm
  · cases hm
/-! ### for -/
def forL (tg : Tg) (b : MS) : List D → MS
  | [], e => .ok .nx e
  | x :: xs, e => match tg x e with
    | none => .no
    | some e0 => bnd (b e0) fun o e1 => match o with
      | .nx => forL tg b xs e1
      | .ct => forL tg b xs e1
      | .bk => .ok .nx e1
      | .rt w => .ok (.rt w) e1
def sFor (src : MI) (tg : Tg) (b : MS) : MS := fun e => bnd (src e) fun xs e1 => forL tg b xs e1
theorem pg_good {target : Expr} {t : TG} (h : PG X target t) : PG X target (fun v σ H Q => Good X.K H → t v σ H Q) :=
  ⟨fun pins s σ H v u Q I r hq => h.run pins s σ H v u Q I r (hq (inv_good I))⟩
theorem ps_forM {ws : List Nat} {body : List Stmt} {pos : Pos} {src : MI} {g : TG} {t : Tg} {mb : MS} (hp : PassesOwn (model X.prog X.w) X.A X.env X.xe) (hc : X.calm = true) (hi : PI X tg iter (tI X.K P src)) (hg : PG X tg g) (hgs : TgS X.K P X.N.length ws g t) (hb : PSs X body (tS X.K P mb))
    (hs : ∀ x, foldedSetIterable iter X.env x = pure x := by intro _; rfl) : PS X (.For tg iter body [] pos) (tS X.K P (sFor src t mb)) := mkS (ps_for hp hc hi (pg_good hg) hb hs) fun p0 T σ env H o env' D sr gd hl hm hQ => by
  obtain ⟨xs, e1, h1, hm⟩ := bnd_eq_ok hm
  have hn : p0.length = X.N.length := by rw [sr.len0, hl]
  refine ⟨p0, T, env, xs, e1, sr, gd, h1, fun J S H1 io sr1 g1 => ?_⟩
  refine ⟨fun i m σ H => m = xs.length - i ∧ i ≤ xs.length ∧ ∃ ei, SR X.K P p0 (S ++ T) σ ei H ∧ Good X.K H ∧ forL t mb (xs.drop i) ei = .ok o env', ⟨xs.length, by simp, Nat.zero_le _, e1, sr1, g1, by simpa using hm⟩, ?_⟩
  rintro i m σ2 H2 ⟨rfl, hi2, ei, sr2, g2, hf⟩
  have hS : ∀ p ∈ S, p ∈ pr σ2 ei ++ (S ++ T) := fun p z => List.mem_append_right _ (List.mem_append_left _ z)
  by_cases hlt : i < xs.length
  · have hx : xs[i]? = some xs[i] := by simp [hlt]
    rw [List.drop_eq_getElem_cons hlt] at hf
    refine .inr ⟨io.go i H2 _ hlt sr2.rels hS, fun σ' H' => ∃ ei, SR X.K P p0 (S ++ T) σ' ei H' ∧ Good X.K H' ∧ forL t mb (xs.drop (i + 1)) ei = .ok o env', fun σ' H' ⟨ej, q1, q2, q3⟩ => ⟨xs.length - (i + 1), by omega, rfl, hlt, ej, q1, q2, q3⟩, fun x H' y g3 => ?_⟩
    obtain ⟨_, q⟩ := io.yld i H2 _ x H' _ sr2.rels hS hx y g3
    have sr3 : SR X.K P p0 ((x, .d xs[i]) :: (S ++ T)) σ2 ei H' := sr2.push q
    change (match t xs[i] ei with
      | none => Res.no
      | some e0 => bnd (mb e0) fun o e1 => match o with
        | .nx => forL t mb (xs.drop (i + 1)) e1
        | .ct => forL t mb (xs.drop (i + 1)) e1
        | .bk => .ok .nx e1
        | .rt w => .ok (.rt w) e1) = _ at hf
    cases ht : t xs[i] ei with
    | none => rw [ht] at hf; cases hf
    | some e0 =>
    rw [ht] at hf
    obtain ⟨ob, e2, hb2, hf⟩ := bnd_eq_ok hf
    refine hgs p0 (S ++ T) σ2 ei H' x xs[i] e0 _ hn sr3 ht fun σ3 _ sr4 => ⟨p0, S ++ T, e0, ob, e2, sr4, g3, hb2, ?_⟩
    cases ob with
    | nx => exact fun σ4 H4 q4 g4 => ⟨e2, q4, g4, hf⟩
    | ct => exact fun σ4 H4 q4 g4 => ⟨e2, q4, g4, hf⟩
    | bk => cases hf; exact fun σ4 H4 q4 g4 => hQ σ4 H4 fun _ => q4.sub (List.sublist_append_right _ _)
    | rt w => cases hf; exact fun v σ4 H4 q4 g4 => hQ v σ4 H4 fun _ => q4.sub (List.Sublist.cons_cons _ (List.sublist_append_right _ _))
  · have e : i = xs.length := by omega
    subst e
    rw [List.drop_length] at hf
    cases hf
    exact .inl ⟨io.stop H2 _ sr2.rels hS, hQ σ2 H2 fun _ => sr2.sub (List.sublist_append_right _ _)⟩

/-! ### while -/
def whL (t : MT) (b : MS) : Nat → MS
  | 0, _ => .no
  | n + 1, e => bnd (t e) fun c e1 => if c = true then bnd (b e1) fun o e2 => match o with
      | .nx => whL t b n e2
      | .ct => whL t b n e2
      | .bk => .ok .nx e2
      | .rt w => .ok (.rt w) e2
    else .ok .nx e1
def sWh (n : Nat) (t : MT) (b : MS) : MS := fun e => whL t b n e
/-- a target = a value -/
def sTg (t : Tg) (m : ME) : MS := fun e => bnd (m e) fun w e1 => match t (vw w) e1 with
  | some e2 => .ok .nx e2
  | none => .no
end
end Mi
set_option Elab.async false
set_option linter.all false
set_option maxRecDepth 100000
set_option maxHeartbeats 4000000
/-! Mi6: list comprehensions -/
namespace Mi
open PySem PySem.Spec PyProof.Rows L2

def wipeE (e : Env) : List Nat → Env
  | [] => e
  | v :: vs => (wipeE e vs).set v none
def cmpL (tg : Tg) (tt : MT) (te : ME) (vs : List Nat) : List D → Env → Res (List D)
  | [], e => .ok [] e
  | x :: xs, e => match tg x e with
    | none => .no
    | some e0 => bnd (tt e0) fun b e1 => if b = true then bnd (te e1) fun w e2 => bnd (cmpL tg tt te vs xs (wipeE e2 vs)) fun ds e3 => .ok (vw w :: ds) e3
      else cmpL tg tt te vs xs (wipeE e1 vs)
def eLc (src : MI) (tg : Tg) (tt : MT) (te : ME) (vs : List Nat) : ME := fun e => bnd (src e) fun xs e1 => if xs.length < 16777216 then bnd (cmpL tg tt te vs xs (wipeE e1 vs)) fun ds e2 => .ok (.l ds) e2 else .no
def mYes : MT := fun e => .ok true e

section
variable {K : KK} {P : List Nat} {p0 : L2.St} {T : List (V × W)} {H : Hp}
theorem SR.wip {σ : L2.St} {env : Env} (h : SR K P p0 T σ env H) : ∀ (vs : List Nat), (∀ v ∈ vs, v < σ.length) → (∀ v ∈ vs, v ∉ P) → SR K P p0 T (wipe σ vs) (wipeE env vs) H
  | [], _, _ => h
  | v :: vs, h1, h2 => by
    have q := SR.wip h vs (fun x hx => h1 x (List.mem_cons_of_mem _ hx)) fun x hx => h2 x (List.mem_cons_of_mem _ hx)
    exact q.clear (by rw [wipe_length]; exact h1 v List.mem_cons_self) (h2 v List.mem_cons_self)
theorem wipe_wipe {σ : L2.St} : ∀ (ws vs : List Nat), (∀ v ∈ ws, v ∈ vs) → wipe (wipe σ ws) vs = wipe σ vs
  | [], vs, _ => rfl
  | w :: ws, vs, h => by
    simp only [wipe]
    rw [wipe_set_in (h w List.mem_cons_self)]
    exact wipe_wipe ws vs fun v hv => h v (List.mem_cons_of_mem _ hv)
theorem wipeE_none {e : Env} : ∀ {vs : List Nat} {v : Nat}, v ∈ vs → (wipeE e vs).getD v none = none
  | u :: us, v, h => by
    simp only [wipeE]
    rw [set_getD]
    split
    · rfl
    · rename_i hn
      rcases List.mem_cons.mp h with e' | e'
      · subst e'
        have : ¬ v < (wipeE e us).length := fun z => hn ⟨rfl, z⟩
        rw [List.getD_eq_getElem?_getD, List.getElem?_eq_none (by omega)]
        rfl
      · exact wipeE_none e'
theorem pr_none : ∀ {σ : L2.St} {env : Env} {i : Nat} (s : Option V), env.getD i none = none → pr (σ.set i s) env = pr σ env
  | [], _, _, _, _ => by simp
  | _ :: _, [], i, _, _ => by cases i <;> simp [pr]
  | a :: σ, x :: e, 0, s, h => by
    have hx : x = none := h
    subst hx
    simp only [List.set_cons_zero, pr]
    congr 1
    cases s <;> cases a <;> rfl
  | a :: σ, x :: e, i + 1, s, h => by
    simp only [List.set_cons_succ, pr]
    rw [pr_none (σ := σ) (env := e) (i := i) s (by simpa using h)]
theorem pr_wipe {σ : L2.St} {env : Env} : ∀ (vs : List Nat), (∀ v ∈ vs, env.getD v none = none) → pr (wipe σ vs) env = pr σ env
  | [], _ => rfl
  | v :: vs, h => by
    simp only [wipe]
    rw [pr_none none (h v List.mem_cons_self)]
    exact pr_wipe vs fun u hu => h u (List.mem_cons_of_mem _ hu)
theorem SR.unwipe {σ : L2.St} {env : Env} (vs : List Nat) (hv : ∀ v ∈ vs, v ∉ P) (h : SR K P p0 T (wipe σ vs) env H) (he : ∀ v ∈ vs, env.getD v none = none) : SR K P p0 T σ env H := by
  have hl : (wipe σ vs).length = σ.length := wipe_length σ vs
  refine ⟨?_, by rw [← hl]; exact h.len, by rw [← hl]; exact h.len0, fun i w e => ?_, fun i hi => ?_⟩
  · rw [← pr_wipe (σ := σ) vs he]; exact h.rels
  · obtain ⟨v, q⟩ := h.cov i w e
    exact ⟨v, (wipe_some q).1⟩
  · have hni : i ∉ vs := fun z => hv i z hi
    have e : (wipe σ vs)[i]? = σ[i]? := wipe_out hni
    rw [← e]
    exact h.par i hi
end

section
variable {X : Cx} {P : List Nat}
def tT (K : KK) (P : List Nat) (m : MT) : TT := tM K P m
theorem pts_yesM : PTs X [] (tM X.K P mYes) := ⟨fun pins s σ H Q I hq => by
  obtain ⟨p0, T, env, b, env', sr, g, hm, hQ⟩ := hq
  cases hm
  exact pts_nil.run pins s σ H Q I (hQ H sr g)⟩
theorem pts_oneM {c : Expr} {m : MT} (h : PT X c (tM X.K P m)) : PTs X [c] (tM X.K P m) := pts_one h

/-- the reading of a comprehension from its mirror -/
theorem lcM {src : MI} {g : TG} {t : Tg} {mt : MT} {me : ME} {vs : List Nat} (hvP : ∀ v ∈ vs, v ∉ P) (hvN : ∀ v ∈ vs, v < X.N.length) (hgs : TgS X.K P X.N.length vs g t)
    {p0 : L2.St} {T : List (V × W)} {σ : L2.St} {env : Env} {H : Hp} {w : W} {env' : Env} {Q : VK} (sr : SR X.K P p0 T σ env H) (gd : Good X.K H) (hl : p0.length = X.N.length) (hm : eLc src t mt me vs env = .ok w env')
    (hQ : ∀ v H', (Good X.K H' → SR X.K P p0 ((v, w) :: T) σ env' H') → Q v H') :
    tLc (tI X.K P src) (fun v σ H Q => Good X.K H → g v σ H Q) (tM X.K P mt) (tE X.K P me) vs σ H Q := by
  obtain ⟨xs, e1, h1, hm⟩ := bnd_eq_ok hm
  split at hm
  rotate_left
  · cases hm
  rename_i hsz
  obtain ⟨ds, e2, h2, hm⟩ := bnd_eq_ok hm
  cases hm
  refine ⟨p0, T, env, xs, e1, sr, gd, h1, fun J S H1 io sr1 g1 Da hDa => ?_⟩
  have hσ : σ.length = X.N.length := by rw [← hl, sr.len0]
  have sr1w := sr1.wip vs (fun v hv => by rw [hσ]; exact hvN v hv) hvP
  refine ⟨fun i m H => m = xs.length - i ∧ i ≤ xs.length ∧ ∃ ei acc rest, acc ++ rest = ds ∧ acc.length ≤ i ∧ (∀ v ∈ vs, ei.getD v none = none) ∧ Rels X.K H (pr (wipe σ vs) ei ++ (S ++ T)) ∧
      (Good X.K H → SR X.K P p0 ((.ref Da, .l acc) :: (S ++ T)) (wipe σ vs) ei H) ∧ cmpL t mt me vs (xs.drop i) ei = .ok rest env', ⟨xs.length, by simp, Nat.zero_le _, wipeE e1 vs, [], ds, rfl, Nat.le_refl _, fun v hv => wipeE_none hv, ?_, fun g2 => ?_, by simpa using h2⟩, ?_⟩
  · exact sr1w.rels.laid hDa
  · have hk : X.K.lookup Da = none := by
      cases q : X.K.lookup Da with
      | none => rfl
      | some o => have := g2 Da o q; rw [upd_same] at this; cases this
    exact sr1w.push (sr1w.rels.newOwn hDa hk rfl)
  rintro i m H2 ⟨rfl, hi2, ei, acc, rest, hds, hacc, hei, rl, srg, hf⟩
  have hS : ∀ p ∈ S, p ∈ pr (wipe σ vs) ei ++ (S ++ T) := fun p z => List.mem_append_right _ (List.mem_append_left _ z)
  by_cases hlt : i < xs.length
  · have hx : xs[i]? = some xs[i] := by simp [hlt]
    rw [List.drop_eq_getElem_cons hlt] at hf
    refine .inr ⟨io.go i H2 _ hlt rl hS, fun H' => ∃ ei acc rest, acc ++ rest = ds ∧ acc.length ≤ i + 1 ∧ (∀ v ∈ vs, ei.getD v none = none) ∧ Rels X.K H' (pr (wipe σ vs) ei ++ (S ++ T)) ∧
      (Good X.K H' → SR X.K P p0 ((.ref Da, .l acc) :: (S ++ T)) (wipe σ vs) ei H') ∧ cmpL t mt me vs (xs.drop (i + 1)) ei = .ok rest env', fun H' q => ⟨xs.length - (i + 1), by omega, rfl, hlt, q⟩, fun x H' y g3 => ?_⟩
    obtain ⟨gH2, _⟩ := io.yld i H2 _ x H' _ rl hS hx y g3
    have sr2 := srg gH2
    have hS2 : ∀ p ∈ S, p ∈ pr (wipe σ vs) ei ++ ((.ref Da, .l acc) :: (S ++ T)) := fun p z => List.mem_append_right _ (List.mem_cons_of_mem _ (List.mem_append_left _ z))
    obtain ⟨_, q⟩ := io.yld i H2 _ x H' _ sr2.rels hS2 hx y g3
    have sr3 : SR X.K P p0 ((x, .d xs[i]) :: ((.ref Da, .l acc) :: (S ++ T))) (wipe σ vs) ei H' := sr2.push q
    change (match t xs[i] ei with
      | none => Res.no
      | some e0 => bnd (mt e0) fun b e1 => if b = true then bnd (me e1) fun w e2 => bnd (cmpL t mt me vs (xs.drop (i + 1)) (wipeE e2 vs)) fun ds e3 => .ok (vw w :: ds) e3
        else cmpL t mt me vs (xs.drop (i + 1)) (wipeE e1 vs)) = _ at hf
    cases ht : t xs[i] ei with
    | none => rw [ht] at hf; cases hf
    | some e0 =>
    rw [ht] at hf
    obtain ⟨b, e3, hb, hf⟩ := bnd_eq_ok hf
    have wlen : (wipe σ vs).length = X.N.length := by rw [wipe_length, hσ]
    refine hgs p0 _ (wipe σ vs) ei H' x xs[i] e0 _ hl sr3 ht fun σ2 wp sr4 => ?_
    have ww : wipe σ2 vs = wipe σ vs := wp.trans (wipe_wipe vs vs fun _ z => z)
    have l2 : σ2.length = X.N.length := by rw [← sr4.len0, hl]
    refine ⟨ww, p0, _, e0, b, e3, sr4, g3, hb, fun H3 sr5 g5 => ?_⟩
    cases b with
    | true =>
      rw [if_pos rfl] at hf ⊢
      obtain ⟨w4, e4, h4, hf⟩ := bnd_eq_ok hf
      obtain ⟨ds', e5, h5, hf⟩ := bnd_eq_ok hf
      cases hf
      refine ⟨p0, _, e3, w4, e4, sr5, g5, h4, fun y H4 sr6 g6 => ?_⟩
      have sr6 := sr6.fz
      have hacc' : ∃ us, H4 Da = some (.lst us) ∧ Dats X.K H4 (owned H4 (pr σ2 e4 ++ ((y, W.d (vw w4)) :: (V.ref Da, W.l acc) :: (S ++ T)))) acc us := by
        have q := sr6.rels.at_ (V.ref Da, W.l acc) (List.mem_append_right _ (List.mem_cons_of_mem _ List.mem_cons_self))
        simp only [RW] at q
        obtain ⟨a, us, e, q1, q2⟩ := q
        cases e
        exact ⟨us, q1, q2⟩
      obtain ⟨us, hus, hdus⟩ := hacc'
      refine ⟨us, hus, by rw [← hdus.length, sizeLine_eq]; omega, ?_⟩
      have hy : Dat X.K H4 (owned H4 (pr σ2 e4 ++ ((y, W.d (vw w4)) :: (V.ref Da, W.l acc) :: (S ++ T)))) (vw w4) y := by simpa only [RW] using sr6.rels.at_ (y, W.d (vw w4)) (List.mem_append_right _ List.mem_cons_self)
      have pq : (pr σ2 e4 ++ ((y, W.d (vw w4)) :: (V.ref Da, W.l acc) :: (S ++ T))).Perm ((V.ref Da, W.l acc) :: (pr σ2 e4 ++ ((y, W.d (vw w4)) :: (S ++ T)))) := by
        refine List.Perm.trans (List.Perm.append_left _ (List.Perm.swap _ _ _)) List.perm_middle
      have wr := (sr6.rels.perm pq).write (ys := acc ++ [vw w4]) (us := us ++ [y]) ((hdus.append (Dats.one hy)).to (fun _ _ _ z => z) fun b z => (ownedM _ pq).mpr z)
      have sr7 : SR X.K P p0 ((V.ref Da, W.l (acc ++ [vw w4])) :: (S ++ T)) σ2 e4 (upd H4 Da (.lst (us ++ [y]))) := by
        refine sr6.re (wr.sub ?_ |>.perm List.perm_middle.symm)
        refine List.Sublist.cons_cons _ (List.Sublist.append_left (List.sublist_cons_self _ _) _)
      have sr8 := sr7.wip vs (fun v hv => by rw [l2]; exact hvN v hv) hvP
      rw [ww] at sr8
      refine ⟨wipeE e4 vs, acc ++ [vw w4], ds', by rw [← hds]; simp, by simp; omega, fun v hv => wipeE_none hv, ?_, fun _ => sr8, h5⟩
      exact sr8.drop.rels
    | false =>
      rw [if_neg (by simp)] at hf ⊢
      have sr8 := sr5.wip vs (fun v hv => by rw [l2]; exact hvN v hv) hvP
      rw [ww] at sr8
      exact ⟨wipeE e3 vs, acc, rest, hds, by omega, fun v hv => wipeE_none hv, sr8.drop.rels, fun _ => sr8, hf⟩
  · have e : i = xs.length := by omega
    subst e
    rw [List.drop_length] at hf
    cases hf
    refine .inl ⟨io.stop H2 _ rl hS, hQ (.ref Da) H2 fun g2 => ?_⟩
    have := (srg g2).unwipe vs hvP hei
    rw [List.append_nil] at hds
    rw [← hds]
    exact this.sub (List.Sublist.cons_cons _ (List.sublist_append_right _ _))
end
end Mi
set_option Elab.async false
set_option linter.all false
set_option maxRecDepth 100000
set_option maxHeartbeats 4000000
/-! Mi7: comprehensions as expressions, defs, calls -/
namespace Mi
open PySem PySem.Spec PyProof.Rows L2

section
variable {X : Cx} {P : List Nat} {e : Expr}
theorem mkE' {t : TE} {m : ME} (h : PE X e t)
    (k : ∀ (p0 : L2.St) (T : List (V × W)) (σ : L2.St) (env : Env) (H : Hp) (w : W) (env' : Env) (Q : VK), p0.length = X.N.length → SR X.K P p0 T σ env H → Good X.K H → m env = .ok w env' →
      (∀ v H', (Good X.K H' → SR X.K P p0 ((v, w) :: T) σ env' H') → Q v H') → t σ H Q) : PE X e (tE X.K P m) := by
  refine ⟨fun pins s σ H Q I hq => ?_⟩
  obtain ⟨p0, T, env, w, env', sr, g, hm, hQ⟩ := hq
  refine thn (h.run pins s σ H (fun v H' => Good X.K H' → Q v H') I (k p0 T σ env H w env' _ (by rw [sr.len0, I.len]) sr g hm fun v H' q g' => hQ v H' (q g') g')) ?_
  rintro u s' ⟨v, H', I', r, q⟩
  exact ⟨v, H', I', r, q (inv_good I')⟩
theorem vsP {vs P : List Nat} (h : (vs.all fun v => !P.contains v) = true) : ∀ v ∈ vs, v ∉ P := fun v hv z => by
  have := List.all_eq_true.mp h v hv
  rw [List.contains_iff_mem.mpr z] at this
  cases this
theorem vsN {vs : List Nat} {n : Nat} (h : (vs.all fun v => decide (v < n)) = true) : ∀ v ∈ vs, v < n := fun v hv => of_decide_eq_true (List.all_eq_true.mp h v hv)
theorem pe_lcM {elt tg iter : Expr} {ifs : List Expr} {scope : Scope} {own : List (Str × Nat)} {pos : Pos} {src : MI} {g : TG} {t : Tg} {mt : MT} {me : ME} {vs : List Nat} (hvs : own.map (·.2) = vs) (hvP : (vs.all fun v => !P.contains v) = true) (hvN : (vs.all fun v => decide (v < X.N.length)) = true)
    (hgs : TgS X.K P X.N.length vs g t) (hc : X.calm = true) (hN : X.N.Nodup) (hi : PI X tg iter (tI X.K P src)) (ok : BlkOk X.N X.env.scope scope own)
    (hg : ∀ (s : Shared) (H : Hp) (C : Addr) (cl : List (Str × Addr)) (fp : List Addr), PG (X.blk s H scope (compEnvC scope cl C X.env) fp) tg g)
    (ht : ∀ (s : Shared) (H : Hp) (C : Addr) (cl : List (Str × Addr)) (fp : List Addr), PTs (X.blk s H scope (compEnvC scope cl C X.env) fp) ifs (tM X.K P mt))
    (he : ∀ (s : Shared) (H : Hp) (C : Addr) (cl : List (Str × Addr)) (fp : List Addr), PE (X.blk s H scope (compEnvC scope cl C X.env) fp) elt (tE X.K P me)) (hs : ∀ x, foldedSetIterable iter X.env x = pure x := by intro _; rfl) :
    PE X (.ListComp elt [⟨tg, iter, ifs, 0⟩] scope pos) (tE X.K P (eLc src t mt me vs)) := by
  subst hvs
  exact mkE' (pe_lc hc hN hi ok (fun s H C cl fp => pg_good (hg s H C cl fp)) ht he hs) fun p0 T σ env H w env' Q hl sr gd hm hQ => lcM (vsP hvP) (vsN hvN) hgs sr gd hl hm hQ
theorem ps_setLcM {i : Nat} {y : Str} {py : Pos} {elt tg iter : Expr} {ifs : List Expr} {scope : Scope} {own : List (Str × Nat)} {pos spos : Pos} {src : MI} {g : TG} {t : Tg} {mt : MT} {me : ME} {vs : List Nat} (hvs : own.map (·.2) = vs) (hvP : (vs.all fun v => !P.contains v) = true) (hvN : (vs.all fun v => decide (v < X.N.length)) = true)
    (hiP : P.contains i = false) (hgs : TgS X.K P X.N.length vs g t) (hc : X.calm = true) (hN : X.N.Nodup) (hy : X.N[i]? = some y) (hyl : X.env.scope.names.lookup y = some .local)
    (hsw : swapsWith (.ListComp elt [⟨tg, iter, ifs, 0⟩] scope pos) (some (.Name y py)) spos.line X.env = pure true) (hi : PI X tg iter (tI X.K P src)) (ok : BlkOk X.N X.env.scope scope own)
    (hg : ∀ (s : Shared) (H : Hp) (C : Addr) (cl : List (Str × Addr)) (fp : List Addr), PG (X.blk s H scope (compEnvC scope cl C X.env) fp) tg g)
    (ht : ∀ (s : Shared) (H : Hp) (C : Addr) (cl : List (Str × Addr)) (fp : List Addr), PTs (X.blk s H scope (compEnvC scope cl C X.env) fp) ifs (tM X.K P mt))
    (he : ∀ (s : Shared) (H : Hp) (C : Addr) (cl : List (Str × Addr)) (fp : List Addr), PE (X.blk s H scope (compEnvC scope cl C X.env) fp) elt (tE X.K P me)) (hs : ∀ x, foldedSetIterable iter X.env x = pure x := by intro _; rfl) :
    PS X (.Assign [.Name y py] (.ListComp elt [⟨tg, iter, ifs, 0⟩] scope pos) spos) (tS X.K P (sSet i (eLc src t mt me vs))) := by
  subst hvs
  have hiP' : i ∉ P := fun z => by rw [List.contains_iff_mem.mpr z] at hiP; cases hiP
  exact mkS (ps_setLc hc hN hy hyl hsw hi ok (fun s H C cl fp => pg_good (hg s H C cl fp)) ht he hs) fun p0 T σ env H o env' D sr gd hl hm hQ => by
    obtain ⟨w, e1, h1, hm⟩ := bnd_eq_ok hm
    cases hm
    have hl0 : p0.length = X.N.length := by rw [sr.len0, hl]
    exact lcM (Q := fun v H' => D.nx (σ.set i (some v)) H') (vsP hvP) (vsN hvN) hgs sr gd hl0 h1 fun v H' q => hQ _ H' fun g2 => (q g2).store (by rw [hl]; exact (List.getElem?_eq_some_iff.mp hy).1) hiP'
end

/-! ### what a def gives -/
inductive CRes where
  | ok (w : W) (outs : List W)
  | ex (x : Exn) (outs : List W)
  | no
abbrev Orc := Nat → List W → CRes
def takeA : List (Nat ⊕ D) → Env → Option (List W × Env)
  | [], e => some ([], e)
  | .inl i :: rs, e => match e.getD i none with
    | some w => if isO w = true then (match takeA rs (e.set i none) with
      | some p => some (w :: p.1, p.2)
      | none => none) else none
    | none => none
  | .inr d :: rs, e => match takeA rs e with
    | some p => some (.d d :: p.1, p.2)
    | none => none
def putO : List (Nat ⊕ D) → List W → Env → Option Env
  | [], [], e => some e
  | .inl i :: rs, w :: os, e => if isO w = true then (match putO rs os e with
    | some e2 => some (e2.set i (some w))
    | none => none) else none
  | .inr _ :: rs, os, e => putO rs os e
  | _, _, _ => none
def updW : List W → List W → List W
  | [], _ => []
  | w :: ws, [] => w :: updW ws []
  | w :: ws, o :: os => if isO w = true then o :: updW ws os else w :: updW ws (o :: os)
def eCall (C : Orc) (k : Nat) (as : List Arg) : ME := fun e => bnd (evG as e) fun rs e1 => match takeA rs e1 with
  | some p => (match C k p.1 with
    | .ok w outs => (match putO rs outs p.2 with
      | some e2 => .ok w e2
      | none => .no)
    | .ex x outs => (match putO rs outs p.2 with
      | some e2 => .ex x e2
      | none => .no)
    | .no => .no)
  | none => .no
/-- a def's promise by its mirror -/
def spF (K : KK) (n : Nat) (F : List W → CRes) : Sp := fun vs H Q _ => ∃ T ws w outs, vs.length = n ∧ vs.length = ws.length ∧ Rels K H (vs.zip ws ++ T) ∧ Good K H ∧ F ws = .ok w outs ∧
  ∀ v H', Rels K H' ((v, w) :: (vs.zip (updW ws outs) ++ T)) → Q v H'

section
variable {K : KK} {H H' : Hp} {σ : L2.St}
theorem pr_clear {e : Env} {i : Nat} {v : V} {w : W} (hv : σ[i]? = some (some v)) (hw : e.getD i none = some w) (hl : σ.length = e.length) : (pr σ e).Perm ((v, w) :: pr σ (e.set i none)) ∧ ∀ w', (pr σ ((e.set i none).set i (some w'))).Perm ((v, w') :: pr σ (e.set i none)) := by
  have hi : i < σ.length := (List.getElem?_eq_some_iff.mp hv).1
  obtain ⟨A, B, h1, h2⟩ := pr_set hi hl
  have hs : σ.getD i none = some v := by rw [List.getD_eq_getElem?_getD, hv]; rfl
  have e2 : σ.set i (some v) = σ := by
    apply List.ext_getElem?
    intro j
    rw [List.getElem?_set]
    by_cases hj : i = j
    · subst hj; rw [if_pos rfl, if_pos hi, hv]
    · rw [if_neg hj]
  have c := h2 (some v) none
  rw [e2] at c
  simp only [pc, List.nil_append] at c
  refine ⟨?_, fun w' => ?_⟩
  · rw [h1, hs, hw, c]
    simp only [pc, List.singleton_append]
    exact List.perm_middle
  · rw [List.set_set]
    have c2 := h2 (some v) (some w')
    rw [e2] at c2
    rw [c2, c]
    simp only [pc, List.singleton_append]
    exact List.perm_middle
theorem pr_fill {e : Env} {i : Nat} {v : V} {w : W} (hv : σ[i]? = some (some v)) (hw : e.getD i none = none) (hl : σ.length = e.length) : (pr σ (e.set i (some w))).Perm ((v, w) :: pr σ e) := by
  have hi : i < σ.length := (List.getElem?_eq_some_iff.mp hv).1
  obtain ⟨A, B, h1, h2⟩ := pr_set hi hl
  have hs : σ.getD i none = some v := by rw [List.getD_eq_getElem?_getD, hv]; rfl
  have e2 : σ.set i (some v) = σ := by
    apply List.ext_getElem?
    intro j
    rw [List.getElem?_set]
    by_cases hj : i = j
    · subst hj; rw [if_pos rfl, if_pos hi, hv]
    · rw [if_neg hj]
  have c := h2 (some v) (some w)
  rw [e2] at c
  rw [h1, hs, hw, c]
  simp only [pc, List.singleton_append, List.nil_append]
  exact List.perm_middle
theorem takeA_len : ∀ {rs : List (Nat ⊕ D)} {e : Env} {p : List W × Env}, takeA rs e = some p → p.2.length = e.length ∧ p.1.length = rs.length
  | [], e, p, h => by cases h; exact ⟨rfl, rfl⟩
  | .inl i :: rs, e, p, h => by
    unfold takeA at h
    split at h
    · split at h
      · split at h
        · rename_i q hq
          cases h
          have := takeA_len hq
          exact ⟨by simpa using this.1, by simpa using this.2⟩
        · cases h
      · cases h
    · cases h
  | .inr d :: rs, e, p, h => by
    unfold takeA at h
    split at h
    · rename_i q hq
      cases h
      have := takeA_len hq
      exact ⟨this.1, by simpa using this.2⟩
    · cases h
theorem ARel.len {O : List Addr} : ∀ {vs : List V} {rs : List (Nat ⊕ D)}, ARel K H O σ vs rs → vs.length = rs.length
  | [], [], _ => rfl
  | [], _ :: _, h => by simp [ARel] at h
  | _ :: _, [], h => by simp [ARel] at h
  | v :: vs, .inl i :: rs, h => by simp [ARel.len h.2]
  | v :: vs, .inr d :: rs, h => by simp [ARel.len h.2]
theorem splitA {O : List Addr} : ∀ {rs : List (Nat ⊕ D)} {vs : List V} {e : Env} {p : List W × Env} {T : List (V × W)}, takeA rs e = some p → σ.length = e.length → ARel K H O σ vs rs → (∀ a ∈ owned H (pr σ e ++ T), a ∈ O) → Rels K H (pr σ e ++ T) → Rels K H (vs.zip p.1 ++ (pr σ p.2 ++ T))
  | [], [], e, p, T, h, _, _, _, r => by cases h; exact r
  | [], _ :: _, _, _, _, _, _, a, _, _ => by simp [ARel] at a
  | _ :: _, [], _, _, _, _, _, a, _, _ => by simp [ARel] at a
  | .inl i :: rs, v :: vs, e, p, T, h, hl, a, hO, r => by
    unfold takeA at h
    split at h
    · rename_i w hx
      split at h
      · split at h
        · rename_i q hq
          cases h
          obtain ⟨pp, _⟩ := pr_clear a.1 hx hl
          have pp2 : (pr σ e ++ T).Perm (pr σ (e.set i none) ++ (v, w) :: T) := (pp.append_right T).trans List.perm_middle.symm
          have ih := splitA (T := (v, w) :: T) hq (by rw [List.length_set]; exact hl) a.2 (fun b z => hO b ((ownedM _ pp2).mpr z)) (r.perm pp2)
          refine ih.perm ?_
          show (vs.zip q.1 ++ (pr σ q.2 ++ (v, w) :: T)).Perm ((v, w) :: (vs.zip q.1 ++ (pr σ q.2 ++ T)))
          rw [← List.append_assoc, ← List.append_assoc]
          exact List.perm_middle
        · cases h
      · cases h
    · cases h
  | .inr d :: rs, v :: vs, e, p, T, h, hl, a, hO, r => by
    unfold takeA at h
    split at h
    · rename_i q hq
      cases h
      have r1 : Rels K H (pr σ e ++ (v, W.d d) :: T) := (r.data (a.1.to (fun _ _ _ z => z) hO)).perm List.perm_middle.symm
      have pp2 : (pr σ e ++ (v, W.d d) :: T).Perm ((v, W.d d) :: (pr σ e ++ T)) := List.perm_middle
      have ih := splitA (T := (v, W.d d) :: T) hq hl a.2 (fun b z => hO b (by
        have := (ownedM _ pp2).mp z
        rwa [owned_d] at this)) r1
      refine ih.perm ?_
      show (vs.zip q.1 ++ (pr σ q.2 ++ (v, W.d d) :: T)).Perm ((v, W.d d) :: (vs.zip q.1 ++ (pr σ q.2 ++ T)))
      rw [← List.append_assoc, ← List.append_assoc]
      exact List.perm_middle
    · cases h
theorem put_facts : ∀ {rs : List (Nat ⊕ D)} {e : Env} {p : List W × Env} {outs : List W} {e2 : Env}, takeA rs e = some p → putO rs outs p.2 = some e2 → e2.length = e.length ∧ (∀ j, e.getD j none = none → e2.getD j none = none) ∧ ∀ j x, e.getD j none = some x → isO x = true → ∃ y, e2.getD j none = some y ∧ isO y = true
  | [], e, p, outs, e2, h, g => by
    cases h
    cases outs with
    | nil => cases g; exact ⟨rfl, fun _ z => z, fun j xs z o => ⟨xs, z, o⟩⟩
    | cons _ _ => cases g
  | .inl i :: rs, e, p, outs, e2, h, g => by
    unfold takeA at h
    split at h
    · rename_i xs hx
      split at h
      · split at h
        · rename_i q hq
          cases h
          cases outs with
          | nil => cases g
          | cons ys os =>
            simp only [putO] at g
            split at g
            · rename_i hy
              split at g
              · rename_i e3 h3
                cases g
                obtain ⟨k1, k2, k3⟩ := put_facts hq h3
                have hie : i < e.length := by
                  by_cases hi : i < e.length
                  · exact hi
                  · rw [List.getD_eq_getElem?_getD, List.getElem?_eq_none (by omega)] at hx; cases hx
                refine ⟨by rw [List.length_set, k1, List.length_set], fun j hj => ?_, fun j zs hj ho => ?_⟩
                · have ne : i ≠ j := fun z => by rw [z, hj] at hx; cases hx
                  rw [set_getD, if_neg fun z => ne z.1]
                  exact k2 j (by rw [set_getD, if_neg fun z => ne z.1]; exact hj)
                · by_cases ne : i = j
                  · subst ne
                    exact ⟨ys, by rw [set_getD, if_pos ⟨rfl, by rw [k1, List.length_set]; exact hie⟩], hy⟩
                  · rw [set_getD, if_neg fun z => ne z.1]
                    exact k3 j zs (by rw [set_getD, if_neg fun z => ne z.1]; exact hj) ho
              · cases g
            · cases g
        · cases h
      · cases h
    · cases h
  | .inr d :: rs, e, p, outs, e2, h, g => by
    unfold takeA at h
    split at h
    · rename_i q hq
      cases h
      exact put_facts hq (show putO rs outs q.2 = some e2 by simpa only [putO] using g)
    · cases h
theorem joinA {O : List Addr} : ∀ {rs : List (Nat ⊕ D)} {vs : List V} {e : Env} {p : List W × Env} {outs : List W} {e2 : Env} {T : List (V × W)}, takeA rs e = some p → σ.length = e.length → ARel K H O σ vs rs → putO rs outs p.2 = some e2 →
    Rels K H' (vs.zip (updW p.1 outs) ++ (pr σ p.2 ++ T)) → Rels K H' (pr σ e2 ++ T)
  | [], [], e, p, outs, e2, T, h, _, _, g, r => by
    cases h
    cases outs with
    | nil => cases g; exact r
    | cons _ _ => cases g
  | [], _ :: _, _, _, _, _, _, _, _, a, _, _ => by simp [ARel] at a
  | _ :: _, [], _, _, _, _, _, _, _, a, _, _ => by simp [ARel] at a
  | .inl i :: rs, v :: vs, e, p, outs, e2, T, h, hl, a, g, r => by
    unfold takeA at h
    split at h
    · rename_i xs hx
      split at h
      · rename_i hxo
        split at h
        · rename_i q hq
          cases h
          cases outs with
          | nil => cases g
          | cons ys os =>
            simp only [putO] at g
            split at g
            · split at g
              · rename_i e3 h3
                cases g
                obtain ⟨k1, k2, _⟩ := put_facts hq h3
                have r1 : Rels K H' (vs.zip (updW q.1 os) ++ (pr σ q.2 ++ (v, ys) :: T)) := r.perm (by
                  show ((v :: vs).zip (updW (xs :: q.1) (ys :: os)) ++ (pr σ q.2 ++ T)).Perm _
                  rw [updW, if_pos hxo, List.zip_cons_cons, List.cons_append]
                  rw [← List.append_assoc, ← List.append_assoc]
                  exact List.perm_middle.symm)
                have ih := joinA (T := (v, ys) :: T) hq (by rw [List.length_set]; exact hl) a.2 h3 r1
                have hn : e3.getD i none = none := k2 i (by
                  rw [set_getD]
                  split
                  · rfl
                  · rename_i z
                    have : ¬ i < e.length := fun q => z ⟨rfl, q⟩
                    rw [List.getD_eq_getElem?_getD, List.getElem?_eq_none (by omega)]; rfl)
                have pf := pr_fill (w := ys) a.1 hn (by rw [k1, List.length_set]; exact hl)
                exact ih.perm (List.perm_middle.trans (pf.append_right T).symm)
              · cases g
            · cases g
        · cases h
      · cases h
    · cases h
  | .inr d :: rs, v :: vs, e, p, outs, e2, T, h, hl, a, g, r => by
    unfold takeA at h
    split at h
    · rename_i q hq
      cases h
      have g' : putO rs outs q.2 = some e2 := by simpa only [putO] using g
      refine joinA hq hl a.2 g' (Rels.tail (p := (v, W.d d)) ?_)
      have : updW (W.d d :: q.1) outs = .d d :: updW q.1 outs := by
        cases outs with
        | nil => rfl
        | cons o os => exact if_neg (by simp [isO])
      rw [this] at r
      exact r
    · cases h
end

/-- a def's promise where no repr is under way -/
structure FnG (P : Program) (w : World) (K : KK) (mg : Str → Option Value) (base : Heap) (k : Nat) (f : Addr) (fd : FuncData) (ps : List Str) (sp : Sp) : Prop where
  len : ∀ vs H Q E, sp vs H Q E → vs.length = ps.length
  run : ∀ (A : Around) (outer : List PySem.Env) (s : Shared) (H : Hp) (args : Args) (us : List Value) (vs : List V) (Q : VK), A.guards = some [] → Room k A → Env0 P w K mg base A outer s H → BindsTo s fd args (ps.zip us) → Vals vs us → sp vs H Q E0 →
    codeAny (model P w) A (.call (.ref f) args) (CR CX0 outer P w H s Q E0) s

section
variable {X : Cx} {k : Nat} {f : Addr} {fd : FuncData} {ps : List Str} {sp : Sp} {dvs : List V} {ds : List Value} {x : Str} {p pos : Pos} {e : Expr} {es : List Expr} {t : TA}
theorem run_fnG {pins : List (Addr × Obj)} {σ : L2.St} {H : Hp} {s : Shared} {Q : VK} {us : List Value} {vs : List V} (F : FnG X.prog X.w X.K X.mg X.base k f fd ps sp) (hgd : X.A.guards = some []) (hr : Room k X.A) (hb : Binds X.K fd ps ds) (hd : Vals dvs ds)
    (I : L2.Inv X pins σ H s) (r : Vals vs us) (h : sp (vs ++ dvs) H Q E0) : wpAny (model X.prog X.w) X.A (call (.ref f) us) (EP X pins σ Q) X.xe s := by
  have hl : (us ++ ds).length = ps.length := by rw [← (r.append hd).length]; exact F.len _ _ _ _ h
  refine wpAny_call (codeAny_mono (F.run X.A X.stack s H ⟨us, []⟩ _ _ Q hgd hr I.env0 (hb s us I.kIn hl) (r.append hd) h) fun res s' hq => ?_)
  match res, hq with
  | .ok (.ret u), hq => exact I.after hq
theorem pe_callG (F : FnG X.prog X.w X.K X.mg X.base k f fd ps sp) (hgd : X.A.guards = some []) (hr : Room k X.A) (hg : Gl X x) (hm : X.mg x = some (.ref f)) (hk : PySem.W.keepIn X.K (.ref f) = true) (hb : Binds X.K fd ps ds) (hd : Vals dvs ds)
    (ha : PA X (e :: es) t) (hdb : (x == ("__debug__" : Str)) = false := by decide) (he : starEach (e :: es) X.env = (false, eval e X.env) :: starEach es X.env := by rfl) (hpl : (backTo pos (starEach es X.env)).any (·.1) = false := by rfl) :
    PE X (.Call (.Name x p) (e :: es) [] pos) (fun σ H Q => t σ H fun vs H1 => sp (vs ++ dvs) H1 Q E0) := by
  refine ⟨fun pins s σ H Q I h => wpAny_Call_Name_kw (ld_glob I hg hm ?_ hdb)⟩
  refine PySem.W.callWith_K (h₀ := X.base) I.ok.mod.kin hk (thn (ha.run pos pins s σ H _ I h) ?_) he hpl
  rintro us s1 ⟨vs, H1, I1, r, q⟩
  exact ⟨I1.kIn, run_fnG F hgd hr hb hd I1 r q⟩
/-- a call of a def of the text, by its mirror -/
theorem pe_callM {P : List Nat} {C : Orc} {c n : Nat} {as : List Arg} (F : FnG X.prog X.w X.K X.mg X.base k f fd ps (spF X.K n (C c))) (hn : as.length + dvs.length = n) (hgd : X.A.guards = some []) (hr : Room k X.A) (hg : Gl X x) (hm : X.mg x = some (.ref f)) (hk : PySem.W.keepIn X.K (.ref f) = true) (hb : Binds X.K fd ps ds) (hd : Vals dvs ds) (hdv : dvs = [])
    (ha : PA X (e :: es) (tG X.K P as)) (hdb : (x == ("__debug__" : Str)) = false := by decide) (he : starEach (e :: es) X.env = (false, eval e X.env) :: starEach es X.env := by rfl) (hpl : (backTo pos (starEach es X.env)).any (·.1) = false := by rfl) :
    PE X (.Call (.Name x p) (e :: es) [] pos) (tE X.K P (eCall C c as)) := by
  subst hdv
  have evlen : ∀ {as : List Arg} {env e' : Env} {rs : List (Nat ⊕ D)}, evG as env = .ok rs e' → rs.length = as.length := by
    intro as
    induction as with
    | nil => intro env e' rs h; cases h; rfl
    | cons a as ih =>
      intro env e' rs h
      cases a with
      | rf i =>
        simp only [evG] at h
        split at h
        · obtain ⟨rs', e2, h2, h⟩ := bnd_eq_ok h
          cases h
          simp [ih h2]
        · obtain ⟨rs', e2, h2, h⟩ := bnd_eq_ok h
          cases h
          simp [ih h2]
        · cases h
      | vl m =>
        obtain ⟨w, e1, _, h⟩ := bnd_eq_ok h
        obtain ⟨rs', e2, h2, h⟩ := bnd_eq_ok h
        cases h
        simp [ih h2]
  exact mkE (pe_callG F hgd hr hg hm hk hb hd ha hdb he hpl) fun p0 T σ env H w env' Q sr gd hm hQ => by
    obtain ⟨rs, e1, h1, hm⟩ := bnd_eq_ok hm
    refine ⟨p0, T, env, rs, e1, sr, gd, h1, fun vs H1 ar sr1 g1 => ?_⟩
    split at hm
    · rename_i q hq
      split at hm
      · rename_i w' outs hC
        split at hm
        · rename_i e2 he2
          cases hm
          have hl := takeA_len hq
          obtain ⟨k1, k2, k3⟩ := put_facts hq he2
          rw [List.append_nil]
          refine ⟨pr σ q.2 ++ T, q.1, w, outs, ?_, ?_, splitA hq sr1.len ar (fun _ z => z) sr1.rels, g1, hC, fun v H2 r => hQ v H2 fun _ => ?_⟩
          · rw [ar.len, evlen h1]; simpa using hn
          · rw [ar.len, hl.2]
          · have r2 : Rels X.K H2 (vs.zip (updW q.1 outs) ++ (pr σ q.2 ++ (v, w) :: T)) := r.perm (by
              rw [← List.append_assoc, ← List.append_assoc]
              exact List.perm_middle.symm)
            have r3 := joinA (T := (v, w) :: T) hq sr1.len ar he2 r2
            exact ⟨r3, by rw [k1]; exact sr1.len, sr1.len0, fun i x hx => by
              cases hd1 : e1.getD i none with
              | none => rw [k2 i hd1] at hx; cases hx
              | some y => exact sr1.cov i y hd1, fun i hi => ⟨(sr1.par i hi).1, by
                obtain ⟨xs, hxs, ho⟩ := (sr1.par i hi).2
                exact k3 i xs hxs ho⟩⟩
        · cases hm
      · split at hm <;> cases hm
      · cases hm
    · cases hm
end
end Mi
set_option Elab.async false
set_option linter.all false
set_option maxRecDepth 100000
set_option maxHeartbeats 4000000
/-! Mi8: a def by its mirror -/
namespace Mi
open PySem PySem.Spec PyProof.Rows L2

def lpos : List W → Nat → List Nat
  | [], _ => []
  | w :: ws, i => if isO w = true then i :: lpos ws (i + 1) else lpos ws (i + 1)
def contO (e : Env) : List Nat → Option (List W)
  | [] => some []
  | i :: is => match e.getD i none with
    | some w => if isO w = true then (match contO e is with
      | some r => some (w :: r)
      | none => none) else none
    | none => none
def endF : Option (List W) → Out → CRes
  | some outs, .rt w => .ok w outs
  | some outs, .nx => .ok (.d .none) outs
  | _, _ => .no
def endX : Option (List W) → Exn → CRes
  | some outs, x => .ex x outs
  | none, _ => .no
/-- np parameters of n names; what is owned is handed on at the slots of one of Ps -/
def runF (np n : Nat) (Ps : List (List Nat)) (m : MS) (ws : List W) : CRes :=
  if ws.length = np ∧ Ps.contains (lpos ws 0) = true then
    match m (ws.map some ++ List.replicate (n - np) none) with
    | .ok o e => endF (contO e (lpos ws 0)) o
    | .ex x e => endX (contO e (lpos ws 0)) x
    | .no => .no
  else .no

section
variable {K : KK} {H H' : Hp}
theorem lpos_ge : ∀ {ws : List W} {i j : Nat}, j ∈ lpos ws i → i ≤ j ∧ ∃ w, ws[j - i]? = some w ∧ isO w = true
  | [], i, j, h => by simp [lpos] at h
  | w :: ws, i, j, h => by
    have next : j ∈ lpos ws (i + 1) → i ≤ j ∧ ∃ x, (w :: ws)[j - i]? = some x ∧ isO x = true := fun h => by
      obtain ⟨h1, ys, h2⟩ := lpos_ge h
      refine ⟨by omega, ys, ?_⟩
      have : j - i = (j - (i + 1)) + 1 := by omega
      rw [this]
      simpa using h2
    simp only [lpos] at h
    split at h
    · rename_i ho
      rcases List.mem_cons.mp h with h | h
      · subst h; exact ⟨Nat.le_refl _, w, by simp, ho⟩
      · exact next h
    · exact next h
theorem contO_cons {e' : Env} {i : Nat} {is : List Nat} {outs : List W} (h : contO e' (i :: is) = some outs) : ∃ w r, outs = w :: r ∧ e'.getD i none = some w ∧ isO w = true ∧ contO e' is = some r := by
  simp only [contO] at h
  split at h
  · rename_i w hx
    split at h
    · rename_i ho
      split at h
      · rename_i r hr
        cases h
        exact ⟨w, r, rfl, hx, ho, hr⟩
      · cases h
    · cases h
  · cases h
theorem updW_no {w : W} {ws outs : List W} (h : isO w = false) : updW (w :: ws) outs = w :: updW ws outs := by
  cases outs with
  | nil => rfl
  | cons o os => exact if_neg (by rw [h]; decide)
theorem updW_yes {w o : W} {ws os : List W} (h : isO w = true) : updW (w :: ws) (o :: os) = o :: updW ws os := if_pos h
theorem updW_mem {e' : Env} : ∀ {ws : List W} {i0 : Nat} {vs : List V} {outs : List W}, contO e' (lpos ws i0) = some outs → ∀ p ∈ vs.zip (updW ws outs), (isO p.2 = false ∧ p ∈ vs.zip ws) ∨ ∃ i, i ∈ lpos ws i0 ∧ vs[i - i0]? = some p.1 ∧ isO p.2 = true ∧ e'.getD i none = some p.2
  | [], i0, vs, outs, h, p, hp => by simp [updW] at hp
  | w :: ws, i0, [], outs, h, p, hp => by simp at hp
  | w :: ws, i0, v :: vs, outs, h, p, hp => by
    have later : ∀ r, contO e' (lpos ws (i0 + 1)) = some r → p ∈ vs.zip (updW ws r) → (isO p.2 = false ∧ p ∈ (v :: vs).zip (w :: ws)) ∨ ∃ i, i ∈ lpos ws (i0 + 1) ∧ (v :: vs)[i - i0]? = some p.1 ∧ isO p.2 = true ∧ e'.getD i none = some p.2 := fun r hr hp => by
      rcases updW_mem hr p hp with ⟨a, b⟩ | ⟨i, a, b, c, d⟩
      · exact .inl ⟨a, List.mem_cons_of_mem _ b⟩
      · have := (lpos_ge a).1
        refine .inr ⟨i, a, ?_, c, d⟩
        have e : i - i0 = (i - (i0 + 1)) + 1 := by omega
        rw [e]
        simpa using b
    simp only [lpos] at h ⊢
    cases ho : isO w with
    | true =>
      rw [if_pos ho] at h
      obtain ⟨x, r, rfl, hx, hxo, hr⟩ := contO_cons h
      rw [updW_yes ho, List.zip_cons_cons, List.mem_cons] at hp
      rcases hp with rfl | hp
      · exact .inr ⟨i0, by rw [if_pos rfl]; exact List.mem_cons_self, by simp, hxo, hx⟩
      · rcases later r hr hp with a | ⟨i, a, b⟩
        · exact .inl a
        · exact .inr ⟨i, by rw [if_pos rfl]; exact List.mem_cons_of_mem _ a, b⟩
    | false =>
      rw [if_neg (by rw [ho]; decide)] at h
      rw [updW_no ho, List.zip_cons_cons, List.mem_cons] at hp
      rcases hp with rfl | hp
      · exact .inl ⟨ho, List.mem_cons_self⟩
      · rcases later outs h hp with a | ⟨i, a, b⟩
        · exact .inl a
        · exact .inr ⟨i, by rw [if_neg (by decide)]; exact a, b⟩
theorem pr_drop_sub {σ : L2.St} {e : Env} (k : Nat) : (pr (σ.drop (k + 1)) (e.drop (k + 1))).Sublist (pr (σ.drop k) (e.drop k)) := by
  rw [← List.drop_drop, ← List.drop_drop]
  cases hσ : σ.drop k with
  | nil => simp [pr]
  | cons s σ' =>
    cases he : e.drop k with
    | nil => cases hx : List.drop 1 (s :: σ') <;> simp [pr]
    | cons x e' =>
      simp only [List.drop_succ_cons, List.drop_zero, pr]
      exact List.sublist_append_right _ _
theorem pr_drop_cons {σ : L2.St} {e : Env} {k : Nat} {v : V} {w : W} (h : σ[k]? = some (some v)) (g : e.getD k none = some w) : pr (σ.drop k) (e.drop k) = (v, w) :: pr (σ.drop (k + 1)) (e.drop (k + 1)) := by
  have h1 : k < σ.length := (List.getElem?_eq_some_iff.mp h).1
  have g1 : k < e.length := by
    by_cases hi : k < e.length
    · exact hi
    · rw [List.getD_eq_getElem?_getD, List.getElem?_eq_none (by omega)] at g; cases g
  have h2 : σ[k] = some v := by
    have := h
    rw [List.getElem?_eq_getElem h1] at this
    exact Option.some.inj this
  have g2 : e[k] = some w := by
    rw [List.getD_eq_getElem?_getD, List.getElem?_eq_getElem g1] at g
    exact g
  rw [List.drop_eq_getElem_cons h1, List.drop_eq_getElem_cons g1, h2, g2]
  rfl
theorem owned_no {v : V} {w : W} {L : List (V × W)} (h : isO w = false) : owned H ((v, w) :: L) = owned H L := by
  cases w with
  | d x => exact owned_d
  | l xs => cases h
  | t g ws => cases h
/-- the lists handed on are among what the slots bear -/
theorem sub_back {e' : Env} {σ : L2.St} : ∀ {ws : List W} {i0 : Nat} {vs : List V} {outs : List W}, contO e' (lpos ws i0) = some outs → vs.length = ws.length →
    (∀ i, i ∈ lpos ws i0 → ∃ v, vs[i - i0]? = some v ∧ σ[i]? = some (some v)) → ∃ S, S.Sublist (pr (σ.drop i0) (e'.drop i0)) ∧ owned H (vs.zip (updW ws outs)) = owned H S
  | [], i0, vs, outs, h, _, _ => ⟨[], by simp, by simp [updW]⟩
  | w :: ws, i0, [], outs, h, hl, _ => by simp at hl
  | w :: ws, i0, v :: vs, outs, h, hl, hs => by
    have hs' : ∀ i, i ∈ lpos ws (i0 + 1) → ∃ u, vs[i - (i0 + 1)]? = some u ∧ σ[i]? = some (some u) := fun i hi => by
      have hm : i ∈ lpos (w :: ws) i0 := by
        simp only [lpos]
        split
        · exact List.mem_cons_of_mem _ hi
        · exact hi
      obtain ⟨u, h1, h2⟩ := hs i hm
      have := (lpos_ge hi).1
      have e : i - i0 = (i - (i0 + 1)) + 1 := by omega
      rw [e] at h1
      exact ⟨u, by simpa using h1, h2⟩
    simp only [lpos] at h hs
    cases ho : isO w with
    | true =>
      rw [if_pos ho] at h
      obtain ⟨x, r, rfl, hx, hxo, hr⟩ := contO_cons h
      obtain ⟨S, h1, h2⟩ := sub_back hr (by simpa using hl) hs'
      obtain ⟨u, h3, h4⟩ := hs i0 (by rw [if_pos ho]; exact List.mem_cons_self)
      have hu : u = v := by simpa using h3.symm
      subst hu
      refine ⟨(u, x) :: S, ?_, ?_⟩
      · rw [pr_drop_cons h4 hx]
        exact List.Sublist.cons_cons _ h1
      · rw [updW_yes ho, List.zip_cons_cons, owned_c, owned_c, h2]
    | false =>
      rw [if_neg (by rw [ho]; decide)] at h
      obtain ⟨S, h1, h2⟩ := sub_back h (by simpa using hl) hs'
      refine ⟨S, h1.trans (pr_drop_sub i0), ?_⟩
      rw [updW_no ho, List.zip_cons_cons, owned_no ho, h2]
theorem Rels.ofMem {L L' : List (V × W)} (h : Rels K H L) (hm : ∀ p ∈ L', p ∈ L) (nd : (owned H L').Nodup) : Rels K H L' := by
  refine ⟨nd, fun p hp => RW.to (fun _ _ _ z => z) (fun a z => ?_) p.2 p.1 (fun _ _ => rfl) (h.at_ p (hm p hp))⟩
  obtain ⟨q, hq, hx⟩ := mem_owned.mp z
  exact mem_owned.mpr ⟨q, hm _ hq, hx⟩
/-- the data among the arguments -/
def dPart (l : List (V × W)) : List (V × W) := l.filter fun p => !isO p.2
theorem mem_dPart {p : V × W} {l : List (V × W)} : p ∈ dPart l ↔ p ∈ l ∧ isO p.2 = false := by
  unfold dPart
  rw [List.mem_filter]
  simp
theorem Rels.dup {L : List (V × W)} (h : Rels K H L) : ∀ (A : List (V × W)), (∀ p ∈ A, p ∈ L) → Rels K H (dPart A ++ L)
  | [], _ => h
  | (v, w) :: A, hA => by
    have ih := Rels.dup h A fun p hp => hA p (List.mem_cons_of_mem _ hp)
    unfold dPart
    rw [List.filter_cons]
    split
    · rename_i ho
      cases w with
      | d d =>
        refine Rels.data ih ?_
        have q := ih.at_ (v, .d d) (List.mem_append_right _ (hA _ List.mem_cons_self))
        simp only [RW] at q
        exact q
      | l xs => simp [isO] at ho
      | t g ws => simp [isO] at ho
    · exact ih
theorem pr_start : ∀ {vs : List V} {ws : List W} {a b : Nat}, vs.length = ws.length → a = b → pr (vs.map some ++ List.replicate a none) (ws.map some ++ List.replicate b none) = vs.zip ws
  | [], [], a, _, _, rfl => by
    simp only [List.map_nil, List.nil_append, List.zip_nil_left]
    induction a with
    | zero => rfl
    | succ a ih => simp [List.replicate_succ, pr, pc, ih]
  | [], _ :: _, _, _, h, _ => by simp at h
  | _ :: _, [], _, _, h, _ => by simp at h
  | v :: vs, w :: ws, a, b, h, e => by
    simp only [List.map_cons, List.cons_append, pr, pc, List.zip_cons_cons, List.singleton_append]
    rw [pr_start (by simpa using h) e]
    rfl
theorem map_getD {ws : List W} {n i : Nat} : (ws.map some ++ List.replicate n none).getD i none = ws[i]? := by
  rw [List.getD_eq_getElem?_getD]
  by_cases hi : i < ws.length
  · rw [List.getElem?_append_left (by simpa using hi), List.getElem?_map]
    simp [hi]
  · rw [List.getElem?_append_right (by simpa using hi), List.getElem?_eq_none (l := ws) (by omega)]
    simp only [List.getElem?_replicate]
    split <;> rfl
end

section
variable {P : Program} {w : World} {K : KK} {mg : Str → Option Value} {base : Heap} {x qual : Str} {params : Arguments} {body : List Stmt} {scope : Scope} {f : Addr} {fd : FuncData}
/-- a def of the text keeps its promise, by its body -/
theorem fnG_of {N ps : List Str} {k : Nat} {sp : Sp} {dvs : List V} {kws : List (Str × V)} (F : FunD K x qual params body scope dvs kws f fd) (S : FnScope N ps scope) (len : ∀ vs H Q E, sp vs H Q E → vs.length = ps.length)
    (hbody : ∀ (cdv : Value) (A : Around) (outer : List PySem.Env) (s : Shared) (H : Hp) (vs : List V) (Q : VK), A.guards = some [] → Room k (A.deeper (envOfC qual scope s.heap.objs.size f cdv)) → sp vs H Q E0 →
      ∃ t, PSs (cxOf CX0 P w K mg base N qual scope f cdv A outer s H E0) body t ∧ t { nx := fun _ H' => Q .non H', rt := Q } (start N vs) H) : FnG P w K mg base (k + 1) f fd ps sp := by
  obtain ⟨oc, od, dV, kV, doc, pm, an, cdv, ct, osl, hfd, lk, hcd, _, _⟩ := F.ex
  subst hfd
  constructor
  · exact len
  intro A outer s H args us vs Q hgd hr e0 hbnd hvals hpre
  have hvl := len _ _ _ _ hpre
  have KX : K.In s.heap := e0.mod.kin.keeps (fun b o e => (e0.bs b o e).1)
  have noLim : s.heap.NoLimit := e0.mod.nolimit.keeps (fun b o e => (e0.bs b o e).1)
  have kinds : ∀ y ∈ ps.zip us, scope.names.lookup y.1 = some .local ∨ (scope.names.lookup y.1 = some .cell ∧ ((cellsFrom (s.heap.objs.size + 1) scope.names []).lookup y.1).isSome = true) := by
    rintro ⟨n, v⟩ hy
    exact (S.par n (List.of_mem_zip hy).1).elim .inl fun q => .inr ⟨q, PySem.W.cellsFrom_some _ _ _ (.inl q)⟩
  refine codeAny_call_function hr.depth (KX _ _ lk) rfl S.co S.gen rfl (PySem.W.codeRec_of KX hcd) (hbnd _ _ _ _ (wpAny_newFunctionEnv_cells S.kind kinds ?_))
  intro env he s1 inC
  subst he
  refine ⟨noLim.keeps inC.toInCall.keep, codeAny_func ?_⟩
  obtain ⟨t, ht, hq⟩ := hbody cdv A outer s H vs Q hgd (hr.deeper _) hpre
  refine wpAny_mono (ht.run [] s1 _ H _ (inv_start S hr.hd e0 hvl hvals inC) hq) (fun fl s' hs => ?_) (fun _ _ z => z)
  match fl, hs with
  | .ret u, ⟨v, σ', H', J, rv, q⟩ => exact ⟨v, H', J.os, J.bare, J.base, J.hok, rv, q⟩
  | .next, ⟨σ', H', J, q⟩ => exact ⟨V.non, H', J.os, J.bare, J.base, J.hok, rfl, q⟩
  | .brk, ⟨_, _, _, q⟩ => exact q.elim
  | .cont, ⟨_, _, _, q⟩ => exact q.elim

/-- a def by the mirror of its body -/
theorem fnM {N ps : List Str} {k np n : Nat} {Ps : List (List Nat)} {m : MS} {F : List W → CRes} {dvs : List V} {kws : List (Str × V)} (FD : FunD K x qual params body scope dvs kws f fd) (S : FnScope N ps scope) (hnp : ps.length = np) (hn : N.length = n) (hF : F = runF np n Ps m)
    (hbody : ∀ (Pl : List Nat), Ps.contains Pl = true → ∀ (cdv : Value) (A : Around) (outer : List PySem.Env) (s : Shared) (H : Hp), A.guards = some [] → Room k (A.deeper (envOfC qual scope s.heap.objs.size f cdv)) →
      PSs (cxOf CX0 P w K mg base N qual scope f cdv A outer s H E0) body (tS K Pl m)) : FnG P w K mg base (k + 1) f fd ps (spF K np F) := by
  subst hF hnp hn
  refine fnG_of FD S (fun vs H Q E h => ?_) fun cdv A outer s H vs Q hgd hr h => ?_
  · obtain ⟨_, _, _, _, e, _⟩ := h
    exact e
  obtain ⟨T, ws, wr, outs, hv, hvw, rl, gd, hrun, hQ⟩ := h
  unfold runF at hrun
  split at hrun
  rotate_left
  · cases hrun
  rename_i hc
  obtain ⟨hc1, hc2⟩ := hc
  generalize hPl : lpos ws 0 = Pl at hc2 hrun
  refine ⟨_, hbody Pl hc2 cdv A outer s H hgd hr, ?_⟩
  split at hrun
  · rename_i o e' hm
    cases ho : contO e' Pl with
    | none => rw [ho] at hrun; cases hrun
    | some outs' =>
      rw [ho] at hrun
      have sr : SR K Pl (start N vs) (dPart (vs.zip ws) ++ T) (start N vs) (ws.map some ++ List.replicate (N.length - ps.length) none) H := by
        refine ⟨?_, ?_, rfl, fun i x hx => ?_, fun i hi => ⟨rfl, ?_⟩⟩
        · unfold L2.start
          rw [pr_start hvw (by rw [hv])]
          refine (rl.dup (vs.zip ws) fun p hp => List.mem_append_left _ hp).perm ?_
          rw [← List.append_assoc, ← List.append_assoc]
          exact List.Perm.append_right _ List.perm_append_comm
        · unfold L2.start
          simp only [List.length_append, List.length_map, List.length_replicate]
          omega
        · rw [map_getD] at hx
          have hi : i < ws.length := (List.getElem?_eq_some_iff.mp hx).1
          have hi2 : i < vs.length := by omega
          refine ⟨vs[i], ?_⟩
          unfold L2.start
          rw [List.getElem?_append_left (by simpa using hi2), List.getElem?_map]
          simp [hi2]
        · rw [map_getD]
          rw [← hPl] at hi
          obtain ⟨_, xs, hx, hxo⟩ := lpos_ge hi
          exact ⟨xs, by simpa using hx, hxo⟩
      -- the end, for a value that is held
      have fin : ∀ (σ' : L2.St) (H' : Hp) (v : V) (wv : W), SR K Pl (start N vs) ((v, wv) :: (dPart (vs.zip ws) ++ T)) σ' e' H' → Rels K H' ((v, wv) :: (vs.zip (updW ws outs') ++ T)) := fun σ' H' v wv s2 => by
        rw [← hPl] at ho
        have hst : ∀ i, i ∈ lpos ws 0 → ∃ u, vs[i - 0]? = some u ∧ σ'[i]? = some (some u) := fun i hi => by
          obtain ⟨_, x, hx, _⟩ := lpos_ge hi
          have hi2 : i < vs.length := by rw [hvw]; exact (List.getElem?_eq_some_iff.mp (by simpa using hx)).1
          refine ⟨vs[i], by simp [hi2], ?_⟩
          rw [(s2.par i (by rw [← hPl]; exact hi)).1]
          unfold L2.start
          rw [List.getElem?_append_left (by simpa using hi2), List.getElem?_map]
          simp [hi2]
        have inPr : ∀ i w u, i ∈ lpos ws 0 → vs[i]? = some u → e'.getD i none = some w → (u, w) ∈ pr σ' e' := fun i xs u hi hu he => by
          obtain ⟨u', h1, h2⟩ := hst i hi
          have : u' = u := by
            have e1 : vs[i]? = some u' := by simpa using h1
            rw [hu] at e1; exact (Option.some.inj e1).symm
          subst this
          exact pr_mem (i := i) h2 he
        refine s2.top.ofMem (fun p hp => ?_) ?_
        · rcases List.mem_cons.mp hp with rfl | hp
          · exact List.mem_cons_self
          refine List.mem_cons_of_mem _ ?_
          rcases List.mem_append.mp hp with hp | hp
          · rcases updW_mem ho p hp with ⟨a, b⟩ | ⟨i, a, b, c, d⟩
            · exact List.mem_append_right _ (List.mem_append_left _ (mem_dPart.mpr ⟨b, a⟩))
            · exact List.mem_append_left _ (inPr i _ _ a (by simpa using b) d)
          · exact List.mem_append_right _ (List.mem_append_right _ hp)
        · obtain ⟨S', h1, h2⟩ := sub_back (H := H') ho hvw hst
          have top := s2.top.nd
          rw [List.drop_zero, List.drop_zero] at h1
          have : (owned H' ((v, wv) :: (vs.zip (updW ws outs') ++ T))).Sublist (owned H' ((v, wv) :: (pr σ' e' ++ (dPart (vs.zip ws) ++ T)))) := by
            rw [owned_c, owned_c, owned_app, owned_app, owned_app, h2]
            refine List.Sublist.append_left (List.Sublist.append (ownedS _ h1) (List.sublist_append_right _ _)) _
          exact top.sublist this
      refine ⟨_, _, _, o, e', sr, gd, hm, ?_⟩
      cases o with
      | rt w' =>
        cases hrun
        exact fun v σ' H' s2 _ => hQ v H' (fin σ' H' v _ s2)
      | nx =>
        cases hrun
        exact fun σ' H' s2 _ => hQ .non H' (fin σ' H' .non _ (s2.push (s2.rels.data (by simp [Dat]))))
      | bk => cases hrun
      | ct => cases hrun
  · rename_i x e' hm
    cases ho : contO e' Pl with
    | none => rw [ho] at hrun; cases hrun
    | some outs' => rw [ho] at hrun; cases hrun
  · cases hrun
end
end Mi
set_option Elab.async false
set_option linter.all false
set_option maxRecDepth 100000
set_option maxHeartbeats 4000000
/-! Mi9: operators and built-ins on views -/
namespace Mi
open PySem PySem.Spec PyProof.Rows L2

theorem OpR.or {X : Cx} {f : Value → Value → Sem Value} {r r' : R2} (h : OpR X f r) (h' : OpR X f r') : OpR X f (fun x y H Q => r x y H Q ∨ r' x y H Q) := by
  intro pins s σ H x y v u Q I rx ry q
  rcases q with q | q
  · exact h pins s σ H x y v u Q I rx ry q
  · exact h' pins s σ H x y v u Q I rx ry q
section
variable {K : KK}
/-! ### arithmetic -/
def fAdd : D → D → Option W
  | .int i, .int j => some (.d (.int (i + j)))
  | .str i, .str j => if i.length + j.length ≤ 16777216 then some (.d (.str (i ++ j))) else none
  | .list xs, .list ys => if xs.length + ys.length ≤ 16777216 then some (.l (xs ++ ys)) else none
  | .tuple xs, .tuple ys => if xs.length + ys.length ≤ 16777216 then some (.d (.tuple (xs ++ ys))) else none
  | _, _ => none
@[simp] theorem fAdd_int (i j : Int) : fAdd (.int i) (.int j) = some (.d (.int (i + j))) := rfl
/-- ints alone -/
def fAddI : D → D → Option W
  | .int i, .int j => some (.d (.int (i + j)))
  | _, _ => none
@[simp] theorem fAddI_int (i j : Int) : fAddI (.int i) (.int j) = some (.d (.int (i + j))) := rfl
theorem op_addI : Op2 K (rI0 fun i j => V.int (i + j)) fAddI := fun H L x y dx dy w Q gd rl hx hy hf hQ => by
  cases dx <;> cases dy <;> simp [fAddI] at hf
  subst hf
  have ex := hx.int rl
  have ey := hy.int rl
  subst ex ey
  exact ⟨_, _, rfl, rfl, hQ _ H fun _ => rl.data (by simp [Dat])⟩
def fSub : D → D → Option W
  | .int i, .int j => some (.d (.int (i - j)))
  | _, _ => none
@[simp] theorem fSub_int (i j : Int) : fSub (.int i) (.int j) = some (.d (.int (i - j))) := rfl
theorem op_subM : Op2 K (rI0 fun i j => V.int (i - j)) fSub := fun H L x y dx dy w Q gd rl hx hy hf hQ => by
  cases dx <;> cases dy <;> simp [fSub] at hf
  subst hf
  have ex := hx.int rl
  have ey := hy.int rl
  subst ex ey
  exact ⟨_, _, rfl, rfl, hQ _ H fun _ => rl.data (by simp [Dat])⟩
/-- a product: one factor small, or both below a million bits together -/
def fMul : D → D → Option W
  | .int i, .int j => if i.natAbs < 18446744073709551616 ∨ j.natAbs < 18446744073709551616 ∨ i.natAbs.log2 + j.natAbs.log2 < 1000000 then some (.d (.int (i * j))) else none
  | _, _ => none
theorem op_mulX {X : Cx} : OpR X (binaryOp .Mult) (fun x y H Q => (rI CMul fun i j => V.int (i * j)) x y H Q ∨ (rI CMulW fun i j => V.int (i * j)) x y H Q) := OpR.or op_mul op_mulW
theorem op_mulM : Op2 K (fun x y H Q => (rI CMul fun i j => V.int (i * j)) x y H Q ∨ (rI CMulW fun i j => V.int (i * j)) x y H Q) fMul := fun H L x y dx dy w Q gd rl hx hy hf hQ => by
  cases dx <;> cases dy <;> simp only [fMul] at hf <;> try cases hf
  split at hf
  · rename_i hc
    cases hf
    have ex := hx.int rl
    have ey := hy.int rl
    subst ex ey
    rcases hc with hc | hc | hc
    · exact .inl ⟨_, _, rfl, rfl, .inl ⟨by omega, by omega⟩, hQ _ H fun _ => rl.data (by simp [Dat])⟩
    · exact .inl ⟨_, _, rfl, rfl, .inr ⟨by omega, by omega⟩, hQ _ H fun _ => rl.data (by simp [Dat])⟩
    · exact .inr ⟨_, _, rfl, rfl, hc, hQ _ H fun _ => rl.data (by simp [Dat])⟩
  · cases hf
def fMod : D → D → Option W
  | .int i, .int j => if 0 < j then some (.d (.int (i % j))) else none
  | _, _ => none
theorem op_modM : Op2 K (rI (fun _ j => 0 < j) fun i j => V.int (i % j)) fMod := fun H L x y dx dy w Q gd rl hx hy hf hQ => by
  cases dx <;> cases dy <;> simp only [fMod] at hf <;> try cases hf
  split at hf
  · rename_i hc
    cases hf
    have ex := hx.int rl
    have ey := hy.int rl
    subst ex ey
    exact ⟨_, _, rfl, rfl, hc, hQ _ H fun _ => rl.data (by simp [Dat])⟩
  · cases hf
def fDiv : D → D → Option W
  | .int i, .int j => if 0 < j ∧ j.natAbs.log2 < 9000 then some (.d (.int (i / j))) else none
  | _, _ => none
theorem op_divM : Op2 K (rI CDivW fun i j => V.int (i / j)) fDiv := fun H L x y dx dy w Q gd rl hx hy hf hQ => by
  cases dx <;> cases dy <;> simp only [fDiv] at hf <;> try cases hf
  split at hf
  · rename_i hc
    cases hf
    have ex := hx.int rl
    have ey := hy.int rl
    subst ex ey
    exact ⟨_, _, rfl, rfl, hc, hQ _ H fun _ => rl.data (by simp [Dat])⟩
  · cases hf
def fPow : D → D → Option W
  | .int i, .int j => if 0 ≤ j ∧ j ≤ 1000000 ∧ i.natAbs < 18446744073709551616 then some (.d (.int (i ^ j.toNat))) else none
  | _, _ => none
theorem op_powM : Op2 K (rI CPow fun i j => V.int (i ^ j.toNat)) fPow := fun H L x y dx dy w Q gd rl hx hy hf hQ => by
  cases dx <;> cases dy <;> simp only [fPow] at hf <;> try cases hf
  split at hf
  · rename_i hc
    cases hf
    have ex := hx.int rl
    have ey := hy.int rl
    subst ex ey
    exact ⟨_, _, rfl, rfl, hc, hQ _ H fun _ => rl.data (by simp [Dat])⟩
  · cases hf
def fNeg : D → Option W
  | .int i => some (.d (.int (-i)))
  | _ => none
@[simp] theorem fNeg_int (i : Int) : fNeg (.int i) = some (.d (.int (-i))) := rfl
theorem op_negM : Op1 K (rU fun i => V.int (-i)) fNeg := fun H L x dx w Q gd rl hx hf hQ => by
  cases dx <;> simp [fNeg] at hf
  subst hf
  have ex := hx.int rl
  subst ex
  exact ⟨_, rfl, hQ _ H fun _ => rl.data (by simp [Dat])⟩
/-- texts alone -/
def fAddS : D → D → Option W
  | .str i, .str j => if i.length + j.length ≤ 16777216 then some (.d (.str (i ++ j))) else none
  | _, _ => none
theorem op_addSM : Op2 K (fun x y H Q => ∃ i j, x = .str i ∧ y = .str j ∧ i.length + j.length ≤ sizeLine ∧ Q (.str (i ++ j)) H) fAddS := fun H L x y dx dy w Q gd rl hx hy hf hQ => by
  cases dx <;> cases dy <;> simp only [fAddS] at hf <;> try cases hf
  split at hf
  · rename_i hc
    cases hf
    have ex := hx.str rl
    have ey := hy.str rl
    subst ex ey
    exact ⟨_, _, rfl, rfl, by rw [sizeLine_eq]; exact hc, hQ _ H fun _ => rl.data (by simp [Dat])⟩
  · cases hf

/-! ### comparisons: f tells a truth value -/
def lB (f : D → D → Option Bool) (x y : D) : Option W := (f x y).map fun b => W.d (.bool b)
def Op2B (K : KK) (r : R2) (f : D → D → Option Bool) : Prop := ∀ (H : Hp) (L : List (V × W)) (x y : V) (dx dy : D) (b : Bool) (Q : VK), Good K H → Rels K H L → Vw L x dx → Vw L y dy → f dx dy = some b → Q (.bl b) H → r x y H Q
theorem Op2B.op {r : R2} {f : D → D → Option Bool} (h : Op2B K r f) : Op2 K r (lB f) := fun H L x y dx dy w Q gd rl hx hy hf hQ => by
  obtain ⟨b, h1, rfl⟩ := Option.map_eq_some_iff.mp hf
  exact h H L x y dx dy b Q gd rl hx hy h1 (hQ _ H fun _ => rl.data (by simp [Dat]))
def cCmp (p : Int → Int → Bool) : D → D → Option Bool
  | .int i, .int j => some (p i j)
  | _, _ => none
@[simp] theorem cCmp_int (p : Int → Int → Bool) (i j : Int) : cCmp p (.int i) (.int j) = some (p i j) := rfl
theorem op_cmpM {p : Int → Int → Bool} : Op2B K (rI0 fun i j => V.bl (p i j)) (cCmp p) := fun H L x y dx dy b Q gd rl hx hy hf hQ => by
  cases dx <;> cases dy <;> simp [cCmp] at hf
  subst hf
  have ex := hx.int rl
  have ey := hy.int rl
  subst ex ey
  exact ⟨_, _, rfl, rfl, hQ⟩
abbrev cLt := cCmp fun i j => decide (i < j)
abbrev cLe := cCmp fun i j => decide (i ≤ j)
abbrev cGt := cCmp fun i j => decide (j < i)
abbrev cGe := cCmp fun i j => decide (j ≤ i)
def cEq (x y : D) : Option Bool := match x, y with
  | .str a, .str b => some (a == b)
  | x, y => if (SeqAt.shaped x = true ∧ noD x = true) ∧ SeqAt.shaped y = true ∧ noD y = true then some (PyData.eqv x y) else none
def cNe (x y : D) : Option Bool := match x, y with
  | .str a, .str b => some (!(a == b))
  | x, y => if (SeqAt.shaped x = true ∧ noD x = true) ∧ SeqAt.shaped y = true ∧ noD y = true then some (!PyData.eqv x y) else none
theorem op_eqX {X : Cx} (hu : X.A.units + 64 < cLine) : OpR X (compareOp .Eq) (fun x y H Q => rEq x y H Q ∨ rEqD X.K x y H Q) := OpR.or op_eq (op_eqD hu)
theorem op_neX {X : Cx} (hu : X.A.units + 64 < cLine) : OpR X (compareOp .NotEq) (fun x y H Q => rNe x y H Q ∨ rNeD X.K x y H Q) := OpR.or op_ne (op_neD hu)
theorem op_eqM : Op2B K (fun x y H Q => rEq x y H Q ∨ rEqD K x y H Q) cEq := fun H L x y dx dy w Q gd rl hx hy hf hQ => by
  unfold cEq at hf
  split at hf
  · cases hf
    have ex := hx.str rl
    have ey := hy.str rl
    subst ex ey
    exact .inl ⟨rfl, by rw [dec_str]; exact hQ⟩
  · split at hf
    · rename_i hc
      cases hf
      exact .inr ⟨_, _, hx.dp rl hc.1.2, hy.dp rl hc.2.2, hc.1.1, hc.2.1, hQ⟩
    · cases hf
theorem op_neM : Op2B K (fun x y H Q => rNe x y H Q ∨ rNeD K x y H Q) cNe := fun H L x y dx dy w Q gd rl hx hy hf hQ => by
  unfold cNe at hf
  split at hf
  · cases hf
    have ex := hx.str rl
    have ey := hy.str rl
    subst ex ey
    exact .inl ⟨rfl, by rw [dec_str]; exact hQ⟩
  · split at hf
    · rename_i hc
      cases hf
      exact .inr ⟨_, _, hx.dp rl hc.1.2, hy.dp rl hc.2.2, hc.1.1, hc.2.1, hQ⟩
    · cases hf
@[simp] theorem cEq_str (i j : Str) : cEq (.str i) (.str j) = some (i == j) := rfl
@[simp] theorem cNe_str (i j : Str) : cNe (.str i) (.str j) = some (!(i == j)) := rfl
@[simp] theorem cEq_int (i j : Int) : cEq (.int i) (.int j) = some (i == j) := rfl
@[simp] theorem cNe_int (i j : Int) : cNe (.int i) (.int j) = some (!(i == j)) := rfl
def isNone : D → Bool
  | .none => true
  | _ => false
@[simp] theorem isNone_none : isNone .none = true := rfl
@[simp] theorem isNone_int (i : Int) : isNone (.int i) = false := rfl
@[simp] theorem isNone_str (i : Str) : isNone (.str i) = false := rfl
@[simp] theorem isNone_tuple (i : List D) : isNone (.tuple i) = false := rfl
@[simp] theorem isNone_list (i : List D) : isNone (.list i) = false := rfl
@[simp] theorem isNone_bool (i : Bool) : isNone (.bool i) = false := rfl
def cIs (x y : D) : Option Bool := match y with
  | .none => some (isNone x)
  | _ => none
def cIsNot (x y : D) : Option Bool := match y with
  | .none => some (!isNone x)
  | _ => none
@[simp] theorem cIs_none (x : D) : cIs x .none = some (isNone x) := rfl
@[simp] theorem cIsNot_none (x : D) : cIsNot x .none = some (!isNone x) := rfl
/-- in a list, data of any depth -/
def cIn (x y : D) : Option Bool := match y with
  | .list ds => if (SeqAt.shaped x = true ∧ noD x = true) ∧ SeqAt.shaped (.list ds) = true ∧ noD (.list ds) = true then some (ds.any fun z => PyData.eqv z x) else none
  | _ => none
def cNotIn (x y : D) : Option Bool := match y with
  | .list ds => if (SeqAt.shaped x = true ∧ noD x = true) ∧ SeqAt.shaped (.list ds) = true ∧ noD (.list ds) = true then some (!ds.any fun z => PyData.eqv z x) else none
  | _ => none
/-! ### items -/
def fIx (x y : D) : Option W := match y with
  | .int i => (match x with
    | .list ds => (atI ds i).map W.d
    | .tuple ds => (atI ds i).map W.d
    | .str z => if z.length ≤ 16777216 then (atI z.cps.toList i).map fun c => W.d (.str ⟨#[c]⟩) else none
    | _ => none)
  | _ => none
theorem atI_dats {H : Hp} {O : List Addr} {ds : List D} {vs : List V} {i : Int} {d : D} (h : Dats K H O ds vs) (e : atI ds i = some d) : ∃ v, atI vs i = some v ∧ Dat K H O d v := by
  unfold atI at e ⊢
  rw [← h.length]
  cases hj : ixN ds.length i with
  | none => rw [hj] at e; cases e
  | some j =>
    rw [hj] at e
    obtain ⟨v, h1, h2⟩ := h.get (show ds[j]? = some d from e)
    exact ⟨v, h1, h2⟩
theorem op_ixM : Op2 K (rIx K) fIx := fun H L x y dx dy w Q gd rl hx hy hf hQ => by
  cases dy with
  | int i =>
    have ey := hy.int rl
    subst ey
    cases dx with
    | list ds =>
      obtain ⟨d, h1, rfl⟩ := Option.map_eq_some_iff.mp (show (atI ds i).map W.d = some w from hf)
      obtain ⟨a, vs, rfl, hs, hd⟩ := hx.list rl
      obtain ⟨v, h2, h3⟩ := atI_dats hd h1
      exact .inl ⟨a, vs, i, v, rfl, rfl, hs, h2, hQ v H fun _ => rl.data h3⟩
    | tuple ds =>
      obtain ⟨d, h1, rfl⟩ := Option.map_eq_some_iff.mp (show (atI ds i).map W.d = some w from hf)
      obtain ⟨a, vs, rfl, hs, _, hd⟩ := hx.tuple rl
      obtain ⟨v, h2, h3⟩ := atI_dats hd h1
      exact .inr (.inl ⟨a, vs, i, v, rfl, rfl, hs, h2, hQ v H fun _ => rl.data h3⟩)
    | str z =>
      simp only [fIx] at hf
      split at hf
      · rename_i hz
        obtain ⟨c, h1, rfl⟩ := Option.map_eq_some_iff.mp hf
        have ex := hx.str rl
        subst ex
        exact .inr (.inr ⟨z, i, c, rfl, rfl, by rw [sizeLine_eq]; exact hz, h1, hQ _ H fun _ => rl.data (by simp [Dat])⟩)
      · cases hf
    | none => cases hf
    | bool b => cases hf
    | int j => cases hf
    | dict kvs => cases hf
  | none => cases hf
  | bool b => cases hf
  | str z => cases hf
  | list z => cases hf
  | tuple z => cases hf
  | dict z => cases hf

/-! ### built-ins -/
theorem Vws.one {L : List (V × W)} {vs : List V} {d : D} (h : Vws L vs [d]) : ∃ v, vs = [v] ∧ Vw L v d := by
  match vs, h with
  | [v], h => exact ⟨v, rfl, h.1⟩
theorem Vws.two {L : List (V × W)} {vs : List V} {d d2 : D} (h : Vws L vs [d, d2]) : ∃ v v2, vs = [v, v2] ∧ Vw L v d ∧ Vw L v2 d2 := by
  match vs, h with
  | [v, v2], h => exact ⟨v, v2, rfl, h.1, h.2.1⟩
def bLen : List D → Option W
  | [.list xs] => some (.d (.int xs.length))
  | [.tuple xs] => some (.d (.int xs.length))
  | [.str z] => if z.length ≤ 16777216 then some (.d (.int z.length)) else none
  | _ => none
@[simp] theorem bLen_l (xs : List D) : bLen [.list xs] = some (.d (.int xs.length)) := rfl
@[simp] theorem bLen_t (xs : List D) : bLen [.tuple xs] = some (.d (.int xs.length)) := rfl
theorem oc_len : OpC K (fun xs H Q => ∃ x n, xs = [x] ∧ LenV K x H n ∧ Q (.int n) H) bLen := fun H L vs ds w Q gd rl hv hf hQ => by
  unfold bLen at hf
  split at hf
  · rename_i xs
    cases hf
    obtain ⟨v, rfl, h1⟩ := hv.one
    obtain ⟨a, us, rfl, hs, hd⟩ := h1.list rl
    refine ⟨.ref a, us.length, rfl, .inl ⟨us, hs, rfl⟩, ?_⟩
    rw [← hd.length]
    exact hQ _ H fun _ => rl.data (by simp [Dat])
  · rename_i xs
    cases hf
    obtain ⟨v, rfl, h1⟩ := hv.one
    obtain ⟨a, us, rfl, hs, _, hd⟩ := h1.tuple rl
    refine ⟨.ref a, us.length, rfl, .inr ⟨us, hs, rfl⟩, ?_⟩
    rw [← hd.length]
    exact hQ _ H fun _ => rl.data (by simp [Dat])
  · split at hf
    · rename_i hz
      cases hf
      obtain ⟨v, rfl, h1⟩ := hv.one
      have ev := h1.str rl
      subst ev
      exact ⟨_, _, rfl, ⟨by rw [sizeLine_eq]; exact hz, rfl⟩, hQ _ H fun _ => rl.data (by simp [Dat])⟩
    · cases hf
  · cases hf
def bAbs : List D → Option W
  | [.int i] => some (.d (.int (if i < 0 then -i else i)))
  | _ => none
@[simp] theorem bAbs_int (i : Int) : bAbs [.int i] = some (.d (.int (if i < 0 then -i else i))) := rfl
theorem oc_abs : OpC K (fun xs H Q => ∃ i, xs = [.int i] ∧ Q (.int (if i < 0 then -i else i)) H) bAbs := fun H L vs ds w Q gd rl hv hf hQ => by
  unfold bAbs at hf
  split at hf
  · cases hf
    obtain ⟨v, rfl, h1⟩ := hv.one
    have ev := h1.int rl
    subst ev
    exact ⟨_, rfl, hQ _ H fun _ => rl.data (by simp [Dat])⟩
  · cases hf
def bInt : List D → Option W
  | [.int i] => some (.d (.int i))
  | [.bool k] => some (.d (.int (if k then 1 else 0)))
  | _ => none
@[simp] theorem bInt_int (i : Int) : bInt [.int i] = some (.d (.int i)) := rfl
theorem oc_int : OpC K (fun xs H Q => (∃ i, xs = [.int i] ∧ Q (.int i) H) ∨ ∃ k, xs = [.bl k] ∧ Q (.int (if k then 1 else 0)) H) bInt := fun H L vs ds w Q gd rl hv hf hQ => by
  unfold bInt at hf
  split at hf
  · cases hf
    obtain ⟨v, rfl, h1⟩ := hv.one
    have ev := h1.int rl
    subst ev
    exact .inl ⟨_, rfl, hQ _ H fun _ => rl.data (by simp [Dat])⟩
  · cases hf
    obtain ⟨v, rfl, h1⟩ := hv.one
    have ev := h1.bool rl
    subst ev
    exact .inr ⟨_, rfl, hQ _ H fun _ => rl.data (by simp [Dat])⟩
  · cases hf
def bMax : List D → Option W
  | [.int i, .int j] => some (.d (.int (if j > i then j else i)))
  | _ => none
@[simp] theorem bMax_int (i j : Int) : bMax [.int i, .int j] = some (.d (.int (if j > i then j else i))) := rfl
theorem oc_max : OpC K (fun xs H Q => ∃ i j, xs = [.int i, .int j] ∧ Q (.int (if j > i then j else i)) H) bMax := fun H L vs ds w Q gd rl hv hf hQ => by
  unfold bMax at hf
  split at hf
  · cases hf
    obtain ⟨v, v2, rfl, h1, h2⟩ := hv.two
    have ev := h1.int rl
    have ev2 := h2.int rl
    subst ev ev2
    exact ⟨_, _, rfl, hQ _ H fun _ => rl.data (by simp [Dat])⟩
  · cases hf
def bMin : List D → Option W
  | [.int i, .int j] => some (.d (.int (if j < i then j else i)))
  | _ => none
@[simp] theorem bMin_int (i j : Int) : bMin [.int i, .int j] = some (.d (.int (if j < i then j else i))) := rfl
theorem newK {K : KK} {H : Hp} {p : Addr} {u : HO} (g : Good K (upd H p u)) : K.lookup p = none := by
  cases q : K.lookup p with
  | none => rfl
  | some o => have := g p o q; rw [upd_same] at this; cases this
def bList : List D → Option W
  | [.list xs] => some (.l xs)
  | [.tuple xs] => some (.l xs)
  | _ => none
@[simp] theorem bList_l (xs : List D) : bList [.list xs] = some (.l xs) := rfl
@[simp] theorem bList_t (xs : List D) : bList [.tuple xs] = some (.l xs) := rfl
theorem oc_list : OpC K (fun xs H Q => ∃ p ys, xs = [.ref p] ∧ (SqL K H p ys ∨ SqT K H p ys) ∧ ∀ l, H l = none → Q (.ref l) (upd H l (.lst ys))) bList := fun H L vs ds w Q gd rl hv hf hQ => by
  unfold bList at hf
  split at hf
  · cases hf
    obtain ⟨v, rfl, h1⟩ := hv.one
    obtain ⟨a, us, rfl, hs, hd⟩ := h1.list rl
    exact ⟨a, us, rfl, .inl hs, fun l hl => hQ _ _ fun g => rl.newOwn hl (newK g) hd⟩
  · cases hf
    obtain ⟨v, rfl, h1⟩ := hv.one
    obtain ⟨a, us, rfl, hs, _, hd⟩ := h1.tuple rl
    exact ⟨a, us, rfl, .inr hs, fun l hl => hQ _ _ fun g => rl.newOwn hl (newK g) hd⟩
  · cases hf
def bTuple : List D → Option W
  | [.list xs] => some (.d (.tuple xs))
  | [.tuple xs] => some (.d (.tuple xs))
  | _ => none
@[simp] theorem bTuple_l (xs : List D) : bTuple [.list xs] = some (.d (.tuple xs)) := rfl
@[simp] theorem bTuple_t (xs : List D) : bTuple [.tuple xs] = some (.d (.tuple xs)) := rfl
theorem oc_tuple : OpC K (fun xs H Q => ∃ p ys, xs = [.ref p] ∧ ((SqL K H p ys ∧ ∀ l, H l = none → Q (.ref l) (upd H l (.tup ys))) ∨ (SqT K H p ys ∧ Q (.ref p) H))) bTuple := fun H L vs ds w Q gd rl hv hf hQ => by
  unfold bTuple at hf
  split at hf
  · cases hf
    obtain ⟨v, rfl, h1⟩ := hv.one
    obtain ⟨a, us, rfl, hs, hd⟩ := h1.list rl
    exact ⟨a, us, rfl, .inl ⟨hs, fun l hl => hQ _ _ fun g => rl.newTup hl (newK g) hd⟩⟩
  · cases hf
    obtain ⟨v, rfl, h1⟩ := hv.one
    obtain ⟨a, us, rfl, hs, hn, hd⟩ := h1.tuple rl
    exact ⟨a, us, rfl, .inr ⟨hs, hQ _ H fun _ => rl.data ⟨a, us, rfl, hs, hn, hd⟩⟩⟩
  · cases hf
def ints? : List D → Option (List Int)
  | [] => some []
  | .int i :: ds => (ints? ds).map (i :: ·)
  | _ => none
def bSum : List D → Option W
  | [.list xs] => (ints? xs).map fun ns => W.d (.int ns.sum)
  | _ => none
/-- repr of data -/
def bRepr : List D → Option W
  | [d] => if (d.showable = true ∧ noD d = true) ∧ d.shown.length ≤ 16777216 ∧ d.depth ≤ 64 then some (.d (.str d.shown)) else none
  | _ => none
def rRepr (K : KK) : List V → Hp → VK → Prop := fun xs H Q => ∃ x d, xs = [x] ∧ Dp K H x d ∧ d.showable = true ∧ d.shown.length ≤ sizeLine ∧ d.depth ≤ 64 ∧ Q (.str d.shown) H
mutual
theorem noDict {H : Hp} : ∀ (d : D) (v : V), Dp K H v d → d.hasDict = false
  | .none, _, _ => by simp only [PyData.hasDict]
  | .bool _, _, _ => by simp only [PyData.hasDict]
  | .int _, _, _ => by simp only [PyData.hasDict]
  | .str _, _, _ => by simp only [PyData.hasDict]
  | .list ds, _, h => by
    cases h with
    | lst _ h => simp only [PyData.hasDict]; exact noDicts ds _ h
  | .tuple ds, _, h => by
    cases h with
    | tup _ h => simp only [PyData.hasDict]; exact noDicts ds _ h
  | .dict _, _, h => by cases h
theorem noDicts {H : Hp} : ∀ (ds : List D) (vs : List V), DpAll K H vs ds → PyData.hasDictAll ds = false
  | [], _, _ => by simp only [PyData.hasDictAll]
  | d :: ds, _, h => by
    cases h with
    | cons h1 h2 =>
      simp only [PyData.hasDictAll]
      rw [noDict d _ h1, noDicts ds _ h2]
      rfl
end
theorem call_repr {X : Cx} (hgd : X.A.guards = some []) (hu : X.A.units + 66 < cLine) : CallR X (.builtin "repr") (rRepr X.K) := by
  intro pins s σ H xs us Q I r h
  obtain ⟨x, d, rfl, hd, hs, hz, hdp, q⟩ := h
  obtain ⟨u, rfl, r1⟩ := vals1 r
  have refd : ∀ a, x = .ref a → wpAny (model X.prog X.w) X.A (call (.builtin "repr") [u]) (EP X pins σ Q) X.xe s := fun a e => by
    subst e
    cases (show u = Value.ref a from r1)
    obtain ⟨as, rd⟩ := Dp.reads I d _ _ hd r1
    refine repr_of_reads' rd hs (PyData.noDict_hsm (noDict d _ hd)) hgd (by omega) (fun _ _ e => e) (fun h' u tk hk => ?_) hz
    exact ⟨.str d.shown, H, I.kept hk, ⟨_, rfl⟩, q⟩
  cases hd with
  | non =>
    cases (show u = Value.none from r1)
    exact PySem.P.repr_of_none ⟨.str _, H, I.tok _, ⟨_, rfl⟩, by simpa only [PyData.shown] using q⟩
  | bl b =>
    cases (show u = Value.bool b from r1)
    exact PySem.P.repr_of_bool ⟨.str _, H, I.tok _, ⟨_, rfl⟩, by simpa only [PyData.shown] using q⟩
  | int i =>
    obtain ⟨t, rfl⟩ := r1
    exact PySem.P.repr_of_int (by simpa only [PyData.showable, decide_eq_true_eq] using hs) ⟨.str _, H, I.tok _, ⟨_, rfl⟩, by simpa only [PyData.shown] using q⟩
  | str z =>
    obtain ⟨t, rfl⟩ := r1
    exact PySem.P.repr_of_str ⟨.str _, H, I.tok _, ⟨_, rfl⟩, by simpa only [PyData.shown] using q⟩ (by simpa only [PyData.shown] using hz)
  | lst h1 h2 => exact refd _ rfl
  | tup h1 h2 => exact refd _ rfl
theorem oc_repr : OpC K (rRepr K) bRepr := fun H L vs ds w Q gd rl hv hf hQ => by
  unfold bRepr at hf
  split at hf
  · split at hf
    · rename_i hc
      cases hf
      obtain ⟨v, rfl, h1⟩ := hv.one
      exact ⟨v, _, rfl, h1.dp rl hc.1.2, hc.1.1, by rw [sizeLine_eq]; exact hc.2.1, hc.2.2, hQ _ H fun _ => rl.data (by simp [Dat])⟩
    · cases hf
  · cases hf

/-! ### truth -/
def truD : D → Option Bool
  | .none => some false
  | .bool b => some b
  | .int i => some (i != 0)
  | .str z => if z.length ≤ 16777216 then some ((z.length : Int) != 0) else none
  | .list xs => some !xs.isEmpty
  | .tuple xs => some !xs.isEmpty
  | .dict _ => none
def tTru (o : Opd) : MT := fun e => bnd (o.run e) fun r e1 => match gv e1 r with
  | some d => ofO (truD d) e1
  | none => .no
theorem dats_empty {H : Hp} {O : List Addr} {ds : List D} {vs : List V} (h : Dats K H O ds vs) : ds.isEmpty = vs.isEmpty := by
  have := h.length
  cases ds <;> cases vs <;> simp_all
theorem pt_truM {X : Cx} {P : List Nat} {e : Expr} {o : Opd} (ha : PE X e (tD X.K P o)) (he : ∀ whole, isTrue e X.env whole = (do let v ← whole; standAt e.pos; holding [v] (truthy v)) := by intro _; rfl) : PT X e (tM X.K P (tTru o)) := mkT (pt_truth ha he) fun p0 T σ env H b env' Q sr g hm hQ => by
  obtain ⟨r, e1, h1, h2⟩ := bnd_eq_ok hm
  refine ⟨p0, T, env, r, e1, sr, g, h1, fun x H1 ox sr1 g1 => ?_⟩
  cases hg : gv e1 r with
  | none => rw [hg] at h2; cases h2
  | some d =>
    rw [hg] at h2
    obtain ⟨h3, rfl⟩ := ofO_eq_ok h2
    have hv := view_of sr1 ox (fun w e => by subst e; exact List.mem_cons_self) hg
    have done : SR X.K P p0 T σ env' H1 := by
      cases r with
      | inl i => exact sr1
      | inr w => exact sr1.drop
    refine ⟨b, ?_, hQ H1 fun _ => done⟩
    cases d with
    | none => cases h3; rw [hv.none sr1.rels]; rfl
    | bool c => cases h3; rw [hv.bool sr1.rels]; rfl
    | int i => cases h3; rw [hv.int sr1.rels]; rfl
    | str z =>
      simp only [truD] at h3
      split at h3
      · rename_i hz
        cases h3
        rw [hv.str sr1.rels]
        exact ⟨by rw [sizeLine_eq]; exact hz, rfl⟩
      · cases h3
    | list xs =>
      cases h3
      obtain ⟨a, us, rfl, hs, hd⟩ := hv.list sr1.rels
      exact .inl ⟨us, hs, by rw [dats_empty hd]⟩
    | tuple xs =>
      cases h3
      obtain ⟨a, us, rfl, hs, _, hd⟩ := hv.tuple sr1.rels
      exact .inr (.inl ⟨us, hs, by rw [dats_empty hd]⟩)
    | dict _ => cases h3

/-! ### methods of owned lists -/
def mApp : List D → List D → Option (W × List D)
  | xs, [d] => if xs.length < 16777216 then some (.d .none, xs ++ [d]) else none
  | _, _ => none
theorem om_app : OpM K rAppend mApp := fun H L a xs ds ys vs w Q gd rl hd hf hQ => by
  unfold mApp at hf
  split at hf
  · rename_i d
    split at hf
    · rename_i hl
      cases hf
      obtain ⟨v, r, rfl, h1, rfl⟩ := hd
      obtain ⟨b, us, e, h2, h3⟩ := rl.lst
      cases e
      refine ⟨a, us, v, rfl, rfl, h2, by rw [← h3.length, sizeLine_eq]; exact hl, hQ _ _ fun _ => ?_⟩
      have := rl.write (ys := xs ++ [d]) (us := us ++ [v]) (h3.append (Dats.one h1))
      exact this.data (by simp [Dat])
    · cases hf
  · cases hf
end
end Mi
set_option Elab.async false
set_option linter.all false
set_option maxRecDepth 100000
set_option maxHeartbeats 4000000
/-! Mi10: the end of a law by FnG -/
namespace Mi
open PySem PySem.Spec PyProof.Rows L2

/-- the law's call at the caller's around, from its promise -/
theorem lawG {P : Program} {w : World} {K : KK} {mg mb : Str → Option Value} {k : Nat} {fa a : Addr} {fd : FuncData} {x : Str} {sp : Sp} {s1 : Shared} {vs : List Value} {ns : List Int}
    (KX : K.In s1.heap) (hns : s1.heap.Ns mainGlobals mg) (hb : s1.heap.Ns builtinsNs mb) (hbb : ∀ y : Str, y ≠ "__name__" → mb y = bootBuiltins y) (hlim : s1.heap.NoLimit) (hgen : s1.gens = #[])
    (ha : s1.heap.get? a = some { cls := .type "list", data := .seq vs.toArray }) (hi : IntsAre vs ns) (hlen : ns.length ≤ sizeLine) (hr : Room k callerA)
    (F : ∀ base : Heap, K.In base → base.Ns mainGlobals mg → FnG P w K mg base k fa fd [x] sp) (hbind : ∀ (s : Shared) (u : Value), BindsTo s fd ⟨[u], []⟩ [(x, u)])
    (hsp : ∀ H : Hp, Only H → Good K H → SqL K H a (ns.map V.int) → sp [.ref a] H (fun v _ => v = .bl true) E0) :
    codeAny (model P w) callerA (.call (.ref fa) ⟨[.ref a], []⟩) (fun r t => r = .ok (.ret (.bool true)) ∧ OldK s1.heap t.heap ∧ t.os = s1.os ∧ AllBare t.gens) s1 := by
  have rels := vals_ints hi
  have nlen := hi.length
  have main : ∀ H : Hp, Only H → Good K H → SqL K H a (ns.map V.int) → HOk P w H s1.heap → (∀ b, H b ≠ none → b = a) →
      codeAny (model P w) callerA (.call (.ref fa) ⟨[.ref a], []⟩) (fun r t => r = .ok (.ret (.bool true)) ∧ OldK s1.heap t.heap ∧ t.os = s1.os ∧ AllBare t.gens) s1 := by
    intro H only good sq hok at_
    have keepB : ∀ {b : Addr} {o : Obj}, s1.heap.get? b = some o → H b = none → (hidT s1.heap H).get? b = some o := fun e1 e2 => hidT_get e1 e2
    have notA : ∀ {b : Addr} {o : Obj} {es : Array DictEntry} {ep : Nat}, s1.heap.get? b = some o → o.data = .dict es ep → H b = none := by
      intro b o es ep e1 e2
      by_cases hz : H b = none
      · exact hz
      · have e3 := at_ b hz
        subst e3
        rw [ha] at e1
        cases e1
        exact absurd e2 (by intro z; cases z)
    have nsB : ∀ {b : Addr} {m : Str → Option Value}, s1.heap.Ns b m → (hidT s1.heap H).Ns b m := by
      rintro b m ⟨o, es, ep, e1, e2, e3⟩
      exact ⟨o, es, ep, keepB e1 (notA e1 e2), e2, e3⟩
    have KB : K.In (hidT s1.heap H) := fun b o e1 => keepB (KX b o e1) (good b o e1)
    have modB : Mod K mg (hidT s1.heap H) := ⟨KB, nsB hns, ⟨mb, nsB hb, hbb⟩, by
      obtain ⟨mc, q1, q2⟩ := hlim
      exact ⟨mc, nsB q1, q2⟩⟩
    have e0 : Env0 P w K mg (hidT s1.heap H) callerA [] s1 H := ⟨rfl, modB, fun b o e1 => of_hidT e1, Nat.le_of_eq (hidT_size _ _), trivial, fun b hb => absurd hb (List.not_mem_nil), hok, .of_eq hgen⟩
    have run := (F _ KB (nsB hns)).run callerA [] s1 H ⟨[.ref a], []⟩ [.ref a] [.ref a] _ rfl hr e0 (hbind s1 (.ref a)) (.cons rfl .nil) (hsp H only good sq)
    refine codeAny_mono run fun res t hres => ?_
    match res, hres with
    | .ok (.ret u), ⟨v, H2, eos, ebare, un, hok2, rv, ev⟩ =>
      have ev2 : v = .bl true := ev
      subst ev2
      have eu : u = Value.bool true := rv
      subst eu
      refine ⟨rfl, OldK.of_keep (fun b o e1 => ?_), eos, ebare⟩
      by_cases hz : H b = none
      · exact un.keep b o e1 hz (List.not_mem_nil) (List.not_mem_nil)
      · rcases only b with z | ⟨ob, xs, z⟩
        · exact absurd z hz
        · obtain ⟨q1, _⟩ := hok b _ z
          obtain ⟨q2, _⟩ := hok2 b _ (un.frzs b ob _ z)
          rw [e1] at q1
          cases q1
          exact q2
  cases hk : K.lookup a with
  | some o =>
    have e1 := KX a o hk
    rw [ha] at e1
    cases e1
    refine main (fun _ => none) (fun _ => .inl rfl) (fun _ _ _ => rfl) (.inr ⟨_, vs.toArray, _, hk, rfl, rfl, rfl, by rw [List.size_toArray, nlen]; exact hlen, by simpa using rels⟩) (fun b u z => by cases (show (none : Option HO) = some u from z)) (fun b z => absurd rfl z)
  | none =>
    have at1 : ∀ b, (if b = a then some (HO.frz { cls := .type "list", data := .seq vs.toArray } (.lst (ns.map V.int))) else none) ≠ none → b = a := fun b z => by
      by_cases hb : b = a
      · exact hb
      · exact absurd (if_neg hb) z
    refine main (fun b => if b = a then some (.frz { cls := .type "list", data := .seq vs.toArray } (.lst (ns.map V.int))) else none) (fun b => ?_) (fun b o e1 => ?_) (.inl (.inr ⟨_, if_pos rfl⟩)) (fun b u z => ?_) at1
    · by_cases hb : b = a
      · exact .inr ⟨_, _, if_pos hb⟩
      · exact .inl (if_neg hb)
    · refine if_neg ?_
      rintro rfl
      rw [hk] at e1
      cases e1
    · have hb := at1 b (fun q => by
        have z1 : (if b = a then some (HO.frz { cls := .type "list", data := .seq vs.toArray } (.lst (ns.map V.int))) else none) = some u := z
        rw [q] at z1
        cases z1)
      subst hb
      have z2 := (if_pos rfl).symm.trans (show (if b = b then some (HO.frz { cls := .type "list", data := .seq vs.toArray } (.lst (ns.map V.int))) else none) = some u from z)
      cases z2
      exact ⟨ha, by rw [List.length_map]; exact hlen, vs, _, rels, ha⟩
/-- a law whose def keeps spF of its mirror -/
theorem walkG {l : PySem.W.OpenLaw} {n k : Nat} {q : Program} {loose : List Str} {XP : (Str → Option Value) → Heap → Prop} {YP : World → Heap → Prop} {d : DefRec} {x : Str} (hn : l.most = some n) (hn2 : n ≤ sizeLine) (hdf : d.params.defaults = []) (hr : Room k callerA)
    (F : ∀ (w : World) (mg : Str → Option Value) (fa : Addr) (h : Heap), YP w h → h.Ns mainGlobals mg → mg d.name = some (.ref fa) →
      ∃ (K : KK) (fd : FuncData) (G : List W → CRes), K.In h ∧ (∀ (s : Shared) (u : Value), BindsTo s fd ⟨[u], []⟩ [(x, u)]) ∧
        (∀ ns : List Int, ns.length ≤ n → G [.d (.list (ns.map PyData.int))] = .ok (.d (.bool true)) []) ∧
        ∀ base : Heap, K.In base → base.Ns mainGlobals mg → FnG l.prog w K mg base k fa fd [x] (spF K 1 G)) :
    PySem.W.WalkO q loose XP YP l.row.toRowW d [] (fun f vs => PySem.call f vs) := by
  refine Att.attach_call hn hdf fun w s0 s1 mg mb fa o pm cd doc a vs ns G Y ho hd hcd hmg hobj hints hlen hgen => ?_
  obtain ⟨K, fd, G', KX, hbd, hG, hF⟩ := F w mg fa _ Y G.T.g hmg
  refine lawG KX G.T.g G.T.b G.T.builtins G.T.nolimit hgen hobj hints (Nat.le_trans hlen hn2) hr hF hbd fun H _ good sq => ?_
  have dt : Dat K H [] (.list (ns.map PyData.int)) (.ref a) := ⟨a, _, rfl, sq, List.not_mem_nil, dats_ints⟩
  refine ⟨[], [.d (.list (ns.map PyData.int))], .d (.bool true), [], rfl, rfl, ?_, good, hG ns hlen, fun v H2 r => ?_⟩
  · exact Rels.data (L := []) ⟨List.nodup_nil, fun p hp => by cases hp⟩ dt
  · exact r.at_ _ List.mem_cons_self

/-! ### a list times an int -/
def eRep (a b : ME) : ME := fun e => bnd (a e) fun w e1 => bnd (b e1) fun w2 e2 => match w with
  | .l xs => (match vw w2 with
    | .int k => if -9223372036854775808 ≤ k ∧ k < 9223372036854775808 ∧ xs.length * k.toNat ≤ 16777216 then .ok (.l (List.replicate k.toNat xs).flatten) e2 else .no
    | _ => .no)
  | _ => .no
def mIns : List D → List D → Option (W × List D)
  | xs, [.int i, d] => if xs.length < 16777216 ∧ 0 ≤ i ∧ i < 9223372036854775808 then some (.d .none, xs.take i.toNat ++ d :: xs.drop i.toNat) else none
  | _, _ => none
end Mi
set_option Elab.async false
set_option linter.all false
set_option maxRecDepth 100000
set_option maxHeartbeats 4000000
/-! Mi11: short words for printed derivations -/
namespace Mi
open PySem PySem.Spec PyProof.Rows L2

/-- a def that may be called: the name x, C's number c, n parameters -/
def Cal (P : Program) (w : World) (K : KK) (mg : Str → Option Value) (base : Heap) (lv : Nat) (C : Orc) (x : Str) (c n : Nat) : Prop :=
  ∃ (f : Addr) (fd : FuncData) (ps : List Str), mg x = some (.ref f) ∧ PySem.W.keepIn K (.ref f) = true ∧ Binds K fd ps [] ∧ FnG P w K mg base lv f fd ps (spF K n (C c))
theorem one_P {P Pl : List Nat} (h : [P].contains Pl = true) : P = Pl := by simpa [eq_comm] using h
/-- what a def's body may lean on -/
structure Ok (A : Around) (lv : Nat) : Prop where
  gd : A.guards = some []
  rm : Room lv A
section
variable {X : Cx} {P : List Nat} {e : Expr} {lv : Nat}
theorem pe_fn {C : Orc} {c n : Nat} {x : Str} {p pos : Pos} {es : List Expr} {as : List Arg} (o : Ok X.A lv) (h : Cal X.prog X.w X.K X.mg X.base lv C x c n) (hn : as.length = n) (hg : Gl X x) (ha : PA X (e :: es) (tG X.K P as)) (hdb : (x == ("__debug__" : Str)) = false := by decide)
    (he : starEach (e :: es) X.env = (false, eval e X.env) :: starEach es X.env := by rfl) (hpl : (backTo pos (starEach es X.env)).any (·.1) = false := by rfl) : PE X (.Call (.Name x p) (e :: es) [] pos) (tE X.K P (eCall C c as)) := by
  obtain ⟨f, fd, ps, h1, h2, h3, h4⟩ := h
  exact pe_callM h4 (by simpa using hn) o.gd o.rm hg h1 h2 h3 .nil rfl ha hdb he hpl
def tO2 (f : D → D → Option Bool) (a b : Opd) : MT := fun e => bnd (a.run e) fun r e1 => bnd (b.run e1) fun r2 e2 => match gv e2 r with
  | some x => (match gv e2 r2 with
    | some y => ofO (f x y) e2
    | none => .no)
  | none => .no
theorem pt_o2 {r : R2} {f : D → D → Option Bool} {oa ob : Opd} (ho : Op2B X.K r f) (h : PT X e (tTest (tOp r (tD X.K P oa) (tD X.K P ob)))) : PT X e (tM X.K P (tO2 f oa ob)) := mkT h fun p0 T σ env H b env' Q sr g hm hQ => by
  obtain ⟨ra, e2, h1, hm⟩ := bnd_eq_ok hm
  refine ⟨p0, T, env, ra, e2, sr, g, h1, fun x H1 ox sr1 g1 => ?_⟩
  obtain ⟨rb, e3, h2, hm⟩ := bnd_eq_ok hm
  refine ⟨p0, held T x ra, e2, rb, e3, sr1, g1, h2, fun y H2 oy sr2 g2 => ?_⟩
  cases hg : gv e3 ra with
  | none => rw [hg] at hm; cases hm
  | some d =>
    rw [hg] at hm
    cases hg2 : gv e3 rb with
    | none => rw [hg2] at hm; cases hm
    | some d2 =>
      rw [hg2] at hm
      obtain ⟨h3, rfl⟩ := ofO_eq_ok hm
      have done : SR X.K P p0 T σ env' H2 := by
        cases ra <;> cases rb
        · exact sr2
        · exact sr2.drop
        · exact sr2.drop
        · exact sr2.drop.drop
      refine ho H2 _ x y d d2 b (fun v H3 => ∃ k, v = .bl k ∧ Q k H3) g2 sr2.rels (view_of sr2 ox (fun w e => ?_) hg) (view_of sr2 oy (fun w e => by subst e; exact List.mem_cons_self) hg2) h3 ⟨b, rfl, hQ H2 fun _ => done⟩
      subst e
      cases rb with
      | inl i => exact List.mem_cons_self
      | inr w' => exact List.mem_cons_of_mem _ List.mem_cons_self
theorem PI.or {tg iter : Expr} {w1 w2 : TI} (h1 : PI X tg iter w1) (h2 : PI X tg iter w2) : PI X tg iter (fun σ H R => w1 σ H R ∨ w2 σ H R) := by
  refine ⟨fun pins s σ H R I h => ?_⟩
  rcases h with h | h
  · exact h1.run pins s σ H R I h
  · exact h2.run pins s σ H R I h
/-- a list or a tuple -/
def iAny (m : ME) : MI := fun e => bnd (m e) fun w e1 => match vw w with
  | .list xs => .ok xs e1
  | .tuple xs => .ok xs e1
  | _ => .no
theorem pi_anyM {tg iter : Expr} {m : ME} (h : PE X iter (tE X.K P m)) (h1 : ∀ te, PE X iter te → PI X tg iter (iList X.K te) := by exact fun te h => pi_list h) (h2 : ∀ te, PE X iter te → PI X tg iter (iTup X.K te) := by exact fun te h => pi_tup h) : PI X tg iter (tI X.K P (iAny m)) :=
  mkI (PI.or (h1 _ h) (h2 _ h)) fun p0 T σ env H xs env' R sr g hm hR => by
    obtain ⟨w, e1, h1, hm⟩ := bnd_eq_ok hm
    split at hm
    · rename_i ys hw
      cases hm
      refine .inl ⟨p0, T, env, w, _, sr, g, h1, fun v H1 sr1 g1 => ?_⟩
      have sr1 := sr1.fz
      rw [hw] at sr1
      have q := sr1.top.at_ _ List.mem_cons_self
      simp only [RW, Dat] at q
      obtain ⟨a, vs, rfl, hs, _, hd⟩ := q
      exact ⟨a, rfl, ⟨vs, hs⟩, hR _ [(.ref a, .d (.list xs))] H1 itOk_list fun _ => sr1⟩
    · rename_i ys hw
      cases hm
      refine .inr ⟨p0, T, env, w, _, sr, g, h1, fun v H1 sr1 g1 => ?_⟩
      have sr1 := sr1.fz
      rw [hw] at sr1
      have q := sr1.top.at_ _ List.mem_cons_self
      simp only [RW, Dat] at q
      obtain ⟨a, vs, rfl, hs, _, hd⟩ := q
      exact ⟨a, rfl, ⟨vs, hs⟩, hR _ [(.ref a, .d (.tuple xs))] H1 itOk_tup fun _ => sr1⟩
    · cases hm
end
end Mi
namespace Mi
open PySem PySem.Spec PyProof.Rows L2
theorem Ok.un65 {A : Around} {lv : Nat} (o : Ok A lv) : A.units + 65 < cLine := by
  have h := o.rm.un
  omega
theorem Ok.un66 {A : Around} {lv : Nat} (o : Ok A lv) : A.units + 66 < cLine := by
  have h := o.rm.un
  omega
end Mi

namespace Mi
open PySem PySem.Spec PyProof.Rows L2
section
variable {P : Program} {w : World} {K : KK} {mg : Str → Option Value} {base : Heap} {x qual : Str} {params : Arguments} {body : List Stmt} {scope : Scope} {f : Addr} {fd : FuncData} {C : Orc} {c np : Nat} {ps : List Str} {dvs : List V} {kws : List (Str × V)}
theorem Cal.zero (hC : ∀ ws, C c ws = .no) (hm : mg x = some (.ref f)) (hk : PySem.W.keepIn K (.ref f) = true) (hb : Binds K fd ps []) (hn : ps.length = np) : Cal P w K mg base 0 C x c np := by
  refine ⟨f, fd, ps, hm, hk, hb, fun vs H Q E h => ?_, fun A outer s H args us vs Q _ _ _ _ _ h => ?_⟩
  · obtain ⟨_, _, _, _, e, _⟩ := h
    rw [hn]; exact e
  · obtain ⟨T, ws, wr, outs, _, _, _, _, e, _⟩ := h
    rw [hC] at e
    cases e
theorem Cal.succ {N : List Str} {k n : Nat} {Ps : List (List Nat)} {m : MS} (hm : mg x = some (.ref f)) (F : FunD K x qual params body scope dvs kws f fd) (hb : Binds K fd ps []) (S : FnScope N ps scope) (hn : ps.length = np) (hN : N.length = n) (hC : C c = runF np n Ps m)
    (hbody : ∀ (Pl : List Nat), Ps.contains Pl = true → ∀ (cdv : Value) (A : Around) (outer : List PySem.Env) (s : Shared) (H : Hp), Ok (A.deeper (envOfC qual scope s.heap.objs.size f cdv)) k →
      PSs (cxOf CX0 P w K mg base N qual scope f cdv A outer s H E0).nox body (tS K Pl m)) : Cal P w K mg base (k + 1) C x c np :=
  ⟨f, fd, ps, hm, F.kp, hb, fnM F S hn hN hC fun Pl hP cdv A outer s H hg hr => (hbody Pl hP cdv A outer s H ⟨hg, hr⟩).nox⟩
theorem lawF {N : List Str} {k n : Nat} {Ps : List (List Nat)} {m : MS} (F : FunD K x qual params body scope dvs kws f fd) (S : FnScope N ps scope) (hn : ps.length = np) (hN : N.length = n) (hC : C c = runF np n Ps m)
    (hbody : ∀ (Pl : List Nat), Ps.contains Pl = true → ∀ (cdv : Value) (A : Around) (outer : List PySem.Env) (s : Shared) (H : Hp), Ok (A.deeper (envOfC qual scope s.heap.objs.size f cdv)) k →
      PSs (cxOf CX0 P w K mg base N qual scope f cdv A outer s H E0).nox body (tS K Pl m)) : FnG P w K mg base (k + 1) f fd ps (spF K np (C c)) :=
  fnM F S hn hN hC fun Pl hP cdv A outer s H hg hr => (hbody Pl hP cdv A outer s H ⟨hg, hr⟩).nox
end
end Mi
set_option Elab.async false
set_option linter.all false
set_option maxRecDepth 100000
set_option maxHeartbeats 4000000
namespace Ob
open PySem PySem.SeqAt
open PySem.AutoSeq1 (wpAny_loadPart')
open PySem.MeetsSeq PySem.MeetsSeq2 PySem.MeetsSeq3
end Ob
/-! Mi12: name op= e of ints, the order of data, a repeated tuple -/
namespace Mi
open PySem PySem.Spec PyProof.Rows L2
/-! ### name op= e -/
def kAug (i : Nat) (g : Int → Int → Int) : Option W → Res W → Res Out
  | some (.d (.int x)), .ok w e1 => (match vw w with
    | .int y => .ok .nx (e1.set i (some (.d (.int (g x y)))))
    | _ => .no)
  | some (.d (.int _)), .ex x e => .ex x e
  | _, _ => .no
def sAug (i : Nat) (g : Int → Int → Int) (m : ME) : MS := fun e => kAug i g (e.getD i none) (m e)
section
variable {X : Cx} {P : List Nat}
end
/-! ### the order of data -/
section
variable {X : Cx} {K : KK}
open PySem.W in
def rOrdD (K : KK) (f : D → D → Bool) : R2 := fun x y H Q => ∃ d e, Dp K H x d ∧ Dp K H y e ∧ alike d e = true ∧ d ≠ .none ∧ min d.depth e.depth ≤ 64 ∧ Q (.bl (f d e)) H
/-- ordered: two ints, or two data that are alike -/
def cOrd (p : Int → Int → Bool) (f : D → D → Bool) (x y : D) : Option Bool := match x, y with
  | .int i, .int j => some (p i j)
  | x, y => if PySem.W.alike x y = true ∧ isNone x = false ∧ min x.depth y.depth ≤ 64 ∧ noD x = true ∧ noD y = true then some (f x y) else none
theorem cOrd_int (p : Int → Int → Bool) (f : D → D → Bool) (i j : Int) : cOrd p f (.int i) (.int j) = some (p i j) := rfl
abbrev dLt := cOrd (fun i j => decide (i < j)) fun d e => PySem.W.dataLt d e
abbrev dGt := cOrd (fun i j => decide (j < i)) fun d e => PySem.W.dataLt e d
abbrev dLe := cOrd (fun i j => decide (i ≤ j)) fun d e => !PySem.W.dataLt e d
abbrev dGe := cOrd (fun i j => decide (j ≤ i)) fun d e => !PySem.W.dataLt d e
end
/-! ### a tuple times an int -/
section
variable {X : Cx} {K : KK}
def rRep1 (K : KK) : R2 := fun x y H Q => ∃ l xs, x = .ref l ∧ y = .int 1 ∧ SqT K H l xs ∧ Q (.ref l) H
def fRepT : D → D → Option W
  | .tuple xs, .int k => if k = 1 then some (.d (.tuple xs)) else if 2 ≤ k ∧ k ≤ 1000 ∧ xs.length ≤ 1000 ∧ xs.isEmpty = false then some (.d (.tuple (List.replicate k.toNat xs).flatten)) else none
  | _, _ => none
end
end Mi
set_option Elab.async false
set_option linter.all false
set_option maxRecDepth 100000
set_option maxHeartbeats 4000000
/-! Mi13: isinstance -/
namespace Mi
open PySem PySem.Spec PyProof.Rows L2
section
variable {X : Cx} {K : KK}
def tyOf : D → String
  | .none => "NoneType"
  | .bool _ => "bool"
  | .int _ => "int"
  | .str _ => "str"
  | .list _ => "list"
  | .tuple _ => "tuple"
  | .dict _ => "dict"
def isTy (d : D) (n : String) : Bool := tyOf d == n || (tyOf d == "bool" && n == "int")
theorem kit_tuple (d : D) : PySem.W.kitOne K (.type (tyOf d)) (.type "tuple") = some (isTy d "tuple") := by cases d <;> rfl
theorem kit_str (d : D) : PySem.W.kitOne K (.type (tyOf d)) (.type "str") = some (isTy d "str") := by cases d <;> rfl
theorem tyX_of {H : Hp} {L : List (V × W)} {x : V} {d : D} (rl : Rels K H L) (hx : Vw L x d) (hd : tyOf d ≠ "dict") : TyX K H x (.type (tyOf d)) := by
  cases d with
  | none => rw [hx.none rl]; exact .base .non
  | bool b => rw [hx.bool rl]; exact .base (.bl b)
  | int i => rw [hx.int rl]; exact .base (.int i)
  | str s => rw [hx.str rl]; exact .base (.str s)
  | list xs =>
    obtain ⟨a, vs, rfl, hs, _⟩ := hx.list rl
    rcases hs with (h | ⟨o, h⟩) | ⟨o, its, n, h1, h2, _⟩
    · exact .base (.lst h)
    · exact .base (.frz h)
    · exact .kList h1 h2
  | tuple xs =>
    obtain ⟨a, vs, rfl, hs, _⟩ := hx.tuple rl
    rcases hs with (h | ⟨o, h⟩) | ⟨o, its, n, h1, h2, _⟩
    · exact .base (.tup h)
    · exact .fTuple h
    · exact .kTuple h1 h2
  | dict kvs => exact absurd rfl hd
def fIs (n : String) (d : D) : Option W := if tyOf d ≠ "dict" then some (.d (.bool (isTy d n))) else none
def rIs1 (K : KK) (n : String) : V → Hp → VK → Prop := fun v H Q => rIsi K [v, .ty n] H Q
theorem op_isi {n : String} (hn : ∀ d : D, PySem.W.kitOne K (.type (tyOf d)) (.type n) = some (isTy d n)) : Op1 K (rIs1 K n) (fIs n) := fun H L x dx w Q gd rl hx hf hQ => by
  unfold fIs at hf
  split at hf
  · rename_i hd
    cases hf
    exact ⟨x, .ty n, _, _, isTy dx n, rfl, .ty n, tyX_of rl hx hd, hn dx, hQ _ H fun _ => rl.data (by simp [Dat])⟩
  · cases hf
theorem pe_isi {a : Expr} {ta : TE} {T : Str} {n : String} {p p2 pos : Pos} (ha : PE X a ta) (hg : Gl X "isinstance") (hm : X.mg "isinstance" = none) (hb : bootBuiltins "isinstance" = some (.builtin "isinstance")) (hg2 : Gl X T) (hm2 : X.mg T = none) (hb2 : bootBuiltins T = some (.type n))
    (hn : T ≠ "__name__" := by decide) (hd : (T == ("__debug__" : Str)) = false := by decide) (hs : starEach [a, .Name T p2] X.env = (false, eval a X.env) :: starEach [.Name T p2] X.env := by rfl) (hs2 : ((backTo pos (starEach [.Name T p2] X.env)).any fun x => x.fst) = false := by rfl) (hs3 : starEach [.Name T p2] X.env = (false, eval (.Name T p2) X.env) :: starEach [] X.env := by rfl) :
    PE X (.Call (.Name "isinstance" p) [a, .Name T p2] [] pos) (tUn (rIs1 X.K n) ta) :=
  pe_callB call_isi hg hm hb (pa_cons ha (pa_cons (pe_bltn (v := .ty n) hg2 hm2 hb2 rfl hn hd) pa_nil hs3) hs) (by decide) (by decide) hs hs2
end
end Mi
set_option Elab.async false
set_option linter.all false
set_option maxRecDepth 100000
set_option maxHeartbeats 4000000
namespace PySem
open Sem (wp)
open AutoSeq1 (wpAny_loadPart')
section
variable {prog : Program} {w : World} {A : Around} {E : Value → Shared → Prop} {s : Shared}
end
end PySem

namespace L2
open PySem PySem.Spec PyProof.Rows
/-- the tuple at a, each item in a new pair with its number -/
def IteT (K : PySem.W.Frag) (a : Addr) : It :=
  ⟨fun i H => ∃ (xs : List V) (x : V), SqT K H a xs ∧ xs[i]? = some x, fun i H v H' => ∃ T x, v = .ref T ∧ H T = none ∧ H' = upd H T (.tup [.int (i : Nat), x]) ∧ ∀ xs, SqT K H a xs → xs[i]? = some x, fun i H => ∃ xs : List V, SqT K H a xs ∧ xs.length ≤ i⟩
def iEnumT (K : PySem.W.Frag) (ta : TA) : TI := fun σ H R => ta σ H fun vs H1 => ∃ a xs, vs = [.ref a] ∧ SqT K H1 a xs ∧ R (IteT K a) H1
end L2
namespace Mi
open PySem PySem.Spec PyProof.Rows L2
def enumD : Nat → List D → List D
  | _, [] => []
  | n, x :: xs => .tuple [.int (n : Int), x] :: enumD (n + 1) xs
def iEnT (m : ME) : MI := fun e => bnd (m e) fun w e1 => match vw w with
  | .tuple xs => .ok (enumD 0 xs) e1
  | _ => .no
end Mi
set_option Elab.async false
set_option linter.all false
set_option maxRecDepth 100000
set_option maxHeartbeats 4000000
/-! Mi15: slices, sums of sequences, extend, pop, all, any, max, min -/
namespace PySem
open Sem (wp)
open AutoSeq1 (wpAny_loadPart')
theorem list_extend_list_anyT (l : Addr) (items : Array Value) (n : Nat) (b : Addr) (items2 : Array Value) (n2 : Nat) (dct : Option Addr) (sl : Array (Option Value)) (hs0 : ¬(!items.isEmpty && Builtin.List.listTooLong (items.size + items2.size)) = true) (hs1 : items.size ≤ sizeLine) (hs2 : items.size + items2.size ≤ sizeLine + 1) :
    Meets (Builtin.«list.extend» ⟨[.ref l, .ref b], []⟩) (fun _ R s => s.heap.get? l = some { cls := .type "list", dict := none, data := .seq items n, slots := #[] } ∧ s.heap.get? b = some { cls := .type "tuple", dict := dct, data := .seq items2 n2, slots := sl } ∧ R (.ok (.ret Value.none)) { s with heap := s.heap.update l (Obj.mapSeq fun x => x ++ items2), toks := s.toks }) :=
  .of_wp fun prog w A R s h => by
    obtain ⟨hp, g, d, tk, os⟩ := s; obtain ⟨hl, hb, h⟩ := h; have f1 := AutoSeq1.idx_int; have f2 := AutoSeq1.sub_tuple_tuple; have f3 := AutoSeq1.sub_list_list; have f4 := AutoSeq1.sub_tuple_list; have f5 := AutoSeq1.sub_list_tuple;
    have hz' : (items ++ items2).size ≤ sizeLine + 1 := by rw [Array.size_append]; exact hs2
    wp_walk using (wpAny_updateSeq hl rfl (hz := hs1) (_hz' := hz')), wpAny_loadPart' hl, wpAny_loadPart' hb; exact ⟨_, rfl, h⟩
theorem list_extend_list_anyL (l : Addr) (items : Array Value) (n : Nat) (b : Addr) (items2 : Array Value) (n2 : Nat) (dct : Option Addr) (sl : Array (Option Value)) (hs0 : ¬(!items.isEmpty && Builtin.List.listTooLong (items.size + items2.size)) = true) (hs1 : items.size ≤ sizeLine) (hs2 : items.size + items2.size ≤ sizeLine + 1) :
    Meets (Builtin.«list.extend» ⟨[.ref l, .ref b], []⟩) (fun _ R s => s.heap.get? l = some { cls := .type "list", dict := none, data := .seq items n, slots := #[] } ∧ s.heap.get? b = some { cls := .type "list", dict := dct, data := .seq items2 n2, slots := sl } ∧ R (.ok (.ret Value.none)) { s with heap := s.heap.update l (Obj.mapSeq fun x => x ++ items2), toks := s.toks }) :=
  .of_wp fun prog w A R s h => by
    obtain ⟨hp, g, d, tk, os⟩ := s; obtain ⟨hl, hb, h⟩ := h; have f1 := AutoSeq1.idx_int; have f2 := AutoSeq1.sub_tuple_tuple; have f3 := AutoSeq1.sub_list_list; have f4 := AutoSeq1.sub_tuple_list; have f5 := AutoSeq1.sub_list_tuple;
    have hz' : (items ++ items2).size ≤ sizeLine + 1 := by rw [Array.size_append]; exact hs2
    wp_walk using (wpAny_updateSeq hl rfl (hz := hs1) (_hz' := hz')), wpAny_loadPart' hl, wpAny_loadPart' hb; exact ⟨_, rfl, h⟩
end PySem
namespace L2
open PySem PySem.Spec PyProof.Rows
section
variable {X : Cx}
/-- xs.extend(ys), ys a list or a tuple -/
def rExtA (K : PySem.W.Frag) : V → List V → Hp → VK → Prop := fun x vs H Q => ∃ l b xs zs, x = .ref l ∧ vs = [.ref b] ∧ H l = some (.lst xs) ∧ (SqL K H b zs ∨ SqT K H b zs) ∧ xs.length + zs.length ≤ sizeLine ∧ Q .non (upd H l (.lst (xs ++ zs)))
theorem mt_extA : MtM X "list.extend" (rExtA X.K) := by
  intro pins s σ H x vs v us Q I rx rv h
  obtain ⟨l, b, xs, zs, rfl, rfl, hH, hB, hz, q⟩ := h
  cases rx
  obtain ⟨u, rfl, ru⟩ := rv.one
  cases ru
  obtain ⟨z, its, n, r, hl, e⟩ := I.lstM hH
  have fin : ∀ its2 : List Value, Vals zs its2 → EP X pins σ Q Value.none { s with heap := s.heap.update l (Obj.mapSeq fun x => x ++ its2.toArray), toks := s.toks } := fun its2 r2 => by
    refine ⟨.non, _, I.lset (its' := its ++ its2) hH e (by simp) (r.append r2) ?_, rfl, q⟩
    rw [List.length_append]
    omega
  have door : ∀ its2 : List Value, Vals zs its2 → its.toArray.size + its2.toArray.size ≤ sizeLine ∧ ¬ (!its.toArray.isEmpty && Builtin.List.listTooLong (its.toArray.size + its2.toArray.size)) = true := fun its2 r2 => by
    have h1 := r.length
    have h2 := r2.length
    have hsz : its.toArray.size + its2.toArray.size ≤ sizeLine := by rw [List.size_toArray, List.size_toArray]; omega
    refine ⟨hsz, ?_⟩
    rw [notLongL hsz, Bool.and_false]
    exact Bool.false_ne_true
  rcases hB with hB | hB
  · obtain ⟨its2, r2, hb, _⟩ := I.list hB
    obtain ⟨⟨c2, d2, dt2, sl2⟩, n2, e2, hc, hd, hn⟩ := hb
    simp only at hc hn
    subst hc hn
    obtain ⟨hsz, hlong⟩ := door its2 r2
    exact call_meets F.slot_list_extend ⟨_, e, rfl⟩ F.entry_list_extend (F.args_list_extend_2 _ _)
      (list_extend_list_anyL l its.toArray n b its2.toArray n2 d2 sl2 hlong (by rw [List.size_toArray]; omega) (by omega)) ⟨e, e2, fin its2 r2⟩
  · obtain ⟨its2, r2, hb, _⟩ := I.tuple hB
    obtain ⟨⟨c2, d2, dt2, sl2⟩, e2, hc, n2, hn⟩ := hb
    simp only at hc hn
    subst hc hn
    obtain ⟨hsz, hlong⟩ := door its2 r2
    exact call_meets F.slot_list_extend ⟨_, e, rfl⟩ F.entry_list_extend (F.args_list_extend_2 _ _)
      (list_extend_list_anyT l its.toArray n b its2.toArray n2 d2 sl2 hlong (by rw [List.size_toArray]; omega) (by omega)) ⟨e, e2, fin its2 r2⟩
end
end L2

namespace HT
open PySem PySem.Spec PyProof.Rows
section
variable {prog : Program} {w : World} {A : Around} {E : Value → Shared → Prop} {s : Shared}
end
end HT
namespace L2
open PySem PySem.Spec PyProof.Rows
section
variable {X : Cx}
/-- x[::-1], x a list or a tuple -/
def rRevA (K : PySem.W.Frag) : V → Hp → VK → Prop := fun x H1 Q => ∃ a xs, x = .ref a ∧ ((SqL K H1 a xs ∧ ∀ p, H1 p = none → Q (.ref p) (upd H1 p (.lst xs.reverse))) ∨ (SqT K H1 a xs ∧ ∀ p, H1 p = none → Q (.ref p) (upd H1 p (.tup xs.reverse))))
end
end L2
namespace PySem
open Sem (wp)
open AutoSeq1 (wpAny_loadPart')
theorem list_add_any (l : Addr) (items : Array Value) (n : Nat) (b : Addr) (items2 : Array Value) (n2 : Nat) (dd dd2 : Option Addr) (sl sl2 : Array (Option Value)) (hc0 : items.size + items2.size ≤ sizeLine) :
    Meets (Builtin.«list.__add__» ⟨[.ref l, .ref b], []⟩) (fun _ R s => s.heap.get? l = some { cls := .type "list", dict := dd, data := .seq items n, slots := sl } ∧ s.heap.get? b = some { cls := .type "list", dict := dd2, data := .seq items2 n2, slots := sl2 } ∧ R (.ok (.ret (Value.ref s.heap.objs.size))) { s with heap := s.heap.push { cls := Value.type "list", data := Data.seq (items ++ items2) }, toks := s.toks }) :=
  .of_wp fun prog w A R s h => by obtain ⟨hp, g, d, tk, os⟩ := s; obtain ⟨hl, hb, h⟩ := h; have f1 := AutoSeq1.idx_int; have f2 := AutoSeq1.sub_tuple_tuple; have f3 := AutoSeq1.sub_list_list; have f4 := AutoSeq1.sub_tuple_list; have f5 := AutoSeq1.sub_list_tuple; wp_walk using wpAny_loadPart' hl, wpAny_loadPart' hb; exact ⟨_, rfl, h⟩
end PySem
namespace L2
open PySem PySem.Spec PyProof.Rows
section
variable {X : Cx}
/-- xs + ys, lists of any kind -/
def rCatL (K : PySem.W.Frag) : R2 := fun x y H Q => ∃ l b xs zs, x = .ref l ∧ y = .ref b ∧ SqL K H l xs ∧ SqL K H b zs ∧ xs.length + zs.length ≤ sizeLine ∧ ∀ p, H p = none → Q (.ref p) (upd H p (.lst (xs ++ zs)))
theorem op_catL : OpR X (binaryOp .Add) (rCatL X.K) := by
  intro pins s σ H x y v u Q I rx ry h
  obtain ⟨l, b, xs, zs, rfl, rfl, hH, hB, hz, q⟩ := h
  cases rx
  cases ry
  obtain ⟨its, r, hb, _⟩ := I.list hH
  obtain ⟨⟨c2, d2, dt2, sl2⟩, n2, e2, hc, hd, hn⟩ := hb
  simp only at hc hn
  subst hc hn
  obtain ⟨its3, r3, hb3, _⟩ := I.list hB
  obtain ⟨⟨c3, d3, dt3, sl3⟩, n3, e3, hc3, hd3, hn3⟩ := hb3
  simp only at hc3 hn3
  subst hc3 hn3
  have h1 := r.length
  have h2 := r3.length
  refine concat_meets ⟨_, e2, rfl⟩ ⟨_, e3, rfl⟩ noFill_list_add seq_list_add PySem.F.slot_list_add PySem.F.entry_list_add (PySem.F.args_list_add_2 _ _)
    (list_add_any l its.toArray n2 b its3.toArray n3 d2 d3 sl2 sl3 (by rw [List.size_toArray, List.size_toArray]; omega)) ⟨e2, e3, ?_⟩
  have ea : its.toArray ++ its3.toArray = (its ++ its3).toArray := by simp
  rw [ea]
  exact ⟨.ref _, _, I.lnew (t' := s.toks) (r.append r3) (by rw [List.length_append]; omega), rfl, q _ I.fresh⟩
end
end L2
namespace Mi
open PySem PySem.Spec PyProof.Rows L2
/-! ### sums of any kind -/
def rAddA (K : KK) : R2 := fun x y H Q => (rI0 fun i j => V.int (i + j)) x y H Q ∨ (∃ i j, x = .str i ∧ y = .str j ∧ i.length + j.length ≤ sizeLine ∧ Q (.str (i ++ j)) H) ∨ rCatL K x y H Q ∨ rCatA K x y H Q
theorem op_addA {X : Cx} : OpR X (binaryOp .Add) (rAddA X.K) := OpR.or op_add (OpR.or op_add_str (OpR.or op_catL op_catA))
theorem op_addAM {K : KK} : Op2 K (rAddA K) fAdd := fun H L x y dx dy w Q gd rl hx hy hf hQ => by
  cases dx with
  | int i =>
    cases dy <;> simp only [fAdd] at hf <;> try cases hf
    have ex := hx.int rl
    have ey := hy.int rl
    subst ex ey
    exact .inl ⟨_, _, rfl, rfl, hQ _ H fun _ => rl.data (by simp [Dat])⟩
  | str a =>
    cases dy with
    | str b =>
      simp only [fAdd] at hf
      split at hf
      · rename_i hc
        cases hf
        have ex := hx.str rl
        have ey := hy.str rl
        subst ex ey
        exact .inr (.inl ⟨_, _, rfl, rfl, by rw [sizeLine_eq]; exact hc, hQ _ H fun _ => rl.data (by simp [Dat])⟩)
      · cases hf
    | _ => cases hf
  | list xs =>
    cases dy with
    | list ys =>
      simp only [fAdd] at hf
      split at hf
      · rename_i hc
        cases hf
        obtain ⟨a, us, rfl, hs, hd⟩ := hx.list rl
        obtain ⟨b, vs, rfl, hs2, hd2⟩ := hy.list rl
        exact .inr (.inr (.inl ⟨a, b, us, vs, rfl, rfl, hs, hs2, by rw [← hd.length, ← hd2.length, sizeLine_eq]; exact hc, fun p hp => hQ _ _ fun g => rl.newOwn hp (newK g) (hd.append hd2)⟩))
      · cases hf
    | _ => cases hf
  | tuple xs =>
    cases dy with
    | tuple ys =>
      simp only [fAdd] at hf
      split at hf
      · rename_i hc
        cases hf
        obtain ⟨a, us, rfl, hs, ha, hd⟩ := hx.tuple rl
        obtain ⟨b, vs, rfl, hs2, hb, hd2⟩ := hy.tuple rl
        refine .inr (.inr (.inr ⟨a, b, us, vs, rfl, rfl, hs, hs2, by rw [← hd.length, ← hd2.length, sizeLine_eq]; exact hc, fun e => ?_, fun e1 e2 => ?_, fun _ _ p hp => hQ _ _ fun g => rl.newTup hp (newK g) (hd.append hd2)⟩))
        · subst e
          have : xs = [] := List.eq_nil_of_length_eq_zero hd.length
          subst this
          exact hQ _ H fun _ => rl.data (by simp only [List.nil_append, Dat]; exact ⟨b, vs, rfl, hs2, hb, hd2⟩)
        · subst e2
          have : ys = [] := List.eq_nil_of_length_eq_zero hd2.length
          subst this
          exact hQ _ H fun _ => rl.data (by simp only [List.append_nil, Dat]; exact ⟨a, us, rfl, hs, ha, hd⟩)
      · cases hf
    | _ => cases hf
  | none => cases dy <;> cases hf
  | bool b => cases dy <;> cases hf
  | dict b => cases dy <;> cases hf

/-! ### slices -/
def evP : Option ME → Env → Res (Option Int)
  | none, e => .ok none e
  | some m, e => bnd (m e) fun w e1 => match vw w with
    | .int i => .ok (some i) e1
    | _ => .no
def cutD (xs : List D) (lo hi : Option Int) : List D := (xs.drop (HT.sIx xs.length 0 lo)).take (HT.sIx xs.length xs.length hi - HT.sIx xs.length 0 lo)
def fSl (lo hi : Option Int) : D → Option W
  | .list xs => some (.l (cutD xs lo hi))
  | .tuple xs => some (.d (.tuple (cutD xs lo hi)))
  | .str z => if z.length ≤ 16777216 then some (.d (.str (cutS z lo hi))) else none
  | _ => none
def eSl (o : Opd) (lo hi : Option ME) : ME := fun e => bnd (o.run e) fun r e1 => bnd (evP lo e1) fun l e2 => bnd (evP hi e2) fun u e3 => match gv e3 r with
  | some d => ofO (fSl l u d) e3
  | none => .no
def rSlX (K : KK) : V → Option Int → Option Int → Hp → VK → Prop := fun x lo hi H Q => rSlL K x lo hi H Q ∨ rSlA K x lo hi H Q ∨ rSlS x lo hi H Q
theorem sl_any {X : Cx} : SlR X (rSlX X.K) := SlR.or sl_list (SlR.or sl_tupA sl_str)
theorem cut_dats {K : KK} {H : Hp} {O : List Addr} {ds : List D} {vs : List V} (h : Dats K H O ds vs) (lo hi : Option Int) : Dats K H O (cutD ds lo hi) (cutV vs lo hi) := by
  unfold cutD cutV
  rw [h.length]
  exact (h.drop _).take _
theorem op_slM {K : KK} {lo hi : Option Int} : Op1 K (fun x H Q => rSlX K x lo hi H Q) (fSl lo hi) := fun H L x dx w Q gd rl hx hf hQ => by
  cases dx with
  | list xs =>
    cases hf
    obtain ⟨a, us, rfl, hs, hd⟩ := hx.list rl
    exact .inl ⟨a, us, rfl, hs, fun p hp => hQ _ _ fun g => rl.newOwn hp (newK g) (cut_dats hd lo hi)⟩
  | tuple xs =>
    cases hf
    obtain ⟨a, us, rfl, hs, ha, hd⟩ := hx.tuple rl
    refine .inr (.inl ⟨a, us, rfl, hs, fun e => hQ _ H fun _ => rl.data ?_, fun _ p hp => hQ _ _ fun g => rl.newTup hp (newK g) (cut_dats hd lo hi)⟩)
    have : cutD xs lo hi = xs := by
      unfold cutD
      rw [hd.length, e.1, e.2, List.drop_zero, ← hd.length]
      simp
    rw [this]
    simp only [Dat]
    exact ⟨a, us, rfl, hs, ha, hd⟩
  | str z =>
    simp only [fSl] at hf
    split at hf
    · rename_i hz
      cases hf
      have ex := hx.str rl
      subst ex
      exact .inr (.inr ⟨z, rfl, by rw [sizeLine_eq]; exact hz, hQ _ H fun _ => rl.data (by simp [Dat])⟩)
    · cases hf
  | _ => cases hf
/-- a slice's part by its mirror -/
def tPM (K : KK) (P : List Nat) (m : Option ME) : TO := fun σ H Q => ∃ p0 T env l env', SR K P p0 T σ env H ∧ Good K H ∧ evP m env = .ok l env' ∧ ∀ H', SR K P p0 T σ env' H' → Good K H' → Q l H'
theorem po_noneM {X : Cx} {P : List Nat} : PO X none (tPM X.K P none) := ⟨fun pins s σ H Q I h => by
  obtain ⟨p0, T, env, l, env', sr, g, hm, hQ⟩ := h
  cases hm
  exact po_none.run pins s σ H Q I (hQ H sr g)⟩
theorem po_someM {X : Cx} {P : List Nat} {e : Expr} {m : ME} (h : PE X e (tE X.K P m)) : PO X (some e) (tPM X.K P (some m)) := ⟨fun pins s σ H Q I hq => by
  obtain ⟨p0, T, env, l, env', sr, g, hm, hQ⟩ := hq
  obtain ⟨w, e1, h1, hm⟩ := bnd_eq_ok hm
  split at hm
  · rename_i i hw
    cases hm
    have := vw_int hw
    subst this
    refine (po_some h).run pins s σ H Q I ⟨p0, T, env, _, _, sr, g, h1, fun v H' s1 g1 => ?_⟩
    exact ⟨i, s1.int, hQ H' s1.drop g1⟩
  · cases hm⟩
theorem pe_slM {X : Cx} {P : List Nat} {e : Expr} {o : Opd} {lo hi : Option Expr} {ml mh : Option ME} {p2 pos : Pos} (he : PE X e (tD X.K P o)) (hl : PO X lo (tPM X.K P ml)) (hh : PO X hi (tPM X.K P mh)) : PE X (.Subscript e (.Slice lo hi none p2) pos) (tE X.K P (eSl o ml mh)) :=
  mkE (pe_slice sl_any he hl hh) fun p0 T σ env H w env' Q sr g hm hQ => by
    obtain ⟨ra, e1, h1, hm⟩ := bnd_eq_ok hm
    obtain ⟨l, e2, h2, hm⟩ := bnd_eq_ok hm
    obtain ⟨u, e3, h3, hm⟩ := bnd_eq_ok hm
    refine ⟨p0, T, env, ra, e1, sr, g, h1, fun x H1 ox sr1 g1 => ⟨p0, _, e1, l, e2, sr1, g1, h2, fun H2 sr2 g2 => ⟨p0, _, e2, u, e3, sr2, g2, h3, fun H3 sr3 g3 => ?_⟩⟩⟩
    cases hg : gv e3 ra with
    | none => rw [hg] at hm; cases hm
    | some d =>
      rw [hg] at hm
      obtain ⟨h4, rfl⟩ := ofO_eq_ok hm
      exact op_slM H3 _ x d w _ g3 sr3.rels (view_of sr3 ox (fun w e => by subst e; exact List.mem_cons_self) hg) h4 fun v H4 q => hQ v H4 fun g4 => dropHeld (sr3.push (q g4))
def fRev : D → Option W
  | .list xs => some (.l xs.reverse)
  | .tuple xs => some (.d (.tuple xs.reverse))
  | _ => none
/-! ### extend, pop -/
def mExt : List D → List D → Option (W × List D)
  | xs, [.list ys] => if xs.length + ys.length ≤ 16777216 then some (.d .none, xs ++ ys) else none
  | xs, [.tuple ys] => if xs.length + ys.length ≤ 16777216 then some (.d .none, xs ++ ys) else none
  | _, _ => none
theorem om_ext {K : KK} : OpM K (rExtA K) mExt := fun H L a xs ds ys vs w Q gd rl hd hf hQ => by
  have fin : ∀ (b : Addr) (zs : List D) (us : List V), vs = [.ref b] → (SqL K H b us ∨ SqT K H b us) → Dats K H (owned H ((.ref a, .l xs) :: L)) zs us → xs.length + zs.length ≤ 16777216 → (w, ys) = (.d .none, xs ++ zs) → rExtA K (.ref a) vs H Q := by
    intro b zs us e1 h1 h2 hz e
    cases e
    obtain ⟨a', us0, e, h3, h4⟩ := rl.lst
    cases e
    refine ⟨a, b, us0, us, rfl, e1, h3, h1, by rw [← h4.length, ← h2.length, sizeLine_eq]; exact hz, hQ _ _ fun _ => ?_⟩
    exact (rl.write (h4.append h2)).data (by simp [Dat])
  unfold mExt at hf
  split at hf
  · split at hf
    · rename_i zs hz
      obtain ⟨v, r, rfl, h1, rfl⟩ := hd
      simp only [Dat] at h1
      obtain ⟨b, us, rfl, hs, _, h2⟩ := h1
      exact fin b zs us rfl (.inl hs) h2 hz (Option.some.inj hf).symm
    · cases hf
  · split at hf
    · rename_i zs hz
      obtain ⟨v, r, rfl, h1, rfl⟩ := hd
      simp only [Dat] at h1
      obtain ⟨b, us, rfl, hs, _, h2⟩ := h1
      exact fin b zs us rfl (.inr hs) h2 hz (Option.some.inj hf).symm
    · cases hf
  · cases hf
def mPop (xs ds : List D) : Option (W × List D) := match ds with
  | [] => (match xs.getLast? with
    | some y => some (.d y, xs.dropLast)
    | none => none)
  | _ => none
def mPopAt (xs ds : List D) : Option (W × List D) := match ds with
  | [.int i] => if -9223372036854775808 ≤ i ∧ i < 9223372036854775808 then (match ixN xs.length i with
    | some k => (match xs[k]? with
      | some y => some (.d y, xs.eraseIdx k)
      | none => none)
    | none => none) else none
  | _ => none
theorem Dats.dropLast {K : KK} {H : Hp} {O : List Addr} {ds : List D} {vs : List V} (h : Dats K H O ds vs) : Dats K H O ds.dropLast vs.dropLast := by
  rw [List.dropLast_eq_take, List.dropLast_eq_take, h.length]
  exact h.take _
theorem Dats.eraseIdx {K : KK} {H : Hp} {O : List Addr} {ds : List D} {vs : List V} (h : Dats K H O ds vs) (k : Nat) : Dats K H O (ds.eraseIdx k) (vs.eraseIdx k) := by
  rw [List.eraseIdx_eq_take_drop_succ, List.eraseIdx_eq_take_drop_succ]
  exact (h.take _).append (h.drop _)
theorem back {K : KK} {H : Hp} {L : List (V × W)} {a : Addr} {xs ys : List D} {us : List V} {d : D} {v : V} (rl : Rels K H ((.ref a, .l xs) :: L)) (q : Dats K H (owned H ((.ref a, .l xs) :: L)) ys us) (h6 : Dat K H (owned H ((.ref a, .l xs) :: L)) d v) : Rels K (upd H a (.lst us)) ((v, .d d) :: (.ref a, .l ys) :: L) := by
  refine (rl.write q).data (h6.to (fun b o n z => ?_) fun b z => ?_)
  · have : b ≠ a := by rintro rfl; exact n (by rw [owned_l]; exact List.mem_cons_self)
    rw [upd_ne this]; exact z
  · rw [owned_l] at z ⊢
    have nd := rl.nd
    rw [owned_l] at nd
    have na := (List.nodup_cons.mp nd).1
    rwa [owned_congr (H := H) (H' := upd H a (.lst us)) fun c hc => upd_ne (by rintro rfl; exact na hc)] at z
theorem om_popAt {K : KK} : OpM K rPopAt mPopAt := fun H L a xs ds ys vs w Q gd rl hd hf hQ => by
  unfold mPopAt at hf
  split at hf
  · rename_i i
    split at hf
    · rename_i hi
      split at hf
      · rename_i k hk
        split at hf
        · rename_i y hy
          cases hf
          obtain ⟨v0, r, rfl, hv, rfl⟩ := hd
          have hv' : v0 = .int i := by simpa only [Dat] using hv
          subst hv'
          obtain ⟨b, us, e, h3, h4⟩ := rl.lst
          cases e
          obtain ⟨v, h5, h6⟩ := h4.get hy
          exact ⟨a, us, i, k, v, rfl, rfl, h3, by omega, by omega, by rw [← h4.length]; exact (ixN_seq hk).1, h5, hQ _ _ fun _ => back rl (h4.eraseIdx k) h6⟩
        · cases hf
      · cases hf
    · cases hf
  · cases hf
end Mi
set_option Elab.async false
set_option linter.all false
set_option maxRecDepth 100000
set_option maxHeartbeats 4000000
/-! Mi16: a name's value taken out of its slot -/
namespace Mi
open PySem PySem.Spec PyProof.Rows L2
variable {X : Cx} {P : List Nat} {e : Expr}
theorem SR.take {K : KK} {p0 : L2.St} {T : List (V × W)} {σ : L2.St} {env : Env} {H : Hp} {i : Nat} {v : V} {w : W} (h : SR K P p0 T σ env H) (hv : σ[i]? = some (some v)) (hw : env.getD i none = some w) (hP : i ∉ P) : SR K P p0 ((v, w) :: T) σ (env.set i none) H := by
  obtain ⟨h1, _⟩ := pr_clear hv hw h.len
  refine ⟨h.rels.perm ?_, by simp [h.len], h.len0, fun j x e => ?_, fun j hj => ?_⟩
  · refine (h1.append_right T).trans ?_
    rw [List.cons_append]
    exact List.perm_middle.symm
  · rw [set_getD] at e
    split at e
    · cases e
    · exact h.cov j x e
  · have ne : i ≠ j := fun q => hP (q ▸ hj)
    rw [set_getD, if_neg (fun q => ne q.1)]
    exact h.par j hj
def eMv (i : Nat) : ME := fun e => match e.getD i none with
  | some w => .ok w (e.set i none)
  | none => .no
end Mi
set_option Elab.async false
set_option linter.all false
set_option maxRecDepth 100000
set_option maxHeartbeats 4000000
/-! Mi17: reversed(list, tuple or range), tuple(range), list(range) -/
namespace Mi
open PySem PySem.Spec PyProof.Rows L2
section
variable {X : Cx} {P : List Nat} {tg iter : Expr}
/-- a list or a tuple from its end -/
def iRvA (m : ME) : MI := fun e => bnd (m e) fun w e1 => match vw w with
  | .list xs => .ok xs.reverse e1
  | .tuple xs => .ok xs.reverse e1
  | _ => .no
/-! ### ranges as values -/
/-- a range expression gives its bounds -/
abbrev MR := Env → Res (Int × Int)
def gR1 (a : ME) : MR := fun e => bnd (a e) fun w e1 => match vw w with
  | .int j => .ok (0, j) e1
  | _ => .no
def gR2 (a b : ME) : MR := fun e => bnd (a e) fun w e1 => bnd (b e1) fun w2 e2 => match vw w with
  | .int i => (match vw w2 with
    | .int j => .ok (i, j) e2
    | _ => .no)
  | _ => .no
def tR (K : KK) (P : List Nat) (m : MR) : L2.St → Hp → (Int → Int → Hp → Prop) → Prop := fun σ H Q => ∃ p0 T env a b env', SR K P p0 T σ env H ∧ Good K H ∧ m env = .ok (a, b) env' ∧ ∀ H', SR K P p0 T σ env' H' → Good K H' → Q a b H'
theorem mkR {e : Expr} {t : L2.St → Hp → (Int → Int → Hp → Prop) → Prop} {m : MR} (h : PRg X e t)
    (k : ∀ (p0 : L2.St) (T : List (V × W)) (σ : L2.St) (env : Env) (H : Hp) (a b : Int) (env' : Env) (Q : Int → Int → Hp → Prop), SR X.K P p0 T σ env H → Good X.K H → m env = .ok (a, b) env' →
      (∀ H', (Good X.K H' → SR X.K P p0 T σ env' H') → Q a b H') → t σ H Q) : PRg X e (tR X.K P m) := by
  intro pins s σ H Q I hq
  obtain ⟨p0, T, env, a, b, env', sr, g, hm, hQ⟩ := hq
  refine thn (h pins s σ H (fun a b H' => Good X.K H' → Q a b H') I (k p0 T σ env H a b env' _ sr g hm fun H' q g' => hQ H' (q g') g')) ?_
  rintro u s' ⟨r, a', b', t', u', v', H', e1, e2, I', q⟩
  exact ⟨r, a', b', t', u', v', H', e1, e2, I', q (inv_good I')⟩
theorem pr_2M {e : Expr} {m m2 : ME} (h : PRg X e (tRg2 (tE X.K P m) (tE X.K P m2))) : PRg X e (tR X.K P (gR2 m m2)) := mkR h fun p0 T σ env H a b env' Q sr g hm hQ => by
  obtain ⟨w, e1, h1, hm⟩ := bnd_eq_ok hm
  obtain ⟨w2, e2, h2, hm⟩ := bnd_eq_ok hm
  split at hm
  · rename_i i hw
    split at hm
    · rename_i j hw2
      cases hm
      refine ⟨p0, T, env, w, _, sr, g, h1, fun v H1 sr1 g1 => ?_⟩
      obtain rfl := vw_int hw
      have hv : v = .int a := by simpa only [RW, Dat] using sr1.top.at_ _ List.mem_cons_self
      refine ⟨p0, _, _, w2, _, sr1, g1, h2, fun v2 H2 sr2 g2 => ?_⟩
      obtain rfl := vw_int hw2
      have hv2 : v2 = .int b := by simpa only [RW, Dat] using sr2.top.at_ _ List.mem_cons_self
      exact ⟨_, _, hv, hv2, hQ H2 fun _ => sr2.drop.drop⟩
    · cases hm
  · cases hm
theorem dats_rg {K : KK} {H : Hp} {O : List Addr} (a b : Int) : Dats K H O (rng a (b - a).toNat) (rgV a b) := by
  unfold rng rgV
  induction List.range (b - a).toNat with
  | nil => simp [Dats]
  | cons x xs ih =>
    simp only [List.map_cons, Dats]
    exact ⟨_, _, rfl, by simp [Dat], ih⟩
def rgOk (a b : Int) : Bool := decide (-4611686018427387904 ≤ a ∧ a < 4611686018427387904 ∧ -4611686018427387904 ≤ b ∧ b < 4611686018427387904 ∧ (b - a).toNat ≤ 16777216)
theorem rgOk_iff {a b : Int} (h : rgOk a b = true) : RgOk a b := by
  have := of_decide_eq_true h
  exact ⟨this.1, this.2.1, this.2.2.1, this.2.2.2.1, this.2.2.2.2⟩
def eTupR (m : MR) : ME := fun e => bnd (m e) fun p e1 => if rgOk p.1 p.2 = true then .ok (.d (.tuple (rng p.1 (p.2 - p.1).toNat))) e1 else .no
def eLstR (m : MR) : ME := fun e => bnd (m e) fun p e1 => if rgOk p.1 p.2 = true then .ok (.l (rng p.1 (p.2 - p.1).toNat)) e1 else .no
theorem newKK {K : KK} {H : Hp} {p : Addr} {x : HO} (g2 : Good K (upd H p x)) : K.lookup p = none := by
  cases q : K.lookup p with
  | none => rfl
  | some o => have := g2 p o q; rw [upd_same] at this; cases this
theorem pe_tupRM {e : Expr} {m : MR} (h : PE X e (tTupRg (tR X.K P m))) : PE X e (tE X.K P (eTupR m)) := mkE h fun p0 T σ env H w env' Q sr g hm hQ => by
  obtain ⟨⟨a, b⟩, e1, h1, hm⟩ := bnd_eq_ok hm
  split at hm
  · rename_i hr
    cases hm
    exact ⟨p0, T, env, a, b, _, sr, g, h1, fun H1 sr1 g1 => ⟨rgOk_iff hr, fun p hp => hQ _ _ fun g2 => sr1.push (sr1.rels.newTup hp (newKK g2) (dats_rg a b))⟩⟩
  · cases hm
theorem pe_lstRM {e : Expr} {m : MR} (h : PE X e (tLstRg (tR X.K P m))) : PE X e (tE X.K P (eLstR m)) := mkE h fun p0 T σ env H w env' Q sr g hm hQ => by
  obtain ⟨⟨a, b⟩, e1, h1, hm⟩ := bnd_eq_ok hm
  split at hm
  · rename_i hr
    cases hm
    exact ⟨p0, T, env, a, b, _, sr, g, h1, fun H1 sr1 g1 => ⟨rgOk_iff hr, fun p hp => hQ _ _ fun g2 => sr1.push (sr1.rels.newOwn hp (newKK g2) (dats_rg a b))⟩⟩
  · cases hm
/-- a range from its end -/
def iRvR (m : MR) : MI := fun e => bnd (m e) fun p e1 => if -4611686018427387904 ≤ p.1 ∧ p.1 < 4611686018427387904 ∧ -4611686018427387904 ≤ p.2 ∧ p.2 < 4611686018427387904 then .ok (rng p.1 (p.2 - p.1).toNat).reverse e1 else .no
end
end Mi
set_option Elab.async false
set_option linter.all false
set_option maxRecDepth 100000
set_option maxHeartbeats 4000000
/-! Mi18: any, all of a list of bools; max, min of a list of ints; sorted of ints -/
namespace Mi
open PySem PySem.Spec PyProof.Rows L2
section
variable {K : KK}
def bools? : List D → Option (List Bool)
  | [] => some []
  | .bool b :: ds => (bools? ds).map (b :: ·)
  | _ => none
theorem Dats.bools {H : Hp} {O : List Addr} : ∀ {bs : List Bool} {vs : List V}, Dats K H O (bs.map PyData.bool) vs → vs = bs.map V.bl
  | [], _, h => by simpa [Dats] using h
  | b :: bs, _, h => by
    simp only [List.map_cons, Dats] at h
    obtain ⟨v, r, rfl, h1, h2⟩ := h
    have e : v = .bl b := by simpa only [Dat] using h1
    rw [e, Dats.bools h2]; rfl
def bAny : List D → Option W
  | [.list xs] => (bools? xs).map fun bs => W.d (.bool (bs.any id))
  | _ => none
def bAll : List D → Option W
  | [.list xs] => (bools? xs).map fun bs => W.d (.bool (bs.all id))
  | _ => none
/-- the greatest one, 0 of none -/
def maxI : List Int → Int
  | [] => 0
  | [x] => x
  | x :: xs => max x (maxI xs)
def minI : List Int → Int
  | [] => 0
  | [x] => x
  | x :: xs => min x (minI xs)
def bMaxL : List D → Option W
  | [.list xs] => (ints? xs).bind fun ns => if ns = [] then none else some (W.d (.int (maxI ns)))
  | _ => none
def bMinL : List D → Option W
  | [.list xs] => (ints? xs).bind fun ns => if ns = [] then none else some (W.d (.int (minI ns)))
  | _ => none
/-- not x, as a value -/
def fNotT (d : D) : Option W := (truD d).map fun k => W.d (.bool (!k))
theorem fNotT_s {d : D} {k : Bool} (h : truD d = some k) : fNotT d = some (.d (.bool (!k))) := by unfold fNotT; rw [h]; rfl
theorem fNotT_l (xs : List D) : fNotT (.list xs) = some (.d (.bool xs.isEmpty)) := by rw [fNotT_s rfl, Bool.not_not]
theorem fNotT_b (b : Bool) : fNotT (.bool b) = some (.d (.bool (!b))) := fNotT_s rfl
end
end Mi
set_option Elab.async false
set_option linter.all false
set_option maxRecDepth 100000
set_option maxHeartbeats 4000000
/-! Mi19: list(zip(a, b)) of two tuples of one length -/
namespace Mi
open PySem PySem.Spec PyProof.Rows L2 RZ

abbrev zipO (TI TO : Addr) (f0 : Value) (f : Bool) : Obj := { cls := .type "zip", dict := none, data := .fields #[f0, .bool f, .bool false, .ref TI, .ref TO], slots := #[] }
section
variable {prog : Program} {w : World} {A : Around} {E : Value → Shared → Prop} {s : Shared}
/-- the zip object at turn i; S: the list that is made -/
structure ZSt (h : Heap) (z TI TO i1 i2 l1 l2 S : Addr) (i : Nat) : Prop where
  hTI : IsPair h TI (.ref i1) (.ref i2)
  hTO : ∃ a b, IsPair h TO a b
  h1 : h.IsTupleIter i1 l1 i
  h2 : h.IsTupleIter i2 l2 i
  hz : IsZip h z TI TO .none ∨ ∃ a f oa, h.get? z = some (zipO TI TO (rawInt (a : Nat)) f) ∧ h.get? a = some oa ∧ S < a
/-- the pairs that have been made -/
structure ZlG (xs ys : Array Value) (lo : Addr) (h : Heap) (as : List Addr) : Prop where
  rise : as.Pairwise (· < ·)
  above : ∀ a ∈ as, lo < a
  pairs : ∀ (j : Nat) (a : Addr), as[j]? = some a → ∃ x y, xs[j]? = some x ∧ ys[j]? = some y ∧ IsPair h a x y
theorem ZlG.there {xs ys : Array Value} {lo : Addr} {h : Heap} {as : List Addr} (g : ZlG xs ys lo h as) {a : Addr} (ha : a ∈ as) : a < h.objs.size := by
  obtain ⟨j, hj⟩ := List.mem_iff_getElem?.mp ha
  obtain ⟨_, _, _, _, e⟩ := g.pairs j a hj
  exact Heap.lt_size e
end
/-! ### as a rule -/
inductive LaidP : Hp → List Addr → List V → List V → Hp → Prop
  | nil (H : Hp) : LaidP H [] [] [] H
  | cons {H H2 : Hp} {a : Addr} {as : List Addr} {x y : V} {xs ys : List V} (ha : H a = none) (r : LaidP (upd H a (.tup [x, y])) as xs ys H2) : LaidP H (a :: as) (x :: xs) (y :: ys) H2
def rZipL (K : PySem.W.Frag) : List V → Hp → VK → Prop := fun vs H Q => ∃ a b xs ys, vs = [.ref a, .ref b] ∧ SqT K H a xs ∧ SqT K H b ys ∧ xs.length = ys.length ∧ xs.length ≤ sizeLine ∧
  ∀ as H2 S, LaidP H as xs ys H2 → H2 S = none → Q (.ref S) (upd H2 S (.lst (as.map V.ref)))
theorem _root_.L2.Un.more {fs ex : List Addr} {H H1 : Hp} {h h' : Heap} {a : Addr} {o : HO} (u : Un fs ex H H1 h h') (hp : h.objs.size ≤ a) (hn : H1 a = none) : Un fs ex H (upd H1 a o) h h' where
  keep := u.keep
  slot := u.slot
  free := fun b ob q n hx => by rw [upd_ne (Nat.ne_of_lt (Nat.lt_of_lt_of_le (Heap.lt_size q) hp))]; exact u.free b ob q n hx
  there := u.there
  tups := fun b xs q => by rw [upd_ne (ne_of_none (u.tups b xs q) hn)]; exact u.tups b xs q
  frzs := fun b u' xs q => by rw [upd_ne (ne_of_none (u.frzs b u' xs q) hn)]; exact u.frzs b u' xs q
  tbls := fun b ps q => by
    obtain ⟨m, e⟩ := u.tbls b ps q
    exact ⟨m, by rw [upd_ne (ne_of_none e hn)]; exact e⟩
/-! ### its mirror -/
def pairD (p : D × D) : D := .tuple [p.1, p.2]
def bZipL : List D → Option W
  | [.tuple ds, .tuple es] => if ds.length = es.length ∧ ds.length ≤ 16777216 then some (.l ((ds.zip es).map pairD)) else none
  | _ => none
end Mi
set_option Elab.async false
set_option linter.all false
set_option maxRecDepth 100000
set_option maxHeartbeats 4000000
/-! Mi20: x in a list or tuple of flat data -/
namespace Mi
open PySem PySem.Spec PyProof.Rows L2
def flatD : D → Bool
  | .none => true
  | .bool _ => true
  | .int _ => true
  | .str _ => true
  | _ => false
def fv : D → V
  | .bool b => .bl b
  | .int i => .int i
  | .str x => .str x
  | _ => .non
def eqF (a b : D) : Bool := eqV (fv a) (fv b)
def cInT (x y : D) : Option Bool := match y with
  | .list ds => if flatD x = true ∧ ds.all flatD = true then some (ds.any fun z => eqF z x) else none
  | .tuple ds => if flatD x = true ∧ ds.all flatD = true then some (ds.any fun z => eqF z x) else none
  | _ => none
def cNotInT (x y : D) : Option Bool := match y with
  | .list ds => if flatD x = true ∧ ds.all flatD = true then some (!ds.any fun z => eqF z x) else none
  | .tuple ds => if flatD x = true ∧ ds.all flatD = true then some (!ds.any fun z => eqF z x) else none
  | _ => none
section
variable {K : KK} {H : Hp} {O : List Addr}
theorem flat_v : ∀ {d : D} {v : V}, Dat K H O d v → flatD d = true → v = fv d
  | .none, _, h, _ => by simp only [Dat] at h; exact h
  | .bool _, _, h, _ => by simp only [Dat] at h; exact h
  | .int _, _, h, _ => by simp only [Dat] at h; exact h
  | .str _, _, h, _ => by simp only [Dat] at h; exact h
  | .list _, _, _, f => by cases f
  | .tuple _, _, _, f => by cases f
  | .dict _, _, _, f => by cases f
theorem flat_fv : ∀ {d : D}, flatD d = true → flatV (fv d) = true
  | .none, _ => rfl
  | .bool _, _ => rfl
  | .int _, _ => rfl
  | .str _, _ => rfl
theorem flats_v : ∀ {ds : List D} {vs : List V}, Dats K H O ds vs → ds.all flatD = true → vs = ds.map fv
  | [], _, h, _ => by simp only [Dats] at h; exact h
  | d :: ds, _, h, f => by
    obtain ⟨v, r, rfl, h1, h2⟩ := h
    rw [List.all_cons, Bool.and_eq_true] at f
    rw [flat_v h1 f.1, flats_v h2 f.2]; rfl
theorem flats_fv {ds : List D} (f : ds.all flatD = true) : (ds.map fv).all flatV = true := by
  rw [List.all_map, List.all_eq_true]
  rw [List.all_eq_true] at f
  exact fun d hd => flat_fv (f d hd)
theorem inV_fv (x : D) (ds : List D) : inV (fv x) (ds.map fv) = ds.any fun z => eqF z x := by
  unfold inV
  rw [List.any_map]; rfl
theorem vw_flat {L : List (V × W)} {x : V} {d : D} (rl : Rels K H L) (hx : Vw L x d) (f : flatD d = true) : x = fv d := by
  cases d with
  | none => exact hx.none rl
  | bool b => exact hx.bool rl
  | int i => exact hx.int rl
  | str z => exact hx.str rl
  | list _ => cases f
  | tuple _ => cases f
  | dict _ => cases f
theorem op_inTM : Op2B K (rIn K false) cInT := fun H L x y dx dy w Q gd rl hx hy hf hQ => by
  unfold cInT at hf
  split at hf
  · rename_i ds
    split at hf
    · rename_i hc
      cases hf
      obtain ⟨a, vs, rfl, hs, hd⟩ := hy.list rl
      have e := flats_v hd hc.2
      subst e
      have ex := vw_flat rl hx hc.1
      subst ex
      refine ⟨a, _, rfl, .inl hs, flat_fv hc.1, flats_fv hc.2, ?_⟩
      rw [if_neg (by decide), inV_fv]
      exact hQ
    · cases hf
  · rename_i ds
    split at hf
    · rename_i hc
      cases hf
      obtain ⟨a, vs, rfl, hs, _, hd⟩ := hy.tuple rl
      have e := flats_v hd hc.2
      subst e
      have ex := vw_flat rl hx hc.1
      subst ex
      refine ⟨a, _, rfl, .inr hs, flat_fv hc.1, flats_fv hc.2, ?_⟩
      rw [if_neg (by decide), inV_fv]
      exact hQ
    · cases hf
  · cases hf
theorem op_notInTM : Op2B K (rIn K true) cNotInT := fun H L x y dx dy w Q gd rl hx hy hf hQ => by
  unfold cNotInT at hf
  split at hf
  · rename_i ds
    split at hf
    · rename_i hc
      cases hf
      obtain ⟨a, vs, rfl, hs, hd⟩ := hy.list rl
      have e := flats_v hd hc.2
      subst e
      have ex := vw_flat rl hx hc.1
      subst ex
      refine ⟨a, _, rfl, .inl hs, flat_fv hc.1, flats_fv hc.2, ?_⟩
      rw [if_pos rfl, inV_fv]
      exact hQ
    · cases hf
  · rename_i ds
    split at hf
    · rename_i hc
      cases hf
      obtain ⟨a, vs, rfl, hs, _, hd⟩ := hy.tuple rl
      have e := flats_v hd hc.2
      subst e
      have ex := vw_flat rl hx hc.1
      subst ex
      refine ⟨a, _, rfl, .inr hs, flat_fv hc.1, flats_fv hc.2, ?_⟩
      rw [if_pos rfl, inV_fv]
      exact hQ
    · cases hf
  · cases hf
end
end Mi
set_option Elab.async false
set_option linter.all false
set_option maxRecDepth 100000
set_option maxHeartbeats 4000000
/-! Mi21: an owned list of owned lists: made by a comprehension, one of them grown, one of them read -/
namespace Mi
open PySem PySem.Spec PyProof.Rows L2
section
variable {K : KK} {H H' : Hp} {O O' : List Addr} {L L' T : List (V × W)}
theorem RWs.app : ∀ {ws : List W} {vs : List V} {w : W} {v : V}, RWs K H O vs ws → RW K H O v w → RWs K H O (vs ++ [v]) (ws ++ [w])
  | [], vs, w, v, h, g => by
    simp only [RWs] at h
    subst h
    simp only [List.nil_append, RWs]
    exact ⟨v, [], rfl, g, rfl⟩
  | w0 :: ws, vs, w, v, h, g => by
    simp only [RWs] at h
    obtain ⟨v0, r, rfl, h1, h2⟩ := h
    simp only [List.cons_append, RWs]
    exact ⟨v0, r ++ [v], rfl, h1, RWs.app h2 g⟩
theorem RW.tree {a : Addr} {ws : List W} (h : RW K H O (.ref a) (.t .lst ws)) : ∃ us, H a = some (.lst us) ∧ us.length = ws.length ∧ RWs K H O us ws := by
  simp only [RW] at h
  obtain ⟨b, u, e, h1, h2, h3⟩ := h
  cases e
  cases h2 with
  | lst vs => exact ⟨vs, h1, h3.length.symm, h3⟩
end
/-! ### a comprehension that keeps what it makes -/
def cmpO (tg : Tg) (tt : MT) (te : ME) (vs : List Nat) : List D → Env → Res (List W)
  | [], e => .ok [] e
  | x :: xs, e => match tg x e with
    | none => .no
    | some e0 => bnd (tt e0) fun b e1 => if b = true then bnd (te e1) fun w e2 => bnd (cmpO tg tt te vs xs (wipeE e2 vs)) fun ds e3 => .ok (w :: ds) e3
      else cmpO tg tt te vs xs (wipeE e1 vs)
def eLcT (src : MI) (tg : Tg) (tt : MT) (te : ME) (vs : List Nat) : ME := fun e => bnd (src e) fun xs e1 => if xs.length < 16777216 then bnd (cmpO tg tt te vs xs (wipeE e1 vs)) fun ds e2 => .ok (.t .lst ds) e2 else .no
section
variable {X : Cx} {P : List Nat}
end
section
variable {X : Cx} {P : List Nat} {e : Expr}
end
/-! ### a list among the lists is grown, is read -/
/-- x[v[c0]].extend(w[c1]) -/
def eXA (x v : Nat) (c0 : Int) (w : Nat) (c1 : Int) : ME := fun e => match e.getD x none, e.getD v none, e.getD w none with
  | some (.t .lst ws), some (.d (.tuple ds)), some (.d (.tuple es)) => (match atI ds c0, atI es c1 with
    | some (.int k), some (.tuple ys) => (match ixN ws.length k with
      | some j => (match ws[j]? with
        | some (.l xs) => if xs.length + ys.length ≤ 16777216 then .ok (.d .none) (e.set x (some (.t .lst (ws.set j (.l (xs ++ ys)))))) else .no
        | _ => .no)
      | none => .no)
    | _, _ => .no)
  | _, _, _ => .no
/-- w.extend(x[s]) -/
def eXE (w x s : Nat) : ME := fun e => match e.getD w none, e.getD x none, e.getD s none with
  | some (.l xs), some (.t .lst ws), some (.d (.int k)) => (match ixN ws.length k with
    | some j => (match ws[j]? with
      | some (.l ys) => if xs.length + ys.length ≤ 16777216 then .ok (.d .none) (e.set w (some (.l (xs ++ ys)))) else .no
      | _ => .no)
    | none => .no)
  | _, _, _ => .no
section
variable {X : Cx} {P : List Nat} {e : Expr} {K : KK}
theorem SR.swap {p0 : L2.St} {T : List (V × W)} {σ : L2.St} {env : Env} {H H' : Hp} (sr : SR K P p0 T σ env H) {i : Nat} {v : V} {w w' : W} (hv : σ[i]? = some (some v)) (hw : env.getD i none = some w) (ho : isO w' = true) {R : List (V × W)}
    (q2 : ∀ w', (pr σ (env.set i (some w')) ++ T).Perm ((v, w') :: R)) (r : Rels K H' ((v, w') :: R)) : SR K P p0 T σ (env.set i (some w')) H' := by
  refine ⟨r.perm (q2 _).symm, by rw [List.length_set]; exact sr.len, sr.len0, fun j x hj => ?_, fun j hj => ⟨(sr.par j hj).1, ?_⟩⟩
  · rw [set_getD] at hj
    split at hj
    · rename_i z
      rw [← z.1]
      exact ⟨_, hv⟩
    · exact sr.cov j x hj
  · rw [set_getD]
    split
    · exact ⟨_, rfl, ho⟩
    · exact (sr.par j hj).2
theorem SR.tup {p0 : L2.St} {T : List (V × W)} {σ : L2.St} {env : Env} {H : Hp} (sr : SR K P p0 T σ env H) {i : Nat} {ds : List D} (h : env.getD i none = some (.d (.tuple ds))) : ∃ a vs, σ[i]? = some (some (.ref a)) ∧ SqT K H a vs ∧ Dats K H (owned H (pr σ env ++ T)) ds vs := by
  obtain ⟨v, hv⟩ := sr.cov i _ h
  have q := sr.val hv h
  simp only [RW, Dat] at q
  obtain ⟨a, vs, rfl, h1, _, h2⟩ := q
  exact ⟨a, vs, hv, h1, h2⟩
end
end Mi
set_option Elab.async false
set_option linter.all false
set_option maxRecDepth 100000
set_option maxHeartbeats 4000000
/-! Mi22: {x: True for x in a tuple of ints}; i in such a dict -/
namespace Mi
open PySem PySem.Spec PyProof.Rows L2
def intsOf : List D → Option (List Int)
  | [] => some []
  | .int i :: xs => (intsOf xs).map (i :: ·)
  | _ => none
def eDcT (m : ME) : ME := fun e => bnd (m e) fun w e1 => match vw w with
  | .tuple ds => (match intsOf ds with
    | some ks => if ks.Nodup ∧ ks.length ≤ 16777215 then .ok (.d (.dict (ks.map fun k => (.int k, .bool true)))) e1 else .no
    | none => .no)
  | .list ds => (match intsOf ds with
    | some ks => if ks.Nodup ∧ ks.length ≤ 16777215 then .ok (.d (.dict (ks.map fun k => (.int k, .bool true)))) e1 else .no
    | none => .no)
  | _ => .no
def keysOf : List (D × D) → Option (List Int)
  | [] => some []
  | (.int i, _) :: r => (keysOf r).map (i :: ·)
  | _ => none
def cInK (x y : D) : Option Bool := match x, y with
  | .int i, .dict kvs => (keysOf kvs).map fun ks => ks.any fun k => k == i
  | _, _ => none
def kvT (ks : List Int) : List (Key × V) := ks.map fun k => (.inl k, .bl true)
section
variable {X : Cx} {P : List Nat}
/-! ### i in d -/
def rInDK (K : KK) : V → V → Hp → VK → Prop := fun y x H Q => ∃ (a : Addr) (u : HO) (i : Int) (ks : List Int) (vs : List V), x = .ref a ∧ y = .int i ∧ Rd H a u ∧ Mp u (ks.map PyData.int) vs ∧ Q (.bl (ks.any fun k => k == i)) H
def cNotInK (x y : D) : Option Bool := match x, y with
  | .int i, .dict kvs => (keysOf kvs).map fun ks => !ks.any fun k => k == i
  | _, _ => none
def rNotInDK (K : KK) : V → V → Hp → VK → Prop := fun y x H Q => ∃ (a : Addr) (u : HO) (i : Int) (ks : List Int) (vs : List V), x = .ref a ∧ y = .int i ∧ Rd H a u ∧ Mp u (ks.map PyData.int) vs ∧ Q (.bl (!ks.any fun k => k == i)) H
end
end Mi
set_option Elab.async false
set_option linter.all false
set_option maxRecDepth 100000
set_option maxHeartbeats 4000000
/-! Mi23: b is True, b is not False, of bools -/
namespace Mi
open PySem PySem.Spec PyProof.Rows L2
def cIsB (x y : D) : Option Bool := match x, y with
  | .bool a, .bool b => some (a == b)
  | _, _ => none
def cIsNotB (x y : D) : Option Bool := match x, y with
  | .bool a, .bool b => some (!(a == b))
  | _, _ => none
@[simp] theorem cIsB_b (a b : Bool) : cIsB (.bool a) (.bool b) = some (a == b) := rfl
@[simp] theorem cIsNotB_b (a b : Bool) : cIsNotB (.bool a) (.bool b) = some (!(a == b)) := rfl
section
variable {X : Cx}
def rIsB : V → V → Hp → VK → Prop := fun x y H Q => ∃ a b : Bool, x = .bl a ∧ y = .bl b ∧ Q (.bl (a == b)) H
def rIsNotB : V → V → Hp → VK → Prop := fun x y H Q => ∃ a b : Bool, x = .bl a ∧ y = .bl b ∧ Q (.bl (!(a == b))) H
end
end Mi
set_option Elab.async false
set_option linter.all false
set_option maxRecDepth 100000
set_option maxHeartbeats 4000000
/-! Mi24: x[v[0]].append((v[2] + f[0], (n,) + f[1])) -/
namespace Mi
open PySem PySem.Spec PyProof.Rows L2
def eXT (x v f n : Nat) : ME := fun e => match e.getD x none, e.getD v none, e.getD f none, e.getD n none with
  | some (.t .lst ws), some (.d (.tuple ds)), some (.d (.tuple fs)), some (.d (.int m)) => (match atI ds 0, atI ds 2, atI fs 0, atI fs 1 with
    | some (.int k), some (.int p), some (.int q), some (.tuple zs) => (match ixN ws.length k with
      | some j => (match ws[j]? with
        | some (.l xs) => if xs.length < 16777216 ∧ 1 + zs.length ≤ 16777216 then .ok (.d .none) (e.set x (some (.t .lst (ws.set j (.l (xs ++ [.tuple [.int (p + q), .tuple (.int m :: zs)]]))))))  else .no
        | _ => .no)
      | none => .no)
    | _, _, _, _ => .no)
  | _, _, _, _ => .no
section
variable {X : Cx} {P : List Nat} {e : Expr} {K : KK}
end
end Mi
set_option Elab.async false
set_option linter.all false
set_option maxRecDepth 100000
set_option maxHeartbeats 4000000
/-! Mi25: dicts with whole numbers as keys, filled in place, read; a raise that is never reached -/
namespace Mi
open PySem PySem.Spec PyProof.Rows L2

/-! ### a dict as a list of pairs -/
def getI : List (Int × D) → Int → Option D
  | [], _ => none
  | p :: r, i => if p.1 = i then some p.2 else getI r i
def putI (kvs : List (Int × D)) (i : Int) (d : D) : List (Int × D) :=
  if (getI kvs i).isSome = true then kvs.map (fun p => if p.1 = i then (p.1, d) else p) else kvs ++ [(i, d)]
def dcW (kvs : List (Int × D)) : W := .t (.dic (kvs.map fun p => .int p.1)) (kvs.map fun p => .d p.2)
def dcD (kvs : List (Int × D)) : D := .dict (kvs.map fun p => (.int p.1, p.2))
def datsW : List W → Option (List D)
  | [] => some []
  | .d x :: r => (datsW r).map (x :: ·)
  | _ :: _ => none
theorem datsW_map : ∀ ds : List D, datsW (ds.map W.d) = some ds
  | [] => rfl
  | d :: ds => by simp [datsW, datsW_map ds]
/-- what a slot's dict holds -/
def kvI : W → Option (List (Int × D))
  | .t (.dic ks) ws => match intsOf ks, datsW ws with
    | some is, some ds => if is.length = ds.length then some (is.zip ds) else none
    | _, _ => none
  | .d (.dict kvs) => (intsOf (kvs.map (·.1))).map fun is => is.zip (kvs.map (·.2))
  | _ => none
theorem zip_pair {α β : Type} : ∀ (l : List (α × β)), (l.map (·.1)).zip (l.map (·.2)) = l
  | [] => rfl
  | p :: l => by rw [List.map_cons, List.map_cons, List.zip_cons_cons, zip_pair l]
theorem vws_d : ∀ ds : List D, vws (ds.map W.d) = ds
  | [] => by simp [vws]
  | d :: ds => by simp [vws, vws_d ds]
section
variable {K : KK} {H : Hp} {O : List Addr}
/-- the dict's own pairs bear the mirror's -/
inductive KVs (K : KK) (H : Hp) (O : List Addr) : List (Int × D) → List (Key × V) → Prop
  | nil : KVs K H O [] []
  | cons {i : Int} {d : D} {v : V} {l : List (Int × D)} {r : List (Key × V)} : Dat K H O d v → KVs K H O l r → KVs K H O ((i, d) :: l) ((.inl i, v) :: r)
theorem KVs.length {l : List (Int × D)} {r : List (Key × V)} (h : KVs K H O l r) : l.length = r.length := by
  induction h with
  | nil => rfl
  | cons _ _ ih => simp [ih]
theorem KVs.get {l : List (Int × D)} {r : List (Key × V)} (h : KVs K H O l r) (i : Int) : match getI l i with
    | some d => ∃ v, valV r (.inl i) = some v ∧ Dat K H O d v
    | none => valV r (.inl i) = none := by
  induction h with
  | nil => exact rfl
  | @cons j d v l r hd _ ih =>
    unfold getI
    by_cases e : j = i
    · subst e
      rw [if_pos rfl]
      exact ⟨v, valV_pos rfl, hd⟩
    · have ne : ¬ ((Sum.inl j, v) : Key × V).1 = .inl i := fun z => e (Sum.inl.inj z)
      rw [if_neg e, valV_neg ne]
      exact ih
theorem KVs.has {l : List (Int × D)} {r : List (Key × V)} (h : KVs K H O l r) (i : Int) : (valV r (.inl i)).isSome = (getI l i).isSome := by
  have := h.get i
  cases hg : getI l i with
  | none => rw [hg] at this; rw [this]; rfl
  | some d =>
    rw [hg] at this
    obtain ⟨v, h1, _⟩ := this
    rw [h1]; rfl
theorem KVs.app {l l' : List (Int × D)} {r r' : List (Key × V)} (h : KVs K H O l r) (g : KVs K H O l' r') : KVs K H O (l ++ l') (r ++ r') := by
  induction h with
  | nil => exact g
  | cons hd _ ih => exact .cons hd ih
theorem KVs.sub {l : List (Int × D)} {r : List (Key × V)} (h : KVs K H O l r) (i : Int) {d : D} {v : V} (hd : Dat K H O d v) :
    KVs K H O (l.map fun p => if p.1 = i then (p.1, d) else p) (r.map fun p => if p.1 = .inl i then (p.1, v) else p) := by
  induction h with
  | nil => exact .nil
  | @cons j d' v' l r hd' _ ih =>
    rw [List.map_cons, List.map_cons]
    by_cases e : j = i
    · subst e
      rw [if_pos rfl, if_pos rfl]
      exact .cons hd ih
    · rw [if_neg e, if_neg (fun z => e (Sum.inl.inj z))]
      exact .cons hd' ih
theorem KVs.put {l : List (Int × D)} {r : List (Key × V)} (h : KVs K H O l r) (i : Int) {d : D} {v : V} (hd : Dat K H O d v) : KVs K H O (putI l i d) (putK r (.inl i) v) := by
  unfold putI putK
  rw [valV_any, h.has i]
  cases (getI l i).isSome with
  | true => rw [if_pos rfl, if_pos rfl]; exact h.sub i hd
  | false => rw [if_neg (by decide), if_neg (by decide)]; exact h.app (.cons hd .nil)
theorem KVs.mono {O' : List Addr} {H' : Hp} (e : ∀ a o, a ∉ O → H a = some o → H' a = some o) (s : ∀ a, a ∈ O' → a ∈ O) {l : List (Int × D)} {r : List (Key × V)} (h : KVs K H O l r) : KVs K H' O' l r := by
  induction h with
  | nil => exact .nil
  | cons hd _ ih => exact .cons (Dat.to e s _ _ hd) ih
theorem KVs.keys {l : List (Int × D)} {r : List (Key × V)} (h : KVs K H O l r) : (r.map fun p => kD p.1) = l.map fun p => PyData.int p.1 := by
  induction h with
  | nil => rfl
  | cons _ _ ih => rw [List.map_cons, List.map_cons, ih]; rfl
theorem KVs.vals {l : List (Int × D)} {r : List (Key × V)} (h : KVs K H O l r) : RWs K H O (r.map (·.2)) (l.map fun p => W.d p.2) := by
  induction h with
  | nil => simp [RWs]
  | cons hd _ ih =>
    simp only [List.map_cons, RWs]
    exact ⟨_, _, rfl, by simpa only [RW] using hd, ih⟩
end

/-! ### combinators -/
/-- {} -/
def eDNew : ME := fun e => .ok (dcW []) e
/-- slot x's dict at what m says -/
def gGet (i : D) : Option (List (Int × D)) → Env → Res W
  | some kvs, e => match i with
    | .int k => ofO ((getI kvs k).map W.d) e
    | _ => .no
  | none, _ => .no
def eGetD (x : Nat) (m : ME) : ME := fun e => match e.getD x none with
  | some _ => bnd (m e) fun w e1 => gGet (vw w) ((e1.getD x none).bind kvI) e1
  | none => .no
def gIn (b : Bool) (i : D) : Option (List (Int × D)) → Env → Res Bool
  | some kvs, e => match i with
    | .int k => .ok ((getI kvs k).isSome == b) e
    | _ => .no
  | none, _ => .no
/-- m in slot x's dict (b), not in (!b) -/
def tInD (b : Bool) (x : Nat) (m : ME) : MT := fun e => bnd (m e) fun w e1 => gIn b (vw w) ((e1.getD x none).bind kvI) e1
def gPutD (i : Nat) (d k : D) (e : Env) : Option W → Res Out
  | some (.t g ws) => match kvI (.t g ws), k with
    | some kvs, .int n => if kvs.length < 16777216 then .ok .nx (e.set i (some (dcW (putI kvs n d)))) else .no
    | _, _ => .no
  | _ => .no
def isDc : Option W → Bool
  | some (.t (.dic _) _) => true
  | _ => false
/-- slot i's dict: [mi] = mv -/
def sPutD (i : Nat) (mi mv : ME) : MS := fun e => bnd (mv e) fun w e1 => if isDc (e1.getD i none) = true then bnd (mi e1) fun wi e2 => gPutD i (vw w) (vw wi) e2 (e2.getD i none) else .no
/-- a statement that is never reached -/
def sNo : MS := fun _ => .no
section
variable {X : Cx} {P : List Nat} {e : Expr}
end
/-! ### evaluation -/
def kGetD (x : Nat) : Res W → Res W
  | .ok w e1 => gGet (vw w) ((e1.getD x none).bind kvI) e1
  | .ex y e => .ex y e
  | .no => .no
def kGetD0 (x : Nat) (r : Res W) : Option W → Res W
  | some _ => kGetD x r
  | none => .no
def kInD (b : Bool) (x : Nat) : Res W → Res Bool
  | .ok w e1 => gIn b (vw w) ((e1.getD x none).bind kvI) e1
  | .ex y e => .ex y e
  | .no => .no
def kPutD2 (i : Nat) (w : W) : Res W → Res Out
  | .ok wi e2 => gPutD i (vw w) (vw wi) e2 (e2.getD i none)
  | .ex y e => .ex y e
  | .no => .no
def kPutD0 (i : Nat) (mi : ME) (w : W) (e1 : Env) (o : Option W) : Res Out := if isDc o = true then kPutD2 i w (mi e1) else .no
def kPutD1 (i : Nat) (mi : ME) : Res W → Res Out
  | .ok w e1 => kPutD0 i mi w e1 (e1.getD i none)
  | .ex y e => .ex y e
  | .no => .no
end Mi
set_option Elab.async false
set_option linter.all false
set_option maxRecDepth 100000
set_option maxHeartbeats 4000000
/-! Mi26: a raise that is never reached -/
namespace Mi
open PySem PySem.Spec PyProof.Rows L2
end Mi
set_option Elab.async false
set_option linter.all false
set_option maxRecDepth 100000
set_option maxHeartbeats 4000000
/-! Mi27: sorted(a list of alike data) -/
namespace Mi
open PySem PySem.Spec PyProof.Rows L2
def sLe (a b : D) : Bool := !PySem.W.dataLt b a
def tupNE : D → Bool
  | .tuple (_ :: _) => true
  | _ => false
def atomD : D → Bool
  | .none => false
  | .tuple _ => false
  | _ => true
def okS (ds : List D) : Bool := (ds.all fun d => ds.all fun e => PySem.W.alike d e) && ((ds.all tupNE || ds.all atomD) && ((ds.all fun d => decide (d.depth ≤ 60)) && (noDs ds && decide (ds.length ≤ 16777216))))
def bSorted : List D → Option W
  | [.list xs] => if okS xs = true then some (.l (xs.mergeSort sLe)) else none
  | _ => none
structure OkS (ds : List D) : Prop where
  al : PySem.W.AllAlike ds
  so : PySem.W.Sortable ds
  dp : ∀ d ∈ ds, d.depth ≤ 60
  nd : noDs ds = true
  ln : ds.length ≤ 16777216
section
variable {K : KK} {H : Hp} {O : List Addr}
theorem Dats.pair : ∀ {ds : List D} {vs : List V}, Dats K H O ds vs → ∀ p ∈ vs.zip ds, Dat K H O p.2 p.1
  | [], vs, h, p, hp => by simp at hp
  | d :: ds, vs, h, p, hp => by
    simp only [Dats] at h
    obtain ⟨v, r, rfl, h1, h2⟩ := h
    rw [List.zip_cons_cons] at hp
    rcases List.mem_cons.mp hp with rfl | hp
    · exact h1
    · exact Dats.pair h2 p hp
end
section
variable {X : Cx}
def rSortD (K : KK) : List V → Hp → VK → Prop := fun vs H Q => ∃ (a : Addr) (xs : List V) (ds : List D), vs = [.ref a] ∧ SqL K H a xs ∧ Dp K H (.ref a) (.list ds) ∧ okS ds = true ∧
  ∀ (zs : List (V × D)) p, zs.Perm (xs.zip ds) → zs.map (·.2) = ds.mergeSort sLe → H p = none → Q (.ref p) (upd H p (.lst (zs.map (·.1))))
end
end Mi
set_option Elab.async false
set_option linter.all false
set_option maxRecDepth 100000
set_option maxHeartbeats 4000000
/-! Mi28: a constant of the module: a tuple of texts -/
namespace Mi
open PySem PySem.Spec PyProof.Rows L2
/-- the module's name x stands for a tuple of these texts -/
def TupC (K : KK) (mg : Str → Option Value) (x : Str) (xs : List Str) : Prop := ∃ a, mg x = some (.ref a) ∧ (∃ o, K.lookup a = some o) ∧ ∀ H, SqT K H a (xs.map V.str)
section
variable {X : Cx} {P : List Nat}
end
end Mi
set_option Elab.async false
set_option linter.all false
set_option maxRecDepth 100000
set_option maxHeartbeats 4000000
/-! Mi29: a comprehension over an owned list that stays owned -/
namespace Mi
open PySem PySem.Spec PyProof.Rows L2
section
variable {X : Cx} {P : List Nat}
theorem itOk_own {K : KK} {a : Addr} {xs : List D} : ItOk K (Itl K a) xs [(.ref a, .l xs)] where
  go := fun i H L hi h s => by
    obtain ⟨b, vs, e, h1, h2⟩ := (show ∃ b vs, V.ref a = .ref b ∧ H b = some (.lst vs) ∧ Dats K H (owned H L) xs vs from by simpa only [RW] using h.at_ _ (s _ List.mem_cons_self))
    cases e
    obtain ⟨x, hx⟩ := h2.lt hi
    exact ⟨vs, x, SqL.of h1, hx⟩
  stop := fun H L h s => by
    obtain ⟨b, vs, e, h1, h2⟩ := (show ∃ b vs, V.ref a = .ref b ∧ H b = some (.lst vs) ∧ Dats K H (owned H L) xs vs from by simpa only [RW] using h.at_ _ (s _ List.mem_cons_self))
    cases e
    exact ⟨vs, SqL.of h1, by rw [h2.length]; exact Nat.le_refl _⟩
  yld := fun i H L x H' d h s e y g => by
    obtain ⟨b, vs, e2, h1, h2⟩ := (show ∃ b vs, V.ref a = .ref b ∧ H b = some (.lst vs) ∧ Dats K H (owned H L) xs vs from by simpa only [RW] using h.at_ _ (s _ List.mem_cons_self))
    cases e2
    obtain ⟨rfl, hy⟩ := y
    exact ⟨g, h.data (h2.at e (hy vs (SqL.of h1)))⟩
/-- the turns of a comprehension; what the iteration leans on is kept -/
theorem lcS {g : TG} {t : Tg} {mt : MT} {me : ME} {vs : List Nat} (hvP : ∀ v ∈ vs, v ∉ P) (hvN : ∀ v ∈ vs, v < X.N.length) (hgs : TgS X.K P X.N.length vs g t)
    {p0 : L2.St} {T S : List (V × W)} {σ : L2.St} {H1 : Hp} {J : It} {xs : List D} {e1 env' : Env} {ds : List D} {Q : VK} (io : ItOk X.K J xs S) (sr1 : SR X.K P p0 (S ++ T) σ e1 H1) (g1 : Good X.K H1) (hl : p0.length = X.N.length)
    (hsz : xs.length < 16777216) (h2 : cmpL t mt me vs xs (wipeE e1 vs) = .ok ds env') (hQ : ∀ v H', (Good X.K H' → SR X.K P p0 ((v, .l ds) :: (S ++ T)) σ env' H') → Q v H') :
    tLc (fun _ H R => R J H) (fun v σ H Q => Good X.K H → g v σ H Q) (tM X.K P mt) (tE X.K P me) vs σ H1 Q := by
  intro Da hDa
  have hσ : σ.length = X.N.length := by rw [← hl, sr1.len0]
  have sr1w := sr1.wip vs (fun v hv => by rw [hσ]; exact hvN v hv) hvP
  refine ⟨fun i m H => m = xs.length - i ∧ i ≤ xs.length ∧ ∃ ei acc rest, acc ++ rest = ds ∧ acc.length ≤ i ∧ (∀ v ∈ vs, ei.getD v none = none) ∧ Rels X.K H (pr (wipe σ vs) ei ++ (S ++ T)) ∧
      (Good X.K H → SR X.K P p0 ((.ref Da, .l acc) :: (S ++ T)) (wipe σ vs) ei H) ∧ cmpL t mt me vs (xs.drop i) ei = .ok rest env', ⟨xs.length, by simp, Nat.zero_le _, wipeE e1 vs, [], ds, rfl, Nat.le_refl _, fun v hv => wipeE_none hv, ?_, fun g2 => ?_, by simpa using h2⟩, ?_⟩
  · exact sr1w.rels.laid hDa
  · have hk : X.K.lookup Da = none := by
      cases q : X.K.lookup Da with
      | none => rfl
      | some o => have := g2 Da o q; rw [upd_same] at this; cases this
    exact sr1w.push (sr1w.rels.newOwn hDa hk rfl)
  rintro i m H2 ⟨rfl, hi2, ei, acc, rest, hds, hacc, hei, rl, srg, hf⟩
  have hS : ∀ p ∈ S, p ∈ pr (wipe σ vs) ei ++ (S ++ T) := fun p z => List.mem_append_right _ (List.mem_append_left _ z)
  by_cases hlt : i < xs.length
  · have hx : xs[i]? = some xs[i] := by simp [hlt]
    rw [List.drop_eq_getElem_cons hlt] at hf
    refine .inr ⟨io.go i H2 _ hlt rl hS, fun H' => ∃ ei acc rest, acc ++ rest = ds ∧ acc.length ≤ i + 1 ∧ (∀ v ∈ vs, ei.getD v none = none) ∧ Rels X.K H' (pr (wipe σ vs) ei ++ (S ++ T)) ∧
      (Good X.K H' → SR X.K P p0 ((.ref Da, .l acc) :: (S ++ T)) (wipe σ vs) ei H') ∧ cmpL t mt me vs (xs.drop (i + 1)) ei = .ok rest env', fun H' q => ⟨xs.length - (i + 1), by omega, rfl, hlt, q⟩, fun x H' y g3 => ?_⟩
    obtain ⟨gH2, _⟩ := io.yld i H2 _ x H' _ rl hS hx y g3
    have sr2 := srg gH2
    have hS2 : ∀ p ∈ S, p ∈ pr (wipe σ vs) ei ++ ((.ref Da, .l acc) :: (S ++ T)) := fun p z => List.mem_append_right _ (List.mem_cons_of_mem _ (List.mem_append_left _ z))
    obtain ⟨_, q⟩ := io.yld i H2 _ x H' _ sr2.rels hS2 hx y g3
    have sr3 : SR X.K P p0 ((x, .d xs[i]) :: ((.ref Da, .l acc) :: (S ++ T))) (wipe σ vs) ei H' := sr2.push q
    change (match t xs[i] ei with
      | none => Res.no
      | some e0 => bnd (mt e0) fun b e1 => if b = true then bnd (me e1) fun w e2 => bnd (cmpL t mt me vs (xs.drop (i + 1)) (wipeE e2 vs)) fun ds e3 => .ok (vw w :: ds) e3
        else cmpL t mt me vs (xs.drop (i + 1)) (wipeE e1 vs)) = _ at hf
    cases ht : t xs[i] ei with
    | none => rw [ht] at hf; cases hf
    | some e0 =>
    rw [ht] at hf
    obtain ⟨b, e3, hb, hf⟩ := bnd_eq_ok hf
    have wlen : (wipe σ vs).length = X.N.length := by rw [wipe_length, hσ]
    refine hgs p0 _ (wipe σ vs) ei H' x xs[i] e0 _ hl sr3 ht fun σ2 wp sr4 => ?_
    have ww : wipe σ2 vs = wipe σ vs := wp.trans (wipe_wipe vs vs fun _ z => z)
    have l2 : σ2.length = X.N.length := by rw [← sr4.len0, hl]
    refine ⟨ww, p0, _, e0, b, e3, sr4, g3, hb, fun H3 sr5 g5 => ?_⟩
    cases b with
    | true =>
      rw [if_pos rfl] at hf ⊢
      obtain ⟨w4, e4, h4, hf⟩ := bnd_eq_ok hf
      obtain ⟨ds', e5, h5, hf⟩ := bnd_eq_ok hf
      cases hf
      refine ⟨p0, _, e3, w4, e4, sr5, g5, h4, fun y H4 sr6 g6 => ?_⟩
      have sr6 := sr6.fz
      have hacc' : ∃ us, H4 Da = some (.lst us) ∧ Dats X.K H4 (owned H4 (pr σ2 e4 ++ ((y, W.d (vw w4)) :: (V.ref Da, W.l acc) :: (S ++ T)))) acc us := by
        have q := sr6.rels.at_ (V.ref Da, W.l acc) (List.mem_append_right _ (List.mem_cons_of_mem _ List.mem_cons_self))
        simp only [RW] at q
        obtain ⟨a, us, e, q1, q2⟩ := q
        cases e
        exact ⟨us, q1, q2⟩
      obtain ⟨us, hus, hdus⟩ := hacc'
      refine ⟨us, hus, by rw [← hdus.length, sizeLine_eq]; omega, ?_⟩
      have hy : Dat X.K H4 (owned H4 (pr σ2 e4 ++ ((y, W.d (vw w4)) :: (V.ref Da, W.l acc) :: (S ++ T)))) (vw w4) y := by simpa only [RW] using sr6.rels.at_ (y, W.d (vw w4)) (List.mem_append_right _ List.mem_cons_self)
      have pq : (pr σ2 e4 ++ ((y, W.d (vw w4)) :: (V.ref Da, W.l acc) :: (S ++ T))).Perm ((V.ref Da, W.l acc) :: (pr σ2 e4 ++ ((y, W.d (vw w4)) :: (S ++ T)))) := by
        refine List.Perm.trans (List.Perm.append_left _ (List.Perm.swap _ _ _)) List.perm_middle
      have wr := (sr6.rels.perm pq).write (ys := acc ++ [vw w4]) (us := us ++ [y]) ((hdus.append (Dats.one hy)).to (fun _ _ _ z => z) fun b z => (ownedM _ pq).mpr z)
      have sr7 : SR X.K P p0 ((V.ref Da, W.l (acc ++ [vw w4])) :: (S ++ T)) σ2 e4 (upd H4 Da (.lst (us ++ [y]))) := by
        refine sr6.re (wr.sub ?_ |>.perm List.perm_middle.symm)
        refine List.Sublist.cons_cons _ (List.Sublist.append_left (List.sublist_cons_self _ _) _)
      have sr8 := sr7.wip vs (fun v hv => by rw [l2]; exact hvN v hv) hvP
      rw [ww] at sr8
      refine ⟨wipeE e4 vs, acc ++ [vw w4], ds', by rw [← hds]; simp, by simp; omega, fun v hv => wipeE_none hv, ?_, fun _ => sr8, h5⟩
      exact sr8.drop.rels
    | false =>
      rw [if_neg (by simp)] at hf ⊢
      have sr8 := sr5.wip vs (fun v hv => by rw [l2]; exact hvN v hv) hvP
      rw [ww] at sr8
      exact ⟨wipeE e3 vs, acc, rest, hds, by omega, fun v hv => wipeE_none hv, sr8.drop.rels, fun _ => sr8, hf⟩
  · have e : i = xs.length := by omega
    subst e
    rw [List.drop_length] at hf
    cases hf
    refine .inl ⟨io.stop H2 _ rl hS, hQ (.ref Da) H2 fun g2 => ?_⟩
    have := (srg g2).unwipe vs hvP hei
    rw [List.append_nil] at hds
    rw [← hds]
    exact this
def eLcV (i : Nat) (tg : Tg) (tt : MT) (te : ME) (vs : List Nat) : ME := fun e => match e.getD i none with
  | some (.l xs) => if xs.length < 16777216 then bnd (cmpL tg tt te vs xs (wipeE (e.set i none) vs)) fun ds e2 => match e2.getD i none with
    | none => .ok (.l ds) (e2.set i (some (.l xs)))
    | some _ => .no
    else .no
  | _ => .no
theorem lcV {i : Nat} {g : TG} {t : Tg} {mt : MT} {me : ME} {vs : List Nat} (hiP : i ∉ P) (hvP : ∀ v ∈ vs, v ∉ P) (hvN : ∀ v ∈ vs, v < X.N.length) (hgs : TgS X.K P X.N.length vs g t)
    {p0 : L2.St} {T : List (V × W)} {σ : L2.St} {env : Env} {H : Hp} {w : W} {env' : Env} {Q : VK} (sr : SR X.K P p0 T σ env H) (gd : Good X.K H) (hl : p0.length = X.N.length) (hm : eLcV i t mt me vs env = .ok w env')
    (hQ : ∀ v H', (Good X.K H' → SR X.K P p0 ((v, w) :: T) σ env' H') → Q v H') :
    tLc (iList X.K (tVar i)) (fun v σ H Q => Good X.K H → g v σ H Q) (tM X.K P mt) (tE X.K P me) vs σ H Q := by
  unfold eLcV at hm
  split at hm
  rotate_left
  · cases hm
  rename_i xs hx
  split at hm
  rotate_left
  · cases hm
  rename_i hsz
  obtain ⟨ds, e2, h2, hm⟩ := bnd_eq_ok hm
  split at hm
  rotate_left
  · cases hm
  rename_i he2
  cases hm
  obtain ⟨v, hv⟩ := sr.cov i _ hx
  obtain ⟨a, us, rfl, ha, hd⟩ := (show ∃ a us, v = .ref a ∧ H a = some (.lst us) ∧ Dats X.K H (owned H (pr σ env ++ T)) xs us from by simpa only [RW] using sr.val hv hx)
  have pc := (pr_clear hv hx sr.len).1
  have srS : SR X.K P p0 ([(.ref a, .l xs)] ++ T) σ (env.set i none) H := by
    refine ⟨sr.rels.perm ?_, by rw [List.length_set]; exact sr.len, sr.len0, fun j x hj => ?_, fun j hj => ⟨(sr.par j hj).1, ?_⟩⟩
    · refine (pc.append_right T).trans ?_
      rw [List.cons_append]
      exact List.perm_middle.symm
    · rw [set_getD] at hj
      split at hj
      · cases hj
      · exact sr.cov j x hj
    · rw [set_getD, if_neg (fun z : i = j ∧ i < _ => hiP (z.1 ▸ hj))]
      exact (sr.par j hj).2
  have main := lcS hvP hvN hgs (J := Itl X.K a) (S := [(.ref a, .l xs)]) (Q := Q) itOk_own srS gd hl hsz h2 fun u H' q => hQ u H' fun g2 => by
    have s2 := q g2
    have l2 : σ.length = e2.length := s2.len
    refine ⟨s2.rels.perm ?_, by rw [List.length_set]; exact l2, s2.len0, fun j x hj => ?_, fun j hj => ⟨(s2.par j hj).1, ?_⟩⟩
    · have pf := pr_fill (w := .l xs) hv he2 l2
      refine List.Perm.trans ?_ (pf.append_right _).symm
      rw [List.cons_append]
      refine List.Perm.trans (List.Perm.append_left _ (List.Perm.swap (V.ref a, W.l xs) (u, W.l ds) T)) ?_
      exact List.perm_middle
    · rw [set_getD] at hj
      split at hj
      · rename_i z
        rw [← z.1]
        exact ⟨_, hv⟩
      · exact s2.cov j x hj
    · rw [set_getD, if_neg (fun z : i = j ∧ i < _ => hiP (z.1 ▸ hj))]
      exact (s2.par j hj).2
  exact ⟨.ref a, hv, a, rfl, ⟨us, SqL.of ha⟩, main⟩
theorem pe_lcV {i : Nat} {x : Str} {px : Pos} {elt tg : Expr} {ifs : List Expr} {scope : Scope} {own : List (Str × Nat)} {pos : Pos} {g : TG} {t : Tg} {mt : MT} {me : ME} {vs : List Nat} (hiP : P.contains i = false) (hvs : own.map (·.2) = vs) (hvP : (vs.all fun v => !P.contains v) = true) (hvN : (vs.all fun v => decide (v < X.N.length)) = true)
    (hgs : TgS X.K P X.N.length vs g t) (hc : X.calm = true) (hN : X.N.Nodup) (hi : PE X (.Name x px) (tVar i)) (ok : BlkOk X.N X.env.scope scope own)
    (hg : ∀ (s : Shared) (H : Hp) (C : Addr) (cl : List (Str × Addr)) (fp : List Addr), PG (X.blk s H scope (compEnvC scope cl C X.env) fp) tg g)
    (ht : ∀ (s : Shared) (H : Hp) (C : Addr) (cl : List (Str × Addr)) (fp : List Addr), PTs (X.blk s H scope (compEnvC scope cl C X.env) fp) ifs (tM X.K P mt))
    (he : ∀ (s : Shared) (H : Hp) (C : Addr) (cl : List (Str × Addr)) (fp : List Addr), PE (X.blk s H scope (compEnvC scope cl C X.env) fp) elt (tE X.K P me)) (hs : ∀ z, foldedSetIterable (.Name x px) X.env z = pure z := by intro _; rfl) :
    PE X (.ListComp elt [⟨tg, .Name x px, ifs, 0⟩] scope pos) (tE X.K P (eLcV i t mt me vs)) := by
  subst hvs
  have hiP' : i ∉ P := fun z => by rw [List.contains_iff_mem.mpr z] at hiP; cases hiP
  exact mkE' (pe_lc hc hN (pi_list hi) ok (fun s H C cl fp => pg_good (hg s H C cl fp)) ht he hs) fun p0 T σ env H w env' Q hl sr gd hm hQ => lcV hiP' (vsP hvP) (vsN hvN) hgs sr gd hl hm hQ
end
/-! ### evaluation -/
theorem ev_lcv {i : Nat} {tg : Tg} {tt : MT} {te : ME} {vs : List Nat} {e e2 : Env} {xs ds : List D} (h : e.getD i none = some (.l xs)) (hl : xs.length < 16777216) (hc : cmpL tg tt te vs xs (wipeE (e.set i none) vs) = .ok ds e2) (h2 : e2.getD i none = none) : eLcV i tg tt te vs e = .ok (.l ds) (e2.set i (some (.l xs))) := by
  unfold eLcV
  rw [h]
  show (if xs.length < 16777216 then _ else _) = _
  rw [if_pos hl, hc]
  show (match e2.getD i none with | none => _ | some _ => _) = _
  rw [h2]
end Mi
set_option Elab.async false
set_option linter.all false
set_option maxRecDepth 100000
set_option maxHeartbeats 4000000
/-! Mi30: [(w[s], s) for s in d], d a dict with whole numbers as keys -/
namespace Mi
open PySem PySem.Spec PyProof.Rows L2
section
variable {K : KK} {H : Hp} {O : List Addr} {L : List (V × W)} {a : Addr} {r : List (Key × V)} {o : Obj}
theorem sqL_lock (ha : H a = some (.dK r)) (g : Good K H) {b : Addr} {vs : List V} (h : SqL K H b vs) : SqL K (upd H a (.frz o (.dK r))) b vs := by
  rcases h with h | h
  · have ne : b ≠ a := by
      rintro rfl
      rcases h with h | ⟨_, h⟩ <;> (rw [ha] at h; cases h)
    refine .inl ?_
    rcases h with h | ⟨o', h⟩
    · exact .inl (by rw [upd_ne ne]; exact h)
    · exact .inr ⟨o', by rw [upd_ne ne]; exact h⟩
  · exact .inr h
theorem sqT_lock (ha : H a = some (.dK r)) (g : Good K H) {b : Addr} {vs : List V} (h : SqT K H b vs) : SqT K (upd H a (.frz o (.dK r))) b vs := by
  rcases h with h | h
  · have ne : b ≠ a := by
      rintro rfl
      rcases h with h | ⟨_, h⟩ <;> (rw [ha] at h; cases h)
    refine .inl ?_
    rcases h with h | ⟨o', h⟩
    · exact .inl (by rw [upd_ne ne]; exact h)
    · exact .inr ⟨o', by rw [upd_ne ne]; exact h⟩
  · exact .inr h
theorem mpAt_lock (ha : H a = some (.dK r)) {b : Addr} {ks : List D} {vs : List V} (h : MpAt H b ks vs) : MpAt (upd H a (.frz o (.dK r))) b ks vs := by
  by_cases e : b = a
  · subst e
    rcases h with ⟨u, h1, h2⟩ | ⟨c, dx, fs, h1, _⟩ | ⟨fs, h1, _⟩ | ⟨lo, hi, h1, _⟩
    · have eu : u = .dK r := by
        rcases h1 with h1 | ⟨_, h1⟩ <;> rw [ha] at h1 <;> cases h1
        rfl
      subst eu
      exact .inl ⟨_, .inr ⟨o, upd_same⟩, h2⟩
    · rw [ha] at h1; cases h1
    · rw [ha] at h1; cases h1
    · rw [ha] at h1; cases h1
  · rcases h with ⟨u, h1, h2⟩ | ⟨c, dx, fs, h1, h2⟩ | ⟨fs, h1, h2⟩ | ⟨lo, hi, h1, h2⟩
    · refine .inl ⟨u, ?_, h2⟩
      rcases h1 with h1 | ⟨o', h1⟩
      · exact .inl (by rw [upd_ne e]; exact h1)
      · exact .inr ⟨o', by rw [upd_ne e]; exact h1⟩
    · exact .inr (.inl ⟨c, dx, fs, by rw [upd_ne e]; exact h1, h2⟩)
    · exact .inr (.inr (.inl ⟨fs, by rw [upd_ne e]; exact h1, h2⟩))
    · exact .inr (.inr (.inr ⟨lo, hi, by rw [upd_ne e]; exact h1, h2⟩))
theorem Dat.lock (ha : H a = some (.dK r)) (g : Good K H) {d : D} {v : V} (h : Dat K H O d v) : Dat K (upd H a (.frz o (.dK r))) O d v :=
  Dat.mono (fun b vs n q => ⟨sqL_lock ha g q, n⟩) (fun b vs n q => ⟨sqT_lock ha g q, n⟩) (fun b ks vs n q => ⟨mpAt_lock ha q, n⟩) d v h
theorem Dats.lock (ha : H a = some (.dK r)) (g : Good K H) {d : List D} {v : List V} (h : Dats K H O d v) : Dats K (upd H a (.frz o (.dK r))) O d v :=
  Dats.mono (fun b vs n q => ⟨sqL_lock ha g q, n⟩) (fun b vs n q => ⟨sqT_lock ha g q, n⟩) (fun b ks vs n q => ⟨mpAt_lock ha q, n⟩) d v h
mutual
theorem RW.lock (ha : H a = some (.dK r)) (g : Good K H) : ∀ (w : W) (v : V), a ∉ ow H w v → RW K H O v w → RW K (upd H a (.frz o (.dK r))) O v w
  | .d x, v, _, h => by
    simp only [RW] at h ⊢
    exact Dat.lock ha g h
  | .l xs, v, n, h => by
    simp only [RW] at h ⊢
    obtain ⟨b, vs, rfl, h1, h2⟩ := h
    have ne : b ≠ a := by rintro rfl; exact n (by simp [ow, adr])
    exact ⟨b, vs, rfl, by rw [upd_ne ne]; exact h1, Dats.lock ha g h2⟩
  | .t t ws, v, n, h => by
    simp only [RW] at h ⊢
    obtain ⟨b, u, rfl, h1, h2, h3⟩ := h
    have ne : b ≠ a := by rintro rfl; exact n (by simp [ow, adr])
    refine ⟨b, u, rfl, by rw [upd_ne ne]; exact h1, h2, RWs.lock ha g ws _ (fun z => n ?_) h3⟩
    simp only [ow, hat, h1, List.mem_append]
    exact .inr z
theorem RWs.lock (ha : H a = some (.dK r)) (g : Good K H) : ∀ (ws : List W) (vs : List V), a ∉ ows H ws vs → RWs K H O vs ws → RWs K (upd H a (.frz o (.dK r))) O vs ws
  | [], _, _, h => by simpa [RWs] using h
  | w :: ws, vs, n, h => by
    simp only [RWs] at h ⊢
    obtain ⟨v, q, rfl, h1, h2⟩ := h
    simp only [ows, List.mem_append, not_or] at n
    exact ⟨v, q, rfl, RW.lock ha g w v n.1 h1, RWs.lock ha g ws q n.2 h2⟩
end
theorem Rels.lock (h : Rels K H L) (ha : H a = some (.dK r)) (g : Good K H) (n : a ∉ owned H L) : Rels K (upd H a (.frz o (.dK r))) L := by
  have eo : owned (upd H a (.frz o (.dK r))) L = owned H L := owned_congr fun b hb => upd_ne (by rintro rfl; exact n hb)
  refine ⟨by rw [eo]; exact h.nd, fun p hp => ?_⟩
  rw [eo]
  exact RW.lock ha g p.2 p.1 (fun z => n (mem_owned.mpr ⟨p, hp, z⟩)) (h.at_ p hp)
end
/-! ### the comprehension -/
def dkL (ws : List D) : List (Int × D) → Option (List D)
  | [] => some []
  | p :: r => match atI ws p.1, dkL ws r with
    | some x, some l => some (.tuple [x, .int p.1] :: l)
    | _, _ => none
def eDk (dd w s : Nat) : ME := fun e => match e.getD dd none, e.getD w none, e.getD s none with
  | some (.d (.dict kvs)), some (.d (.tuple ws)), none => (match kvI (.d (.dict kvs)) with
    | some ps => (match dkL ws ps with
      | some ds => if ds.length < 16777216 then .ok (.l ds) e else .no
      | none => .no)
    | none => .no)
  | _, _, _ => .no
section
variable {X : Cx} {P : List Nat}
/-- the reading of the item -/
def tPr (K : KK) (w s : Nat) : TE := tTup (tCons (tOp (rIx K) (tVar w) (tVar s)) (tCons (tVar s) tNil))
end
/-! ### a op1 b op2 c -/
def tC2 (f g : D → D → Option Bool) (a b c : Opd) : MT := fun e => bnd (a.run e) fun r1 e1 => bnd (b.run e1) fun r2 e2 => match gv e2 r1, gv e2 r2 with
  | some x, some y => (match f x y with
    | some true => bnd (c.run e2) fun r3 e3 => match gv e3 r2, gv e3 r3 with
      | some y, some z => ofO (g y z) e3
      | _, _ => .no
    | some false => .ok false e2
    | none => .no)
  | _, _ => .no
end Mi
set_option Elab.async false
set_option linter.all false
set_option maxRecDepth 100000
set_option maxHeartbeats 4000000
/-! Mi31: a dict comprehension with whole numbers as keys -/
namespace Mi
open PySem PySem.Spec PyProof.Rows L2
def kD1 (tk : Int → D → Res (List (Int × D))) (wk wv : W) : Res (List (Int × D)) := match vw wk with
  | .int k => tk k (vw wv)
  | _ => .no
def cmpD (tg : Tg) (tt : MT) (tk tv : ME) (vs : List Nat) : List D → List (Int × D) → Env → Res (List (Int × D))
  | [], acc, e => .ok acc e
  | x :: xs, acc, e => match tg x e with
    | none => .no
    | some e0 => bnd (tt e0) fun b e1 => if b = true then bnd (tk e1) fun wk e2 => bnd (tv e2) fun wv e3 => kD1 (fun k d => cmpD tg tt tk tv vs xs (putI acc k d) (wipeE e3 vs)) wk wv
      else cmpD tg tt tk tv vs xs acc (wipeE e1 vs)
def eDcG (src : MI) (tg : Tg) (tt : MT) (tk tv : ME) (vs : List Nat) : ME := fun e => bnd (src e) fun xs e1 => if xs.length < 16777216 then bnd (cmpD tg tt tk tv vs xs [] (wipeE e1 vs)) fun kvs e2 => .ok (dcW kvs) e2 else .no
section
variable {X : Cx} {P : List Nat}
end
/-! ### its evaluation -/
end Mi
set_option Elab.async false
set_option linter.all false
set_option maxRecDepth 100000
set_option maxHeartbeats 4000000
/-! Mi32: calls with keywords; the keywords' values stand behind the others -/
namespace Mi
open PySem PySem.Spec PyProof.Rows L2
/-- data values are held -/
def heldV (T : List (V × W)) : List V → List (Nat ⊕ D) → List (V × W)
  | v :: vs, .inr d :: rs => (v, .d d) :: heldV T vs rs
  | _ :: vs, .inl _ :: rs => heldV T vs rs
  | _, _ => T
section
variable {K : KK} {P : List Nat} {p0 : L2.St} {σ : L2.St} {H : Hp}
end
theorem evG_len : ∀ {as : List Arg} {env e' : Env} {rs : List (Nat ⊕ D)}, evG as env = .ok rs e' → rs.length = as.length := by
  intro as
  induction as with
  | nil => intro env e' rs h; cases h; rfl
  | cons a as ih =>
    intro env e' rs h
    cases a with
    | rf i =>
      simp only [evG] at h
      split at h
      · obtain ⟨rs', e2, h2, h⟩ := bnd_eq_ok h
        cases h
        simp [ih h2]
      · obtain ⟨rs', e2, h2, h⟩ := bnd_eq_ok h
        cases h
        simp [ih h2]
      · cases h
    | vl m =>
      obtain ⟨w, e1, _, h⟩ := bnd_eq_ok h
      obtain ⟨rs', e2, h2, h⟩ := bnd_eq_ok h
      cases h
      simp [ih h2]
section
variable {X : Cx} {k m : Nat} {f : Addr} {fd : FuncData} {ps ks : List Str} {sp : Sp} {x : Str} {p pos : Pos} {e : Expr} {es : List Expr} {kws : List Keyword} {t tk : TA} {g : List Value → List Value → List Value} {gV : List V → List V → List V}
end
/-! ### the keywords' values -/
section
variable {X : Cx} {P : List Nat} {e : Expr} {kws : List Keyword} {kpos : Pos} {nm : Option Str}
end
/-! ### short words -/
/-- a def with m plain parameters and keyword-only ones ks (n in all), whose defaults cs are whole numbers -/
def CalK (P : Program) (w : World) (K : KK) (mg : Str → Option Value) (base : Heap) (lv : Nat) (C : Orc) (x : Str) (c n m : Nat) (ks : List Str) (cs : List Int) : Prop :=
  ∃ (f : Addr) (fd : FuncData) (ps : List Str) (ds : List Value) (g : List Value → List Value → List Value), mg x = some (.ref f) ∧ PySem.W.keepIn K (.ref f) = true ∧ Binds K fd ps ds ∧ Vals (cs.map V.int) ds ∧ KBn K fd ps m ks g (fun vs zs => vs ++ zs) ∧ FnG P w K mg base lv f fd ps (spF K n (C c))
section
variable {X : Cx} {P : List Nat} {e : Expr} {lv : Nat} {ks : List Str} {cs : List Int}
end
section
variable {P : Program} {w : World} {K : KK} {mg : Str → Option Value} {base : Heap} {x qual : Str} {params : Arguments} {body : List Stmt} {scope : Scope} {kws : List (Str × V)} {f : Addr} {fd : FuncData} {ps ks : List Str} {cs : List Int} {ds : List Value} {g : List Value → List Value → List Value} {C : Orc} {c np m : Nat}
theorem CalK.of (hm : mg x = some (.ref f)) (hk : PySem.W.keepIn K (.ref f) = true) (hb : ∃ ds, Vals (cs.map V.int) ds ∧ Binds K fd ps ds) (hkb : KBn K fd ps m ks g (fun vs zs => vs ++ zs)) {lv : Nat} (h : FnG P w K mg base lv f fd ps (spF K np (C c))) : CalK P w K mg base lv C x c np m ks cs := by
  obtain ⟨ds, h1, h2⟩ := hb
  exact ⟨f, fd, ps, ds, g, hm, hk, h2, h1, hkb, h⟩
end
end Mi
set_option Elab.async false
set_option linter.all false
set_option maxRecDepth 100000
set_option maxHeartbeats 4000000
/-! Mi33: range(i, j, -1); {k: v} with a whole number as key -/
namespace Mi
open PySem PySem.Spec PyProof.Rows L2
def rngD (hi : Int) (n : Nat) : List D := (List.range n).map fun (i : Nat) => PyData.int (hi - (i : Int))
/-- range(a, b, -1) -/
def iR3 (a b : ME) : MI := fun e => bnd (a e) fun w e1 => bnd (b e1) fun w2 e2 => match vw w with
  | .int i => (match vw w2 with
    | .int j => if -4611686018427387904 ≤ i ∧ i < 4611686018427387904 ∧ -4611686018427387904 ≤ j ∧ j < 4611686018427387904 then .ok (rngD i (i - j).toNat) e2 else .no
    | _ => .no)
  | _ => .no
section
variable {X : Cx} {P : List Nat} {tg iter : Expr}
end
/-! ### {k: v} -/
def eD1 (mk mv : ME) : ME := fun e => bnd (mk e) fun wk e1 => bnd (mv e1) fun wv e2 => match vw wk with
  | .int k => .ok (dcW (putI [] k (vw wv))) e2
  | _ => .no
section
variable {X : Cx} {P : List Nat} {k v : Expr} {pos : Pos}
end
/-! ### d.get(k) -/
def gGet1 (i : D) : Option (List (Int × D)) → Env → Res W
  | some kvs, e => match i with
    | .int k => .ok (.d ((getI kvs k).getD .none)) e
    | _ => .no
  | none, _ => .no
def eGet1 (x : Nat) (m : ME) : ME := fun e => match (e.getD x none).bind kvI with
  | some _ => bnd (m e) fun w e1 => gGet1 (vw w) ((e1.getD x none).bind kvI) e1
  | none => .no
section
variable {X : Cx} {P : List Nat} {e : Expr}
end
end Mi
set_option Elab.async false
set_option linter.all false
set_option maxRecDepth 100000
set_option maxHeartbeats 4000000
/-! Mi34: an exception is made: its class's __init__ calls the base's by super() and sets the fields -/
namespace Mi
open PySem PySem.Spec PyProof.Rows

/-- self.f = f, one after the other -/
inductive Sets : List Str → List Stmt → Prop
  | nil : Sets [] []
  | cons {f : Str} {fs : List Str} {q0 q1 q2 q3 : Pos} {r : List Stmt} (hs : ∀ env, swapsWith (.Name f q2) (some (.Attribute (.Name "self" q0) f q1)) q3.line env = pure false) (hd : (f == ("__debug__" : Str)) = false) (h : Sets fs r) :
      Sets (f :: fs) (.Assign [.Attribute (.Name "self" q0) f q1] (.Name f q2) q3 :: r)
/-- the text of such an __init__ -/
structure XcT (P : Program) (fs : List Str) (params : Arguments) (body : List Stmt) (scope : Scope) : Prop where
  ne : fs ≠ []
  few : fs.length ≤ 100
  top : (P.main.scope.names.lookup ("super" : Str)).isSome = false
  self : ∃ ar, (params.posonlyargs ++ params.args).head? = some ar ∧ ar.arg = "self"
  bind : ∀ (name qual : Str) (body : List Stmt) (scope : Scope) (kV doc pm : Value) (an : Option Addr) (cdv ct : Value) (cc : Addr) (e : Value) (us : List Value), us.length = fs.length →
    bindArgs (PySem.W.ksFn name qual params body scope .none kV doc pm an cdv ct cc) ⟨e :: us, []⟩ = pure ((("self" : Str) :: fs).zip (e :: us))
  body : ∃ (p0 p1 p2 p3 p4 p5 : Pos) (x : Str) (j : Nat) (r : List Stmt), body = .Expr (.Call (.Attribute (.Call (.Name "super" p0) [] [] p1) "__init__" p2) [.Constant (.str x) j p3] [] p4) p5 :: r ∧ Sets fs r ∧
    (∀ env, swapsWith (.Call (.Attribute (.Call (.Name "super" p0) [] [] p1) "__init__" p2) [.Constant (.str x) j p3] [] p4) none p5.line env = pure false) ∧
    ∀ env, ∃ pl : Sem Bool, eval (.Call (.Attribute (.Call (.Name "super" p0) [] [] p1) "__init__" p2) [.Constant (.str x) j p3] [] p4) env = (do
      let o ← attributeBase (.Call (.Name "super" p0) [] [] p1) "__init__" env (eval (.Call (.Name "super" p0) [] [] p1) env)
      standAt p2.atName
      let (k, l) ← holding [o] (getMethod o "__init__" pl)
      callWith p4 k l (backTo p4 (starEach [.Constant (.str x) j p3] env)) [])
  kind : scope.kind = .function
  co : scope.isCoroutine = false
  gen : scope.isGenerator = false
  sup : scope.names.lookup ("super" : Str) = some .globalImplicit
  cls : scope.names.lookup ("__class__" : Str) = some .free
  loc : ∀ f ∈ ("self" : Str) :: fs, scope.names.lookup f = some .local
  cell : ∀ x ∈ scope.names, x.2 ≠ .cell
  nd : (("self" : Str) :: fs).Nodup
/-- the class at C, as the written part has it -/
structure Xc (K : KK) (P : Program) (C : Addr) (fs : List Str) : Prop where
  ini : PySem.W.excInitIn K C He.veBase "ValueError.__new__" = true
  cd : ∃ cd, PySem.W.clsIn K C = some cd ∧ PySem.HandSPX.refsVE cd.mro = true ∧ cd.hasDict = true
  sa : PySem.W.findIn K (.ref C) "__setattr__" = some (some (.builtin "object.__setattr__"))
  bex : PySem.W.subIn K (.ref C) (.type "BaseException") = some true
  ve : PySem.W.subIn K (.ref C) (.type "ValueError") = some true
  ty : PySem.W.typeIn K (.ref C) = some (.type "type")
  kp : PySem.W.keepIn K (.ref C) = true
  nof : ∀ f ∈ fs, PySem.W.findIn K (.ref C) f = some none
  st : PySem.W.nsIn K cStatics "thirdparty.any" = some none
  fn : ∃ (fI D cc cda : Addr) (qual : Str) (params : Arguments) (body : List Stmt) (scope : Scope) (kV doc pm ct oc : Value) (an od : Option Addr) (osl : Array (Option Value)) (oc1 oc2 : Value) (od1 od2 : Option Addr) (os1 os2 : Array (Option Value)) (vs : Array Value) (file : Str) (tf : Tok) (cdD : ClassData) (name : Str),
    XcT P fs params body scope ∧ PySem.W.findIn K (.ref C) "__init__" = some (some (.ref fI)) ∧ PySem.W.typeIn K (.ref fI) = some (.type "function") ∧
    K.lookup fI = some ⟨oc, od, .func (PySem.W.ksFn name qual params body scope .none kV doc pm an (.ref cda) ct cc), osl⟩ ∧ PySem.W.codeIn K (.ref cda) qual = true ∧
    K.lookup cda = some ⟨oc1, od1, .fields vs, os1⟩ ∧ vs[2]? = some (.str file tf) ∧ ((P.main.file : Str) == file) = true ∧
    K.lookup cc = some ⟨oc2, od2, .cell (some (.ref D)), os2⟩ ∧ PySem.W.clsIn K D = some cdD ∧ PySem.W.mroIn K C (.ref D) = some true ∧
    PySem.W.ks_superIn K C D "__init__" = some (some (.builtin "ValueError.__init__"))

section
variable {P : Program} {w : World} {K : KK} {A : Around} {c : Code} {E : Value → Shared → Prop} {h₀ : Heap} {L C e : Addr} {env : PySem.Env} {m : Str → Option Value} {Q : Flow → Shared → Prop} {cd : ClassData}
/-- where the frame stands: e in hand, its dict at dx with what is set so far -/
structure XAt (h₀ : Heap) (L e C : Addr) (m : Str → Option Value) (dx : Addr) (vs : List (Str × Value)) (h : Heap) : Prop where
  fr : Fr h₀ L h m
  obj : ∃ t1 : Addr, h.get? e = some ({ cls := .ref C, dict := some dx, data := .fields #[.ref t1, .none, .none, .none, .bool false, .none] } : Obj)
  ns : h.Ns1 dx fun y => vs.lookup y
  ne : dx ≠ e
  nL : dx ≠ L
  neL : e ≠ L
  nb : h₀.get? e = none
  nd : h₀.get? dx = none
theorem lookup_cons (f y : Str) (u : Value) (vs : List (Str × Value)) : ((f, u) :: vs).lookup y = if y = f then some u else vs.lookup y := by
  by_cases h : y = f
  · subst h; simp [List.lookup]
  · have e : (y == f) = false := by simpa using h
    rw [if_neg h]
    simp [List.lookup, e]
theorem within_vs : ∀ vs : List (Str × Value), Within (fun y => vs.lookup y) (vs.map (·.1))
  | [], y, h => by simp at h
  | (f, u) :: vs, y, h => by
    replace h : ((f, u) :: vs).lookup y ≠ none := h
    rw [lookup_cons] at h
    by_cases e : y = f
    · rw [e]; exact List.mem_cons_self
    · rw [if_neg e] at h
      exact List.mem_cons_of_mem _ (within_vs vs y h)
/-- the further fields -/
theorem xsets (hcd : PySem.W.clsIn K C = some cd) (hm : PySem.HandSPX.refsVE cd.mro = true) (hh : cd.hasDict = true) (sa : PySem.W.findIn K (.ref C) "__setattr__" = some (some (.builtin "object.__setattr__"))) (X₀ : K.In h₀)
    (hk : env.scope.kind = .function) (hL : env.locals = L) (hs : env.kindOf "self" = some .local) (hself : m "self" = some (.ref e)) :
    ∀ {fs : List Str} {r : List Stmt}, Sets fs r → ∀ {dx : Addr} {vs : List (Str × Value)} {s : Shared}, XAt h₀ L e C m dx vs s.heap → (∀ f ∈ fs, PySem.W.findIn K (.ref C) f = some none) → (∀ f ∈ fs, env.kindOf f = some .local) → (∀ f ∈ fs, ∃ u, m f = some u) → vs.length + fs.length ≤ 900 →
      (∀ s', s'.os = s.os → s'.gens = s.gens → s'.drawn = s.drawn → (∀ ws, ws.length = fs.length → (∀ i (hi : i < fs.length), m fs[i] = ws[i]?) → XAt h₀ L e C m dx ((fs.zip ws).reverse ++ vs) s'.heap) → Q .next s') →
      PySem.wpAt (model P w) A c (execs r env) Q E s
  | _, _, .nil, dx, vs, s, x, _, _, _, _, hq => PySem.wpAt_of_wpAny (wpAny_execs_nil (hq s rfl rfl rfl fun ws hl _ => by
      have : ws = [] := List.eq_nil_of_length_eq_zero hl
      subst this
      exact x))
  | _, _, .cons (f := f) (fs := fs) (q2 := q2) hsw hd S, dx, vs, s, x, hf, hloc, hv, hz, hq => by
    obtain ⟨u, hu⟩ := hv f List.mem_cons_self
    refine PySem.ks_wpAt_execs_cons (PySem.ks_wpAt_Assign_Attr ?_ (hsw env))
    refine PySem.wpAt_of_wpAny (wpAny_Name (wpAny_loadName_local hk (hloc f List.mem_cons_self) (by rw [hL]; exact x.fr.ns) hu ?_) hd)
    refine wpAny_Name (wpAny_loadName_local hk hs (by rw [hL]; exact x.fr.ns) hself ?_)
    obtain ⟨hp, g, d, t, os⟩ := s
    obtain ⟨t1, ho⟩ := x.obj
    obtain ⟨oD, _, _, hoD, _, _⟩ := x.ns.count (within_vs vs)
    have XK : K.In hp := X₀.keeps x.fr.keep
    refine PySem.W.set_plain XK (ox := { cls := .ref C, dict := some dx, data := .fields #[.ref t1, .none, .none, .none, .bool false, .none] }) (od := some oD) ⟨ho, rfl, rfl, hoD⟩ sa ?_
    refine PySem.OEX.osa_old XK ho x.ns (within_vs vs) (by rw [List.length_map]; simp only [List.length_cons] at hz; omega) hcd hm hh (hf f List.mem_cons_self) fun h' tk' k hn => ?_
    have x2 : XAt h₀ L e C m dx ((f, u) :: vs) h' := by
      refine ⟨⟨?_, fun b o z => k b o (fun y => by rw [y, x.nd] at z; cases z) (x.fr.keep b o z), x.fr.above⟩, ⟨t1, k _ _ (Ne.symm x.ne) ho⟩, ?_, x.ne, x.nL, x.neL, x.nb, x.nd⟩
      · obtain ⟨oL, es, ep, e1, e2⟩ := x.fr.ns
        exact ⟨oL, es, ep, k _ _ (Ne.symm x.nL) e1, e2⟩
      · have : (fun y => ((f, u) :: vs).lookup y) = fun y => if y = f then some u else vs.lookup y := by
          funext y
          exact lookup_cons f y u vs
        rw [this]
        exact hn
    refine xsets hcd hm hh sa X₀ hk hL hs hself S x2 (fun f hf' => hf f (List.mem_cons_of_mem _ hf')) (fun f hf' => hloc f (List.mem_cons_of_mem _ hf')) (fun f hf' => hv f (List.mem_cons_of_mem _ hf')) (by simp only [List.length_cons] at hz ⊢; omega) fun s' e1 e2 e3 hx => ?_
    refine hq s' e1 e2 e3 fun ws hl hi => ?_
    cases ws with
    | nil => simp at hl
    | cons v ws =>
      have e0 : m f = some v := hi 0 (Nat.zero_lt_succ _)
      rw [hu] at e0
      cases e0
      have := hx ws (by simpa using hl) fun i hi' => hi (i + 1) (Nat.succ_lt_succ hi')
      rw [List.zip_cons_cons, List.reverse_cons, List.append_assoc]
      exact this
end

section
variable {P : Program} {w : World} {K : KK} {A : Around} {E : Value → Shared → Prop} {h : Heap} {g : Array GenState} {d : Drawn} {t : Nat} {os : OsState} {C : Addr} {fs : List Str} {mg mb : Str → Option Value} {us : List Value} {Q : Value → Shared → Prop}
theorem zip_rev_lookup : ∀ {fs : List Str} {us : List Value}, fs.Nodup → us.length = fs.length → ∀ y, ((fs.zip us).reverse).lookup y = (fs.zip us).lookup y := fun {fs us} nd _ y => by
  have key : ∀ {l : List (Str × Value)}, (l.map (·.1)).Nodup → l.reverse.lookup y = l.lookup y := by
    intro l
    induction l with
    | nil => intro _; rfl
    | cons p l ih =>
      intro nd
      obtain ⟨f, u⟩ := p
      simp only [List.map_cons, List.nodup_cons] at nd
      rw [List.reverse_cons, List.lookup_append, ih nd.2, lookup_cons]
      by_cases e : y = f
      · subst e
        have : l.lookup y = none := by
          cases z : l.lookup y with
          | none => rfl
          | some v =>
            exact absurd (List.mem_map.mpr ⟨_, PySem.mem_of_lookup z, rfl⟩) nd.1
        rw [this, if_pos rfl]
        simp [List.lookup]
      · rw [if_neg e]
        have e2 : (y == f) = false := by simpa using e
        cases z : l.lookup y <;> simp [List.lookup, e2, z]
  refine key ?_
  rw [List.map_fst_zip]
  · exact nd
  · omega
/-- the body of such an __init__ -/
theorem xbody {h₀ : Heap} {L e t0 fI D cc cda : Addr} {m : Str → Option Value} {cdD : ClassData} {qual file name : Str} {tf : Tok} {params : Arguments} {body : List Stmt} {scope : Scope} {kV doc pm ct oc oc1 oc2 : Value} {an od od1 od2 : Option Addr} {osl os1 os2 : Array (Option Value)} {vs : Array Value} {s : Shared} {Q : Flow → Shared → Prop}
    (T : Xc K P C fs) (S : XcT P fs params body scope) (X : K.In h₀) (hf : K.lookup fI = some ⟨oc, od, .func (PySem.W.ksFn name qual params body scope .none kV doc pm an (.ref cda) ct cc), osl⟩)
    (hcda : K.lookup cda = some ⟨oc1, od1, .fields vs, os1⟩) (hvs : vs[2]? = some (.str file tf)) (hfile : ((P.main.file : Str) == file) = true) (hcc : K.lookup cc = some ⟨oc2, od2, .cell (some (.ref D)), os2⟩) (hD : PySem.W.clsIn K D = some cdD) (hmro : PySem.W.mroIn K C (.ref D) = some true)
    (hsuper : PySem.W.ks_superIn K C D "__init__" = some (some (.builtin "ValueError.__init__"))) (hg : h₀.Ns mainGlobals mg) (hsup : mg "super" = none) (hb : h₀.Ns builtinsNs mb) (hbb : ∀ y : Str, y ≠ "__name__" → mb y = bootBuiltins y)
    (FR : Fr h₀ L s.heap m) (he1 : s.heap.get? e = some (PySem.W.excObj C t0 none .none)) (hne : h₀.get? e = none) (heL : e ≠ L) (hself : m "self" = some (.ref e)) (hl : us.length = fs.length) (hm : ∀ i (hi : i < fs.length), m fs[i] = us[i]?)
    (hq : ∀ s', s'.os = s.os → s'.gens = s.gens → s'.drawn = s.drawn → (∃ dx, h₀.objs.size ≤ dx ∧ XAt h₀ L e C m dx (fs.zip us).reverse s'.heap) → Q .next s') :
    PySem.wpAt (model P w) A (.func body (PySem.W.ksEnv qual scope L fI (.ref cda) cc)) (execs body (PySem.W.ksEnv qual scope L fI (.ref cda) cc)) Q E s := by
  obtain ⟨p0, p1, p2, p3, p4, p5, x, j, r, hbody, hsets, hsw, hev⟩ := S.body
  subst hbody
  obtain ⟨ar, hhead, harg⟩ := S.self
  obtain ⟨cdC, hcd, hrefs, hhas⟩ := T.cd
  have X1 : K.In s.heap := X.keeps FR.keep
  have hselfl := S.loc ("self" : Str) List.mem_cons_self
  obtain ⟨pl, hpl⟩ := hev (PySem.W.ksEnv qual scope L fI (.ref cda) cc)
  obtain ⟨h₁, g, d, t, os⟩ := s
  have N1 : News h₀ L h₁ [(e, PySem.W.excObj C t0 none .none)] := fun p hp => by
    rcases List.mem_cons.mp hp with rfl | hp
    · exact ⟨he1, heL, hne⟩
    · cases hp
  obtain ⟨oD, hD1, hD2⟩ : ∃ oD, h₁.get? D = some oD ∧ oD.data = .cls cdD := by
    unfold PySem.W.clsIn at hD
    split at hD
    · rename_i _ _ _ _ ho
      cases hD
      exact ⟨_, X1 _ _ ho, rfl⟩
    · cases hD
  refine PySem.ks_wpAt_execs_cons (PySem.ks_wpAt_Expr_any (PySem.ks_wpAt_MethodCall (he := hpl) ?_) (by show (scope.kind == .module && _) = false; rw [S.kind]; rfl) (hsw _))
  refine PySem.ks_wpAt_super_base (env := PySem.W.ksEnv qual scope L fI (.ref cda) cc) S.sup S.cls (by decide) rfl (X1 _ _ hf) rfl hhead rfl (X1 _ _ hcda) rfl hvs hfile S.top ?_
  refine PySem.W.ks_loadName_global S.kind S.sup (PySem.Calls.loadGlobal_builtin (env := PySem.W.ksEnv qual scope L fI (.ref cda) cc) (hg.keeps FR.keep) hsup (hb.keeps FR.keep) ((hbb "super" (by decide +kernel)).trans PyProof.Rows.Boot.«super») ⟨rfl, ?_⟩)
  refine wpAny_loadName_free S.kind S.cls rfl ⟨_, X1 _ _ hcc, rfl⟩ ?_
  rw [harg]
  refine wpAny_loadName_local S.kind hselfl FR.ns hself ?_
  refine PySem.ks_wpAny_isType_cls hD1 hD2 ⟨rfl, ?_⟩
  refine PySem.ks_wpAny_call_super hD1 hD2 he1 rfl (fun c z => by cases z) (PySem.W.looks_mroIn X1 hmro) (fun h3 e3 k3 => ?_)
  generalize hso : h₁.objs.size = so at *
  obtain ⟨F3, N3, l3⟩ := PySem.W.ks_newsPush (s := ⟨h₁, g, d, t, os⟩) (q := so) FR N1 hso.symm e3 k3
  have soe : so ≠ e := fun z => by have := l3 _ List.mem_cons_self; rw [z] at this; exact absurd this (Nat.lt_irrefl _)
  refine PySem.W.kxs_method (s := ⟨h3, g, d, t, os⟩) (K := K) (C := C) (D := D) (x := e) (ox := PySem.W.excObj C t0 none .none) (odx := none) PySem.W.kxs_ValueError F3 X N3 List.mem_cons_self ⟨(N3 (e, PySem.W.excObj C t0 none .none) (by simp)).1, rfl, rfl, trivial⟩ T.st hsuper T.ve (by decide) (fun u4 h4 F4 N4 l4 => ?_)
  have u4e : u4 ≠ e := fun z => by have := l4 (e, PySem.W.excObj C t0 none .none) (by simp); rw [z] at this; exact absurd this (Nat.lt_irrefl _)
  refine PySem.W.kxs_callWith1 (s := ⟨h4, g, d, t + 1, os⟩) (x := e) (i := "ValueError.__init__") N4 List.mem_cons_self ?_
  show wpAny _ _ (spliced [(false, eval (.Constant (.str x) j p3) (PySem.W.ksEnv qual scope L fI (.ref cda) cc))]) _ _ _
  refine Calls.spliced_cons (Calls.Constant_str (x := x) (k := j) (pos := p3) (Calls.spliced_nil ⟨PySem.W.kxs_at N4 List.mem_cons_self, ?_⟩))
  refine PySem.W.kxs_call (s := ⟨h4, g, d, t + 1 + 1, os⟩) F4 X N4 PySem.F.excBase_ValueError T.ini List.mem_cons_self (.tail u4e (.tail soe (.head (by simp)))) (by rw [sizeLine_eq]; simp) (fun t5 h5 F5 N5 l5 => ?_)
  dsimp only
  cases hsets with
  | nil => exact absurd rfl S.ne
  | @cons f fs q0 q1 q2 q3 r hsw1 hd1 S1 =>
    cases us with
    | nil => simp at hl
    | cons u us =>
      have hu : m f = some u := hm 0 (Nat.zero_lt_succ _)
      have hfl := S.loc f (by simp)
      refine PySem.ks_wpAt_execs_cons (PySem.ks_wpAt_Assign_Attr ?_ (hsw1 _))
      refine PySem.wpAt_of_wpAny (wpAny_Name (wpAny_loadName_local S.kind hfl F5.ns hu ?_) hd1)
      refine wpAny_Name (wpAny_loadName_local S.kind hselfl F5.ns hself ?_)
      have X5 : K.In h5 := X.keeps F5.keep
      have ho5 : h5.get? e = some ({ cls := .ref C, dict := none, data := .fields #[.ref t5, .none, .none, .none, .bool false, .none] } : Obj) := (N5 (e, PySem.W.excObj C t5 none .none) (by simp)).1
      refine PySem.W.set_plain X5 (ox := { cls := .ref C, dict := none, data := .fields #[.ref t5, .none, .none, .none, .bool false, .none] }) (od := none) ⟨ho5, rfl, rfl, trivial⟩ T.sa ?_
      refine PySem.HandSPX.exc_osa X5 ho5 hcd hrefs hhas (T.nof f List.mem_cons_self) fun h6 tk6 dx k6 dn dne hx hn => ?_
      have fresh : h₀.get? dx = none := by
        cases z : h₀.get? dx with
        | none => rfl
        | some o => exact absurd (Heap.lt_size (F5.keep _ _ z)) (Nat.not_lt.mpr dn)
      have nL : dx ≠ L := fun z => by
        obtain ⟨oL, es, ep, e1, _⟩ := F5.ns
        have := Heap.lt_size e1
        rw [← z] at this
        exact absurd this (Nat.not_lt.mpr dn)
      have x6 : XAt h₀ L e C m dx [(f, u)] h6 := by
        refine ⟨⟨?_, fun b o z => k6 b o (fun y => by rw [y, hne] at z; cases z) (F5.keep b o z), F5.above⟩, ⟨t5, hx⟩, ?_, dne, nL, heL, hne, fresh⟩
        · obtain ⟨oL, es, ep, e1, e2⟩ := F5.ns
          exact ⟨oL, es, ep, k6 _ _ (Ne.symm heL) e1, e2⟩
        · have : (fun y => ([(f, u)] : List (Str × Value)).lookup y) = fun y => if y = f then some u else none := by
            funext y
            rw [lookup_cons]
            rfl
          rw [this]
          exact hn
      have hfew := S.few
      simp only [List.length_cons] at hfew hl
      refine xsets (env := PySem.W.ksEnv qual scope L fI (.ref cda) cc) hcd hrefs hhas T.sa X S.kind rfl hselfl hself S1 x6 (fun f hf => T.nof f (List.mem_cons_of_mem _ hf)) (fun f hf => S.loc f (by simp [hf])) (fun f hf => ?_) (by simp only [List.length_singleton]; omega) fun s' e1 e2 e3 hx' => ?_
      · obtain ⟨i, hi, rfl⟩ := List.mem_iff_getElem.mp hf
        have := hm (i + 1) (Nat.succ_lt_succ hi)
        simp only [List.getElem_cons_succ, List.getElem?_cons_succ] at this
        rw [this]
        exact ⟨us[i]'(by omega), List.getElem?_eq_getElem _⟩
      · refine hq s' e1 e2 e3 ⟨dx, ?_, ?_⟩
        · by_cases z : h₀.objs.size ≤ dx
          · exact z
          · have := F5.above
            obtain ⟨oL, es, ep, e1, _⟩ := F5.ns
            have h1 := Heap.lt_size e1
            have h2 : h5.objs.size ≤ dx := dn
            exact Nat.le_of_lt (Nat.lt_of_le_of_lt this (Nat.lt_of_lt_of_le h1 h2))
        · have := hx' us (by omega) fun i hi => hm (i + 1) (Nat.succ_lt_succ hi)
          rw [List.zip_cons_cons, List.reverse_cons]
          exact this
/-- an exception of the class at C, made with as many values as it has fields -/
theorem xmade (T : Xc K P C fs) (X : K.In h) (hroom : (A.under (.builtin "type.__call__" ⟨.ref C :: us, []⟩)).depth < recursionLimit) (hg : h.Ns mainGlobals mg) (hsup : mg "super" = none) (hb : h.Ns builtinsNs mb) (hbb : ∀ y : Str, y ≠ "__name__" → mb y = bootBuiltins y)
    (hlim : h.NoLimit) (hl : us.length = fs.length)
    (hq : ∀ (h' : Heap) (tk : Nat) (e dx t1 : Addr), (∀ b o, h.get? b = some o → h'.get? b = some o) → h.get? e = none → h.get? dx = none → h.objs.size ≤ dx → dx ≠ e →
      h'.get? e = some ({ cls := .ref C, dict := some dx, data := .fields #[.ref t1, .none, .none, .none, .bool false, .none] } : Obj) → h'.Ns1 dx (fun y => (fs.zip us).lookup y) → Q (.ref e) ⟨h', g, d, tk, os⟩) :
    wpAny (model P w) A (call (.ref C) us) Q E ⟨h, g, d, t, os⟩ := by
  obtain ⟨nm, N', qn, bs, bm, hdct, sn, sub, ab, col, dd, k0, k1, k2, k3, k5, hC, hT⟩ := PySem.W.excInit_of X T.ini
  obtain ⟨fI, D, cc, cda, qual, params, body, scope, kV, doc, pm, ct, oc, an, od, osl, oc1, oc2, od1, od2, os1, os2, vs, file, tf, cdD, name, S, hfind, htyp, hf, hcode, hcda, hvs, hfile, hcc, hD, hmro, hsuper⟩ := T.fn
  have hfew := S.few
  have hus : us.length ≤ sizeLine := by rw [hl, sizeLine_eq]; omega
  refine wpAny_call (PySem.HandSPX.call_own PySem.F.excBase_ValueError hT hC (PySem.W.looks_findIn X hfind) (fun self => PySem.W.bind_fn X self htyp) hus ?_)
  have kk : ∀ b o, h.get? b = some o → ((h.push (PySem.W.kdv_tup us)).push (PySem.HandSPX.excO C h.objs.size)).get? b = some o := fun b o z => Heap.get?_push_of_some _ (Heap.get?_push_of_some _ z)
  have X2 := X.keeps kk
  have he2 : ((h.push (PySem.W.kdv_tup us)).push (PySem.HandSPX.excO C h.objs.size)).get? (h.objs.size + 1) = some (PySem.HandSPX.excO C h.objs.size) := by heap_get
  have hsz2 : ((h.push (PySem.W.kdv_tup us)).push (PySem.HandSPX.excO C h.objs.size)).objs.size = h.objs.size + 2 := by rw [Heap.size_push, Heap.size_push]
  generalize hh2 : (h.push (PySem.W.kdv_tup us)).push (PySem.HandSPX.excO C h.objs.size) = h2 at *
  have hne : h.get? (h.objs.size + 1) = none := Heap.get?_none_of_le (Nat.le_succ _)
  generalize hee : h.objs.size + 1 = e at *
  have hbl : ∀ p ∈ (("self" : Str) :: fs).zip (Value.ref e :: us), scope.names.lookup p.1 = some .local := fun p hp => S.loc p.1 (List.of_mem_zip hp).1
  refine PySem.ks_codeAny_call_defAt (fd := PySem.W.ksFn name qual params body scope .none kV doc pm an (.ref cda) ct cc) (body := body) (binds := (("self" : Str) :: fs).zip (Value.ref e :: us)) hroom (X2 _ _ hf) rfl (hlim.keeps kk) (PySem.W.codeRec_of X2 hcode) rfl
    (BindsTo.of_eq (S.bind _ _ _ _ _ _ _ _ _ _ _ _ _ hl)) S.cell hbl (fun h₁ hns hk₁ => ?_) S.co S.gen S.kind
  generalize hL : h2.objs.size = L at *
  have hmap : ∀ y, (((("self" : Str) :: fs).zip (Value.ref e :: us)).reverse).lookup y = ((("self" : Str) :: fs).zip (Value.ref e :: us)).lookup y := zip_rev_lookup S.nd (by simp [hl])
  have hselfm : ((("self" : Str) :: fs).zip (Value.ref e :: us)).lookup ("self" : Str) = some (Value.ref e) := by rw [List.zip_cons_cons]; simp [List.lookup]
  have FR : Fr h L h₁ (fun y => ((("self" : Str) :: fs).zip (Value.ref e :: us)).lookup y) := ⟨by
    have := hns
    simp only [hmap] at this
    exact this, fun b o z => hk₁ b o (kk b o z), by omega⟩
  have nd2 := S.nd
  simp only [List.nodup_cons] at nd2
  refine xbody T S X hf hcda hvs hfile hcc hD hmro hsuper hg hsup hb hbb FR (hk₁ _ _ he2) hne (by rw [hsz2, ← hee]; exact Nat.ne_of_lt (Nat.lt_succ_self _)) hselfm hl (fun i hi => ?_) fun s' e1 e2 e3 hx => ?_
  · rw [List.zip_cons_cons, lookup_cons, if_neg (fun z => nd2.1 (by rw [← z]; exact List.getElem_mem hi))]
    have key : ∀ {l : List Str} {ws : List Value}, l.Nodup → ws.length = l.length → ∀ i (hi : i < l.length), (l.zip ws).lookup l[i] = ws[i]? := by
      intro l
      induction l with
      | nil => intro ws _ _ i hi; simp at hi
      | cons f l ih =>
        intro ws nd hl i hi
        cases ws with
        | nil => simp at hl
        | cons w ws =>
          simp only [List.nodup_cons] at nd
          rw [List.zip_cons_cons, lookup_cons]
          cases i with
          | zero => simp
          | succ i =>
            have hi' : i < l.length := by simpa using hi
            simp only [List.getElem_cons_succ, List.getElem?_cons_succ]
            rw [if_neg (fun z => nd.1 (by rw [← z]; exact List.getElem_mem hi'))]
            exact ih nd.2 (by simpa using hl) i hi'
    exact key nd2.2 hl i hi
  · obtain ⟨dx, hdx, x⟩ := hx
    obtain ⟨t1, hobj⟩ := x.obj
    have hns := x.ns
    have hrv : (fun y => ((fs.zip us).reverse).lookup y) = fun y => (fs.zip us).lookup y := funext (zip_rev_lookup nd2.2 hl)
    rw [hrv] at hns
    obtain ⟨h', g', d', tk', os'⟩ := s'
    obtain rfl : os' = os := e1
    obtain rfl : g' = g := e2
    obtain rfl : d' = d := e3
    exact ⟨rfl, hq h' tk' e dx t1 x.fr.keep hne x.nd hdx x.ne hobj hns⟩
end
end Mi
set_option Elab.async false
set_option linter.all false
set_option maxRecDepth 100000
set_option maxHeartbeats 4000000
/-! Mi35: readings that may end in an exception; defs that may raise -/
namespace Mi
open PySem PySem.Spec PyProof.Rows L2

/-- an exception's dict as data -/
def xD (fs : List (Str × D)) : D := .dict ((.bool true, .bool true) :: fs.map fun p => (.str p.1, p.2))
def xT (d : Option Addr) (x : Exn) : List (V × W) := match d with
  | some a => [(.ref a, .d (xD x.fs))]
  | none => []
/-- x is of the class cls, its dict at d -/
def XIs (mg : Str → Option Value) (x : Exn) (cls : Value) (d : Option Addr) : Prop := (∃ C : Addr, mg x.cls = some (.ref C) ∧ cls = .ref C) ∧ (d = none → x.fs = [])
def PostX (K : KK) (mg : Str → Option Value) (P : List Nat) (p0 : L2.St) (T : List (V × W)) (env : Env) (W' : WX) (x : Exn) : Prop :=
  ∀ σ H cls d, SR K P p0 (xT d x ++ T) σ env H → Good K H → XIs mg x cls d → W' cls d σ H
def tEX (K : KK) (mg : Str → Option Value) (P : List Nat) (W' : WX) (m : ME) : TE := fun σ H Q => ∃ p0 T env, SR K P p0 T σ env H ∧ Good K H ∧ match m env with
  | .ok w env' => ∀ v H', SR K P p0 ((v, w) :: T) σ env' H' → Good K H' → Q v H'
  | .ex x env' => ∀ H' cls d, SR K P p0 (xT d x ++ T) σ env' H' → Good K H' → XIs mg x cls d → W' cls d σ H'
  | .no => False
def tSX (K : KK) (mg : Str → Option Value) (P : List Nat) (W' : WX) (m : MS) : TS := fun D σ H => ∃ p0 T env, SR K P p0 T σ env H ∧ Good K H ∧ match m env with
  | .ok o env' => PostS K P p0 T env' D o
  | .ex x env' => PostX K mg P p0 T env' W' x
  | .no => False
/-- an exception, let go -/
def cut {α : Type} : Res α → Res α
  | .ok a e => .ok a e
  | _ => .no
@[simp] theorem cut_ok {α : Type} (a : α) (e : Env) : cut (.ok a e) = .ok a e := rfl
@[simp] theorem cut_no {α : Type} : cut (.no : Res α) = .no := rfl
@[simp] theorem cut_ex {α : Type} (x : Exn) (e : Env) : cut (.ex x e : Res α) = .no := rfl
def sOk (m : MS) : MS := fun e => cut (m e)

section
variable {X : Cx} {P : List Nat} {st : Stmt} {sts : List Stmt} {e : Expr} {pos : Pos} {W' : WX}
theorem Takes.good (tk : Takes X W') : Takes X (fun cls d σ H => Good X.K H → W' cls d σ H) := fun u s' ⟨a, B, sI, pins, σ, H, cls, d, h1, I, nb, up, sky, na, os, ag, w⟩ =>
  tk u s' ⟨a, B, sI, pins, σ, H, cls, d, h1, I, nb, up, sky, na, os, ag, w (inv_good I)⟩
theorem impS {t t' : TS} (h : PS X st t) (k : ∀ D σ H, t' D σ H → t D σ H) : PS X st t' := ⟨fun pins s σ H D I q => h.run pins s σ H D I (k D σ H q)⟩
theorem impSs {t t' : TS} (h : PSs X sts t) (k : ∀ D σ H, t' D σ H → t D σ H) : PSs X sts t' := ⟨fun pins s σ H D I q => h.run pins s σ H D I (k D σ H q)⟩
theorem impE {t t' : TE} (h : PE X e t) (k : ∀ σ H Q, t' σ H Q → t σ H Q) : PE X e t' := ⟨fun pins s σ H Q I q => h.run pins s σ H Q I (k σ H Q q)⟩
/-- what raises nothing -/
theorem ps_okX {m : MS} (h : PS X st (tS X.K P m)) : PS X st (tSX X.K X.mg P W' (sOk m)) := impS h fun D σ H ⟨p0, T, env, sr, g, q⟩ => by
  unfold sOk at q
  cases hm : m env with
  | ok o e' => rw [hm] at q; exact ⟨p0, T, env, o, e', sr, g, hm, q⟩
  | ex x e' => rw [hm] at q; exact q.elim
  | no => rw [hm] at q; exact q.elim
theorem pss_oneX {a : MS} (h1 : PS X st (tSX X.K X.mg P W' a)) : PSs X [st] (tSX X.K X.mg P W' a) := pss_one h1
theorem pss_consX {a b : MS} (h1 : PS X st (tSX X.K X.mg P W' a)) (h2 : PSs X sts (tSX X.K X.mg P W' b)) : PSs X (st :: sts) (tSX X.K X.mg P W' (sSeq a b)) := impSs (pss_cons h1 h2) fun D σ H ⟨p0, T, env, sr, g, q⟩ => by
  unfold sSeq at q
  refine ⟨p0, T, env, sr, g, ?_⟩
  cases hm : a env with
  | no => rw [hm] at q; exact q.elim
  | ex x e' => rw [hm] at q; exact q
  | ok o e' =>
    rw [hm] at q
    cases o with
    | nx => exact fun σ1 H1 sr1 g1 => ⟨p0, T, e', sr1, g1, q⟩
    | bk => exact q
    | ct => exact q
    | rt w => exact q
theorem ps_exprX {m : ME} (he : PE X e (tEX X.K X.mg P W' m)) (hs : swapsWith e none pos.line X.env = pure false := by rfl) : PS X (.Expr e pos) (tSX X.K X.mg P W' (sE m)) := impS (ps_expr he hs) fun D σ H ⟨p0, T, env, sr, g, q⟩ => by
  unfold sE at q
  refine ⟨p0, T, env, sr, g, ?_⟩
  cases hm : m env with
  | no => rw [hm] at q; exact q.elim
  | ex x e' => rw [hm] at q; exact fun H' cls d s1 g1 i1 => q σ H' cls d s1 g1 i1
  | ok w e' => rw [hm] at q; exact fun v H1 sr1 g1 => q σ H1 sr1.drop g1
theorem ps_setX {i : Nat} {x : Str} {m : ME} {pos' : Pos} (hN : X.N.Nodup) (hP : P.contains i = false) (hi : X.N[i]? = some x) (hx : Loc X.env.scope x) (he : PE X e (tEX X.K X.mg P W' m)) (hs : swapsWith e (some (.Name x pos')) pos.line X.env = pure false := by rfl)
    (hf : X.fn x = true ∨ X.env.scope.names.lookup x = some .local := by first | exact .inl rfl | exact .inr rfl | assumption) : PS X (.Assign [.Name x pos'] e pos) (tSX X.K X.mg P W' (sSet i m)) := by
  refine ⟨fun pins s σ H D I hq => ?_⟩
  refine (ps_set hN hi hx he hs hf).run pins s σ H D I ?_
  obtain ⟨p0, T, env, sr, g, q⟩ := hq
  have hP' : i ∉ P := fun z => by rw [List.contains_iff_mem.mpr z] at hP; cases hP
  unfold sSet at q
  refine ⟨p0, T, env, sr, g, ?_⟩
  cases hm : m env with
  | no => rw [hm] at q; exact q.elim
  | ex x e' => rw [hm] at q; exact fun H' cls d s1 g1 i1 => q σ H' cls d s1 g1 i1
  | ok w e' => rw [hm] at q; exact fun v H1 sr1 g1 => q _ H1 (sr1.store (by rw [I.len]; exact (List.getElem?_eq_some_iff.mp hi).1) hP') g1
/-- how a run of statements ends -/
def EndX (K : KK) (mg : Str → Option Value) (P : List Nat) (W' : WX) (p0 : L2.St) (T : List (V × W)) (D : Ends) : Res Out → Prop
  | .ok o env' => PostS K P p0 T env' D o
  | .ex x env' => PostX K mg P p0 T env' W' x
  | .no => False
theorem xT_mid {d : Option Addr} {x : Exn} {S T : List (V × W)} : (xT d x ++ T).Sublist (xT d x ++ (S ++ T)) := List.Sublist.append_left (List.sublist_append_right _ _) _
end
end Mi
set_option Elab.async false
set_option linter.all false
set_option maxRecDepth 100000
set_option maxHeartbeats 4000000
/-! Mi36: defs that may raise, their calls, raise -/
namespace Mi
open PySem PySem.Spec PyProof.Rows L2

/-- a def's promise by its mirror, that may end in an exception -/
def spX (K : KK) (mg : Str → Option Value) (n : Nat) (F : List W → CRes) : Sp := fun vs H Q E => vs.length = n ∧ ∃ T ws, vs.length = ws.length ∧ Rels K H (vs.zip ws ++ T) ∧ Good K H ∧ match F ws with
  | .ok w outs => ∀ v H', Rels K H' ((v, w) :: (vs.zip (updW ws outs) ++ T)) → Q v H'
  | .ex x outs => ∀ cls d H', Rels K H' (xT d x ++ (vs.zip (updW ws outs) ++ T)) → XIs mg x cls d → E cls d H'
  | .no => False
structure FnGX (P : Program) (w : World) (K : KK) (mg : Str → Option Value) (base : Heap) (k : Nat) (f : Addr) (fd : FuncData) (ps : List Str) (sp : Sp) : Prop where
  len : ∀ vs H Q E, sp vs H Q E → vs.length = ps.length
  run : ∀ (A : Around) (outer : List PySem.Env) (s : Shared) (H : Hp) (args : Args) (us : List Value) (vs : List V) (Q : VK) (E : XK), A.guards = some [] → Room k A → Env0 P w K mg base A outer s H → BindsTo s fd args (ps.zip us) → Vals vs us → sp vs H Q E →
    codeAny (model P w) A (.call (.ref f) args) (CR (L2.CX P w) outer P w H s Q E) s

section
variable {X : Cx} {k : Nat} {f : Addr} {fd : FuncData} {ps : List Str} {sp : Sp} {dvs : List V} {ds : List Value} {x : Str} {p pos : Pos} {e : Expr} {es : List Expr} {t : TA} {W' : WX} {E : L2.St → XK}
theorem run_fnGX {pins : List (Addr × Obj)} {σ : L2.St} {H : Hp} {s : Shared} {Q : VK} {us : List Value} {vs : List V} (F : FnGX X.prog X.w X.K X.mg X.base k f fd ps sp) (hgd : X.A.guards = some []) (hr : Room k X.A) (hb : Binds X.K fd ps []) (tk : Takes X W') (hW : ∀ cls d H', E σ cls d H' → Good X.K H' → W' cls d σ H')
    (I : L2.Inv X pins σ H s) (r : Vals vs us) (h : sp vs H Q (E σ)) : wpAny (model X.prog X.w) X.A (call (.ref f) us) (EP X pins σ Q) X.xe s := by
  have hl : us.length = ps.length := by rw [← r.length]; exact F.len _ _ _ _ h
  have b := hb s us I.kIn (by rw [List.append_nil]; exact hl)
  rw [List.append_nil] at b
  refine wpAny_call (codeAny_mono (F.run X.A X.stack s H ⟨us, []⟩ us vs Q (E σ) hgd hr I.env0 b r h) fun res s' hq => ?_)
  match res, hq with
  | .ok (.ret u), hq => exact I.after hq
  | .error u, hq => exact Takes.good tk u s' (XE.of_call I (fun cls d H' h g => hW cls d H' h g) hq)
theorem pe_callGX (F : FnGX X.prog X.w X.K X.mg X.base k f fd ps sp) (hgd : X.A.guards = some []) (hr : Room k X.A) (hg : Gl X x) (hm : X.mg x = some (.ref f)) (hk : PySem.W.keepIn X.K (.ref f) = true) (hb : Binds X.K fd ps []) (tk : Takes X W') (hW : ∀ σ cls d H', E σ cls d H' → Good X.K H' → W' cls d σ H')
    (ha : PA X (e :: es) t) (hdb : (x == ("__debug__" : Str)) = false := by decide) (he : starEach (e :: es) X.env = (false, eval e X.env) :: starEach es X.env := by rfl) (hpl : (backTo pos (starEach es X.env)).any (·.1) = false := by rfl) :
    PE X (.Call (.Name x p) (e :: es) [] pos) (fun σ H Q => t σ H fun vs H1 => sp vs H1 Q (E σ)) := by
  refine ⟨fun pins s σ H Q I h => wpAny_Call_Name_kw (ld_glob I hg hm ?_ hdb)⟩
  refine PySem.W.callWith_K (h₀ := X.base) I.ok.mod.kin hk (thn (ha.run pos pins s σ H _ I h) ?_) he hpl
  rintro us s1 ⟨vs, H1, I1, r, q⟩
  exact ⟨I1.kIn, run_fnGX F hgd hr hb tk (hW σ) I1 r q⟩
/-- a call that may raise: what its arguments raise is let go -/
def eCallX (C : Orc) (c : Nat) (as : List Arg) : ME := fun e => match evG as e with
  | .ok _ _ => eCall C c as e
  | _ => .no
/-- behind a call: what was handed on comes back -/
theorem callBack {K : KK} {P : List Nat} {p0 : L2.St} {T T' : List (V × W)} {σ : L2.St} {e1 e2 : Env} {H1 H2 : Hp} {vs : List V} {rs : List (Nat ⊕ D)} {qq : List W × Env} {outs : List W} (hq : takeA rs e1 = some qq) (he2 : putO rs outs qq.2 = some e2) (sr1 : SR K P p0 T σ e1 H1)
    (ar : ARel K H1 (owned H1 (pr σ e1 ++ T)) σ vs rs) (r : Rels K H2 (vs.zip (updW qq.1 outs) ++ (pr σ qq.2 ++ (T' ++ T)))) : SR K P p0 (T' ++ T) σ e2 H2 := by
  obtain ⟨k1, k2, k3⟩ := put_facts hq he2
  have r3 := joinA (T := T' ++ T) hq sr1.len ar he2 r
  exact ⟨r3, by rw [k1]; exact sr1.len, sr1.len0, fun i x hx => by
    cases hd1 : e1.getD i none with
    | none => rw [k2 i hd1] at hx; cases hx
    | some y => exact sr1.cov i y hd1, fun i hi => ⟨(sr1.par i hi).1, by
      obtain ⟨xs, hxs, ho⟩ := (sr1.par i hi).2
      exact k3 i xs hxs ho⟩⟩
/-- a call of a def of the text that may raise -/
theorem pe_callMX {P : List Nat} {C : Orc} {c n : Nat} {as : List Arg} (F : FnGX X.prog X.w X.K X.mg X.base k f fd ps (spX X.K X.mg n (C c))) (hn : as.length = n) (hgd : X.A.guards = some []) (hr : Room k X.A) (hg : Gl X x) (hm : X.mg x = some (.ref f)) (hk : PySem.W.keepIn X.K (.ref f) = true) (hb : Binds X.K fd ps []) (tk : Takes X W')
    (ha : PA X (e :: es) (tG X.K P as)) (hdb : (x == ("__debug__" : Str)) = false := by decide) (he : starEach (e :: es) X.env = (false, eval e X.env) :: starEach es X.env := by rfl) (hpl : (backTo pos (starEach es X.env)).any (·.1) = false := by rfl) :
    PE X (.Call (.Name x p) (e :: es) [] pos) (tEX X.K X.mg P W' (eCallX C c as)) := by
  refine ⟨fun pins s σ H Q I hh => ?_⟩
  refine thn ((pe_callGX (E := fun σ cls d H => Good X.K H → W' cls d σ H) F hgd hr hg hm hk hb tk (fun σ cls d H' h g => h g) ha hdb he hpl).run pins s σ H (fun v H' => Good X.K H' → Q v H') I ?_) (by
    rintro u s' ⟨v, H', I', r, q⟩
    exact ⟨v, H', I', r, q (inv_good I')⟩)
  obtain ⟨p0, T, env, sr, gd, q⟩ := hh
  unfold eCallX at q
  cases h1 : evG as env with
  | no => rw [h1] at q; exact q.elim
  | ex y e' => rw [h1] at q; exact q.elim
  | ok rs e1 =>
  rw [h1] at q
  unfold eCall at q
  simp only [h1, bnd_ok] at q
  refine ⟨p0, T, env, rs, e1, sr, gd, h1, fun vs H1 ar sr1 g1 => ?_⟩
  cases hq : takeA rs e1 with
  | none => rw [hq] at q; exact q.elim
  | some qq =>
  rw [hq] at q
  dsimp only at q
  have hl := takeA_len hq
  refine ⟨by rw [ar.len, evG_len h1]; exact hn, pr σ qq.2 ++ T, qq.1, by rw [ar.len, hl.2], splitA hq sr1.len ar (fun _ z => z) sr1.rels, g1, ?_⟩
  cases hC : C c qq.1 with
  | no => rw [hC] at q; exact q.elim
  | ok w outs =>
    rw [hC] at q
    dsimp only at q
    cases he2 : putO rs outs qq.2 with
    | none => rw [he2] at q; exact q.elim
    | some e2 =>
    rw [he2] at q
    refine fun v H2 r g2 => q v H2 (callBack hq he2 sr1 ar (T' := [(v, w)]) (r.perm ?_)) g2
    rw [← List.append_assoc, ← List.append_assoc]
    exact List.perm_middle.symm
  | ex y outs =>
    rw [hC] at q
    dsimp only at q
    cases he2 : putO rs outs qq.2 with
    | none => rw [he2] at q; exact q.elim
    | some e2 =>
    rw [he2] at q
    refine fun cls d H2 r i g2 => q H2 cls d (callBack hq he2 sr1 ar (T' := xT d y) (r.perm ?_)) g2 i
    rw [← List.append_assoc, ← List.append_assoc, ← List.append_assoc, ← List.append_assoc]
    refine List.Perm.append_right _ ?_
    rw [List.append_assoc]
    exact List.perm_append_comm
end

section
variable {P : Program} {w : World} {K : KK} {mg : Str → Option Value} {base : Heap} {x qual : Str} {params : Arguments} {body : List Stmt} {scope : Scope} {f : Addr} {fd : FuncData}
/-- a def of the text that may raise keeps its promise, by its body -/
theorem fnGX_of {N ps : List Str} {k : Nat} {sp : Sp} {dvs : List V} {kws : List (Str × V)} (F : FunD K x qual params body scope dvs kws f fd) (S : FnScope N ps scope) (len : ∀ vs H Q E, sp vs H Q E → vs.length = ps.length)
    (hbody : ∀ (cdv : Value) (A : Around) (outer : List PySem.Env) (s : Shared) (H : Hp) (vs : List V) (Q : VK) (E : XK), A.guards = some [] → Room k (A.deeper (envOfC qual scope s.heap.objs.size f cdv)) → sp vs H Q E →
      ∃ t, PSs (cxOf (L2.CX P w) P w K mg base N qual scope f cdv A outer s H E) body t ∧ t { nx := fun _ H' => Q .non H', rt := Q } (start N vs) H) : FnGX P w K mg base (k + 1) f fd ps sp := by
  obtain ⟨oc, od, dV, kV, doc, pm, an, cdv, ct, osl, hfd, lk, hcd, _, _⟩ := F.ex
  subst hfd
  constructor
  · exact len
  intro A outer s H args us vs Q E hgd hr e0 hbnd hvals hpre
  have hvl := len _ _ _ _ hpre
  have KX : K.In s.heap := e0.mod.kin.keeps (fun b o e => (e0.bs b o e).1)
  have noLim : s.heap.NoLimit := e0.mod.nolimit.keeps (fun b o e => (e0.bs b o e).1)
  have kinds : ∀ y ∈ ps.zip us, scope.names.lookup y.1 = some .local ∨ (scope.names.lookup y.1 = some .cell ∧ ((cellsFrom (s.heap.objs.size + 1) scope.names []).lookup y.1).isSome = true) := by
    rintro ⟨n, v⟩ hy
    exact (S.par n (List.of_mem_zip hy).1).elim .inl fun q => .inr ⟨q, PySem.W.cellsFrom_some _ _ _ (.inl q)⟩
  refine codeAny_call_function hr.depth (KX _ _ lk) rfl S.co S.gen rfl (PySem.W.codeRec_of KX hcd) (hbnd _ _ _ _ (wpAny_newFunctionEnv_cells S.kind kinds ?_))
  intro env he s1 inC
  subst he
  refine ⟨noLim.keeps inC.toInCall.keep, codeAny_func ?_⟩
  obtain ⟨t, ht, hq⟩ := hbody cdv A outer s H vs Q E hgd (hr.deeper _) hpre
  refine wpAny_mono (ht.run [] s1 _ H _ (inv_start S hr.hd e0 hvl hvals inC) hq) (fun fl s' hs => ?_) (fun _ _ z => z)
  match fl, hs with
  | .ret u, ⟨v, σ', H', J, rv, q⟩ => exact ⟨v, H', J.os, J.bare, J.base, J.hok, rv, q⟩
  | .next, ⟨σ', H', J, q⟩ => exact ⟨V.non, H', J.os, J.bare, J.base, J.hok, rfl, q⟩
  | .brk, ⟨_, _, _, q⟩ => exact q.elim
  | .cont, ⟨_, _, _, q⟩ => exact q.elim
/-- at the end of a def: what was handed on, and what is held -/
theorem fnEnd {H' : Hp} {N : List Str} {ps : List Str} {Pl : List Nat} {vs : List V} {ws outs : List W} {T S : List (V × W)} {σ' : L2.St} {e' : Env} (hv : vs.length = ps.length) (hvw : vs.length = ws.length) (hPl : lpos ws 0 = Pl) (ho : contO e' Pl = some outs)
    (s2 : SR K Pl (start N vs) (S ++ (dPart (vs.zip ws) ++ T)) σ' e' H') : Rels K H' (S ++ (vs.zip (updW ws outs) ++ T)) := by
  rw [← hPl] at ho
  have hst : ∀ i, i ∈ lpos ws 0 → ∃ u, vs[i - 0]? = some u ∧ σ'[i]? = some (some u) := fun i hi => by
    obtain ⟨_, x, hx, _⟩ := lpos_ge hi
    have hi2 : i < vs.length := by rw [hvw]; exact (List.getElem?_eq_some_iff.mp (by simpa using hx)).1
    refine ⟨vs[i], by simp [hi2], ?_⟩
    rw [(s2.par i (by rw [← hPl]; exact hi)).1]
    unfold L2.start
    rw [List.getElem?_append_left (by simpa using hi2), List.getElem?_map]
    simp [hi2]
  have inPr : ∀ i w u, i ∈ lpos ws 0 → vs[i]? = some u → e'.getD i none = some w → (u, w) ∈ pr σ' e' := fun i xs u hi hu he => by
    obtain ⟨u', h1, h2⟩ := hst i hi
    have : u' = u := by
      have e1 : vs[i]? = some u' := by simpa using h1
      rw [hu] at e1; exact (Option.some.inj e1).symm
    subst this
    exact pr_mem (i := i) h2 he
  refine s2.rels.ofMem (fun p hp => ?_) ?_
  · rcases List.mem_append.mp hp with hp | hp
    · exact List.mem_append_right _ (List.mem_append_left _ hp)
    rcases List.mem_append.mp hp with hp | hp
    · rcases updW_mem ho p hp with ⟨a, b⟩ | ⟨i, a, b, c, d⟩
      · exact List.mem_append_right _ (List.mem_append_right _ (List.mem_append_left _ (mem_dPart.mpr ⟨b, a⟩)))
      · exact List.mem_append_left _ (inPr i _ _ a (by simpa using b) d)
    · exact List.mem_append_right _ (List.mem_append_right _ (List.mem_append_right _ hp))
  · obtain ⟨S', h1, h2⟩ := sub_back (H := H') ho hvw hst
    have top := s2.rels.nd
    rw [List.drop_zero, List.drop_zero] at h1
    have perm : (owned H' (S ++ (vs.zip (updW ws outs) ++ T))).Perm (owned H' (S' ++ (S ++ T))) := by
      rw [owned_app, owned_app, owned_app, owned_app, h2, ← List.append_assoc, ← List.append_assoc]
      exact List.Perm.append_right _ List.perm_append_comm
    refine perm.nodup_iff.mpr (top.sublist ?_)
    rw [owned_app, owned_app, owned_app, owned_app, owned_app]
    refine List.Sublist.append (ownedS _ h1) (List.Sublist.append_left (List.sublist_append_right _ _) _)
/-- a def that may raise, by the mirror of its body -/
theorem fnMX {N ps : List Str} {k np n : Nat} {Ps : List (List Nat)} {m : MS} {F : List W → CRes} {dvs : List V} {kws : List (Str × V)} (FD : FunD K x qual params body scope dvs kws f fd) (S : FnScope N ps scope) (hnp : ps.length = np) (hn : N.length = n) (hF : F = runF np n Ps m)
    (hbody : ∀ (Pl : List Nat), Ps.contains Pl = true → ∀ (cdv : Value) (A : Around) (outer : List PySem.Env) (s : Shared) (H : Hp) (E : XK), A.guards = some [] → Room k (A.deeper (envOfC qual scope s.heap.objs.size f cdv)) →
      PSs (cxOf (L2.CX P w) P w K mg base N qual scope f cdv A outer s H E) body (tSX K mg Pl (fun cls d _ H => E cls d H) m)) : FnGX P w K mg base (k + 1) f fd ps (spX K mg np F) := by
  subst hF hnp hn
  refine fnGX_of FD S (fun vs H Q E h => h.1) fun cdv A outer s H vs Q E hgd hr h => ?_
  obtain ⟨hv, T, ws, hvw, rl, gd, hrun⟩ := h
  unfold runF at hrun
  by_cases hc : ws.length = ps.length ∧ Ps.contains (lpos ws 0) = true
  rotate_left
  · rw [if_neg hc] at hrun
    exact hrun.elim
  rw [if_pos hc] at hrun
  obtain ⟨hc1, hc2⟩ := hc
  generalize hPl : lpos ws 0 = Pl at hc2 hrun
  refine ⟨_, hbody Pl hc2 cdv A outer s H E hgd hr, ?_⟩
  have sr : SR K Pl (start N vs) (dPart (vs.zip ws) ++ T) (start N vs) (ws.map some ++ List.replicate (N.length - ps.length) none) H := by
    refine ⟨?_, ?_, rfl, fun i x hx => ?_, fun i hi => ⟨rfl, ?_⟩⟩
    · unfold L2.start
      rw [pr_start hvw (by rw [hv])]
      refine (rl.dup (vs.zip ws) fun p hp => List.mem_append_left _ hp).perm ?_
      rw [← List.append_assoc, ← List.append_assoc]
      exact List.Perm.append_right _ List.perm_append_comm
    · unfold L2.start
      simp only [List.length_append, List.length_map, List.length_replicate]
      omega
    · rw [map_getD] at hx
      have hi : i < ws.length := (List.getElem?_eq_some_iff.mp hx).1
      have hi2 : i < vs.length := by omega
      refine ⟨vs[i], ?_⟩
      unfold L2.start
      rw [List.getElem?_append_left (by simpa using hi2), List.getElem?_map]
      simp [hi2]
    · rw [map_getD]
      rw [← hPl] at hi
      obtain ⟨_, xs, hx, hxo⟩ := lpos_ge hi
      exact ⟨xs, by simpa using hx, hxo⟩
  refine ⟨_, _, _, sr, gd, ?_⟩
  cases hm : m (ws.map some ++ List.replicate (N.length - ps.length) none) with
  | no => rw [hm] at hrun; exact hrun.elim
  | ok o e' =>
    rw [hm] at hrun
    dsimp only at hrun
    cases ho : contO e' Pl with
    | none => rw [ho] at hrun; cases o <;> exact hrun.elim
    | some outs =>
      rw [ho] at hrun
      cases o with
      | rt w' => exact fun v σ' H' s2 _ => hrun v H' (fnEnd (S := [(v, w')]) hv hvw hPl ho s2)
      | nx => exact fun σ' H' s2 _ => hrun .non H' (fnEnd (S := [(.non, .d .none)]) hv hvw hPl ho (s2.push (s2.rels.data (by simp [Dat]))))
      | bk => exact hrun.elim
      | ct => exact hrun.elim
  | ex y e' =>
    rw [hm] at hrun
    dsimp only at hrun
    cases ho : contO e' Pl with
    | none => rw [ho] at hrun; exact hrun.elim
    | some outs =>
      rw [ho] at hrun
      exact fun σ' H' cls d s2 _ i => hrun cls d H' (fnEnd hv hvw hPl ho s2) i
end
end Mi
set_option Elab.async false
set_option linter.all false
set_option maxRecDepth 100000
set_option maxHeartbeats 4000000
/-! Mi37: raise; short words for defs that may raise -/
namespace Mi
open PySem PySem.Spec PyProof.Rows L2

def sRaise (x : Str) (fs : List Str) (ms : List ME) : MS := fun e => match evT ms e with
  | .ok ds e1 => .ex ⟨x, fs.zip ds⟩ e1
  | _ => .no
theorem relO_zip {fs : List Str} : ∀ {vs : List V} {us : List Value}, Vals vs us → ∀ f, RelO ((fs.zip vs).lookup f) ((fs.zip us).lookup f) := by
  induction fs with
  | nil => intro vs us _ f; trivial
  | cons g fs ih =>
    intro vs us r f
    cases r with
    | nil => trivial
    | cons h r =>
      rw [List.zip_cons_cons, List.zip_cons_cons, lookup_put, lookup_cons]
      by_cases e : f = g
      · rw [if_pos e, if_pos e]; exact h
      · rw [if_neg e, if_neg e]; exact ih r f
section
variable {X : Cx} {P : List Nat} {e : Expr} {es : List Expr} {pos p : Pos} {W' : WX} {fs : List Str} {C : Addr} {x : Str} {ta : TA} {k : Nat}
/-- X(e, ..), an own exception with fields -/
theorem pmk_x (T : Xc X.K X.prog C fs) (hsup : X.mg "super" = none) (hr : Room k X.A) (hg : Gl X x) (hm : X.mg x = some (.ref C)) (ha : PA X (e :: es) ta) (hdb : (x == ("__debug__" : Str)) = false := by decide)
    (he : starEach (e :: es) X.env = (false, eval e X.env) :: starEach es X.env := by rfl) (hpl : (backTo pos (starEach es X.env)).any (·.1) = false := by rfl) :
    PMk X (.Call (.Name x p) (e :: es) [] pos) (fun σ H Q => ta σ H fun vs H1 => vs.length = fs.length ∧ ∀ dx, H1 dx = none → Q (.ref C) (some dx) (upd H1 dx (.xd (fs.zip vs)))) := by
  intro pins s σ H Q I h
  refine wpAny_Call_Name_kw (ld_glob I hg hm ?_ hdb)
  refine PySem.W.callWith_K (h₀ := X.base) I.ok.mod.kin T.kp (thn (ha.run pos pins s σ H _ I h) fun us s1 ⟨vs, H1, I1, r1, hz, q1⟩ => ⟨I1.kIn, ?_⟩) he hpl
  show wpAny _ _ (call (.ref C) us) _ _ _
  obtain ⟨hp, g, dr, tk, os⟩ := s1
  obtain ⟨mb, hb, hbb⟩ := I1.ok.mod.blt
  refine xmade T I1.kIn (by rw [make_depth]; have := hr.dp; omega) (I1.ok.mod.glob.keeps I1.bk) hsup (hb.keeps I1.bk) hbb I1.nolimit (by rw [← r1.length]; exact hz) fun h' tk' e dx t1 kk ne nd sz dne hobj hns => ?_
  obtain ⟨G, g1, g2⟩ := restrict h' fun b => decide (b ≠ e)
  have gk : ∀ b, b ≠ e → G.get? b = h'.get? b := fun b hb => g1 b (decide_eq_true hb)
  have ge : G.get? e = none := g2 e (by simp)
  have kG : ∀ b o, hp.get? b = some o → G.get? b = some o := fun b o z => by
    have hbe : b ≠ e := fun y => by rw [y, ne] at z; cases z
    rw [gk b hbe]
    exact kk b o z
  have hok : ObjOk X.prog X.w (upd H1 dx (.xd (fs.zip vs))) G dx (.xd (fs.zip vs)) := ⟨_, hns.at fun o z => (gk dx dne).trans z, relO_zip r1⟩
  have J := I1.laid (t' := tk') (a := dx) (o := .xd (fs.zip vs)) (h' := G) kG sz hok
  have h1 : H1 e = none := I1.hok.gone ne
  refine ⟨e, _, _, ⟨G, g, dr, tk', os⟩, _, .ref C, some dx, rfl, J, fun b o z => ?_, ge, hobj, ⟨rfl, rfl⟩, rfl, rfl, by rw [upd_ne (Ne.symm dne)]; exact h1, rfl, I1.bare, raises_own T.bex T.ty, q1 dx (I1.hok.fresh sz)⟩
  by_cases y : b = e
  · rw [y, ge] at z; cases z
  · rw [← gk b y]; exact z
theorem datk_zip {K : KK} {H : Hp} {O : List Addr} : ∀ {fs : List Str} {ds : List D} {vs : List V}, Dats K H O ds vs → Datk K H O ((fs.zip ds).map fun p => (PyData.str p.1, p.2)) ((fs.zip vs).map (·.2))
  | [], _, _, _ => by simp [Datk]
  | f :: fs, [], vs, h => by simp only [Dats] at h; subst h; simp [Datk]
  | f :: fs, d :: ds, vs, h => by
    simp only [Dats] at h
    obtain ⟨v, r, rfl, h1, h2⟩ := h
    simp only [List.zip_cons_cons, List.map_cons, Datk]
    exact ⟨v, _, rfl, h1, datk_zip h2⟩
theorem ps_raiseM {ms : List ME} (hT : ∃ C, X.mg x = some (.ref C) ∧ Xc X.K X.prog C fs) (hsup : X.mg "super" = none) (hr : Room k X.A) (hg : Gl X x) (hc : X.calm = true) (tk : Takes X W') (hl : ms.length = fs.length) (hne : fs ≠ []) (ha : PA X (e :: es) (tF X.K P ms)) (hdb : (x == ("__debug__" : Str)) = false := by decide)
    (he : starEach (e :: es) X.env = (false, eval e X.env) :: starEach es X.env := by rfl) (hpl : (backTo pos (starEach es X.env)).any (·.1) = false := by rfl) {spos : Pos} :
    PS X (.Raise (some (.Call (.Name x p) (e :: es) [] pos)) none spos) (tSX X.K X.mg P W' (sRaise x fs ms)) := by
  obtain ⟨C, hm, T⟩ := hT
  refine impS (ps_raise hc (Takes.good tk) (pmk_x T hsup hr hg hm ha hdb he hpl)) fun D σ H ⟨p0, T', env, sr, gd, q⟩ => ?_
  unfold sRaise at q
  cases h1 : evT ms env with
  | no => rw [h1] at q; exact q.elim
  | ex y e' => rw [h1] at q; exact q.elim
  | ok ds e1 =>
  rw [h1] at q
  replace q : PostX X.K X.mg P p0 T' e1 W' ⟨x, fs.zip ds⟩ := q
  refine ⟨p0, T', env, ds, e1, sr, gd, h1, fun vs H1 hd sr1 g1 => ?_⟩
  have hdl := evT_len h1
  have hvl := hd.length
  refine ⟨by omega, fun dx hn g2 => q σ _ _ (some dx) ?_ g2 ⟨⟨C, hm, rfl⟩, fun z => by cases z⟩⟩
  refine sr1.push (v := .ref dx) (w := .d (xD (fs.zip ds))) ((sr1.rels.laid hn).data ?_)
  rw [sr1.rels.laid_owned hn]
  have hk : X.K.lookup dx = none := by
    cases z : X.K.lookup dx with
    | none => rfl
    | some o => have := g2 dx o z; rw [upd_same] at this; cases this
  unfold xD
  simp only [Dat]
  refine ⟨dx, .bl true :: (fs.zip vs).map (·.2), rfl, .inr (.inr (.inl ⟨fs.zip vs, upd_same, ?_, rfl⟩)), sr1.rels.fresh hn, ?_⟩
  · simp only [List.map_cons, List.map_map]
    congr 1
    have key : ∀ {α : Type} (ys : List α), ys.length = fs.length → (fs.zip ys).map (fun p => PyData.str p.1) = fs.map PyData.str := fun ys hl => by
      rw [show (fun (p : Str × _) => PyData.str p.1) = PyData.str ∘ Prod.fst from rfl, ← List.map_map, List.map_fst_zip (by omega)]
    exact (key ds (by omega)).trans (key vs (by omega)).symm
  · simp only [Datk]
    refine ⟨.bl true, _, rfl, by simp [Dat], ?_⟩
    have hd2 := Dats.new (u := HO.xd (fs.zip vs)) hn hk ds vs hd
    exact datk_zip (hd2.to (fun _ _ _ z => z) fun a z => List.mem_cons_of_mem _ z)
end
end Mi
set_option Elab.async false
set_option linter.all false
set_option maxRecDepth 100000
set_option maxHeartbeats 4000000
/-! Mi38: defs that may raise as callees; try .. except X as e; what a handler may ask of e -/
namespace Mi
open PySem PySem.Spec PyProof.Rows L2

/-- a def that may raise: the name x, C's number c, n parameters -/
def CalX (P : Program) (w : World) (K : KK) (mg : Str → Option Value) (base : Heap) (lv : Nat) (C : Orc) (x : Str) (c n : Nat) : Prop :=
  ∃ (f : Addr) (fd : FuncData) (ps : List Str), mg x = some (.ref f) ∧ PySem.W.keepIn K (.ref f) = true ∧ Binds K fd ps [] ∧ FnGX P w K mg base lv f fd ps (spX K mg n (C c))
section
variable {X : Cx} {P : List Nat} {e : Expr} {lv : Nat} {W' : WX}
theorem pe_fnX {C : Orc} {c n : Nat} {x : Str} {p pos : Pos} {es : List Expr} {as : List Arg} (o : Ok X.A lv) (h : CalX X.prog X.w X.K X.mg X.base lv C x c n) (tk : Takes X W') (hn : as.length = n) (hg : Gl X x) (ha : PA X (e :: es) (tG X.K P as)) (hdb : (x == ("__debug__" : Str)) = false := by decide)
    (he : starEach (e :: es) X.env = (false, eval e X.env) :: starEach es X.env := by rfl) (hpl : (backTo pos (starEach es X.env)).any (·.1) = false := by rfl) : PE X (.Call (.Name x p) (e :: es) [] pos) (tEX X.K X.mg P W' (eCallX C c as)) := by
  obtain ⟨f, fd, ps, h1, h2, h3, h4⟩ := h
  exact pe_callMX h4 hn o.gd o.rm hg h1 h2 h3 tk ha hdb he hpl
theorem exOk {m : ME} (h : PE X e (tEX X.K X.mg P W' m)) : PE X e (tE X.K P m) := impE h fun σ H Q ⟨p0, T, env, w, env', sr, g, hm, q⟩ => ⟨p0, T, env, sr, g, by rw [hm]; exact q⟩
/-- a call that raises nothing here -/
theorem pe_fnC {C : Orc} {c n : Nat} {x : Str} {p pos : Pos} {es : List Expr} {as : List Arg} (o : Ok X.A lv) (h : CalX X.prog X.w X.K X.mg X.base lv C x c n) (hn : as.length = n) (hg : Gl X x) (ha : PA X (e :: es) (tG X.K P as)) (hdb : (x == ("__debug__" : Str)) = false := by decide)
    (he : starEach (e :: es) X.env = (false, eval e X.env) :: starEach es X.env := by rfl) (hpl : (backTo pos (starEach es X.env)).any (·.1) = false := by rfl) : PE X (.Call (.Name x p) (e :: es) [] pos) (tE X.K P (eCallX C c as)) :=
  exOk (pe_fnX o h takes_none5 hn hg ha hdb he hpl)
/-- what is evaluated first raises -/
def tXo (K : KK) (mg : Str → Option Value) (P : List Nat) (W' : WX) (m : ME) : TE := fun σ H _ => ∃ p0 T env x env', SR K P p0 T σ env H ∧ Good K H ∧ m env = .ex x env' ∧ ∀ H' cls d, SR K P p0 (xT d x ++ T) σ env' H' → Good K H' → XIs mg x cls d → W' cls d σ H'
theorem exX {m : ME} (h : PE X e (tEX X.K X.mg P W' m)) : PE X e (tXo X.K X.mg P W' m) := impE h fun σ H Q ⟨p0, T, env, x, env', sr, g, hm, q⟩ => ⟨p0, T, env, sr, g, by rw [hm]; exact q⟩
def eXF (m1 m : ME) : ME := fun e => match m1 e with
  | .ex x e' => .ex x e'
  | _ => cut (m e)
end
section
variable {P : Program} {w : World} {K : KK} {mg : Str → Option Value} {base : Heap} {x qual : Str} {params : Arguments} {body : List Stmt} {scope : Scope} {f : Addr} {fd : FuncData} {C : Orc} {c np : Nat} {ps : List Str} {dvs : List V} {kws : List (Str × V)}
theorem CalX.zero (hC : ∀ ws, C c ws = .no) (hm : mg x = some (.ref f)) (hk : PySem.W.keepIn K (.ref f) = true) (hb : Binds K fd ps []) (hn : ps.length = np) : CalX P w K mg base 0 C x c np := by
  refine ⟨f, fd, ps, hm, hk, hb, fun vs H Q E h => by rw [hn]; exact h.1, fun A outer s H args us vs Q E _ _ _ _ _ h => ?_⟩
  obtain ⟨_, T, ws, _, _, _, e⟩ := h
  rw [hC] at e
  exact e.elim
theorem CalX.succ {N : List Str} {k n : Nat} {Ps : List (List Nat)} {m : MS} (hm : mg x = some (.ref f)) (F : FunD K x qual params body scope dvs kws f fd) (hb : Binds K fd ps []) (S : FnScope N ps scope) (hn : ps.length = np) (hN : N.length = n) (hC : C c = runF np n Ps m)
    (hbody : ∀ (Pl : List Nat), Ps.contains Pl = true → ∀ (cdv : Value) (A : Around) (outer : List PySem.Env) (s : Shared) (H : Hp) (E : XK), Ok (A.deeper (envOfC qual scope s.heap.objs.size f cdv)) k →
      PSs (cxOf (L2.CX P w) P w K mg base N qual scope f cdv A outer s H E) body (tSX K mg Pl (fun cls d _ H => E cls d H) m)) : CalX P w K mg base (k + 1) C x c np :=
  ⟨f, fd, ps, hm, F.kp, hb, fnMX F S hn hN hC fun Pl hP cdv A outer s H E hg hr => hbody Pl hP cdv A outer s H E ⟨hg, hr⟩⟩
end

/-! ### the fields of an exception -/
section
variable {K : KK} {H : Hp} {O : List Addr}
theorem xd_at {xs : List (Str × D)} {v : V} (h : Dat K H O (xD xs) v) : ∃ dd fs, v = .ref dd ∧ H dd = some (.xd fs) ∧ fs.map (·.1) = xs.map (·.1) ∧ Dats K H O (xs.map (·.2)) (fs.map (·.2)) := by
  unfold xD at h
  simp only [Dat, List.map_cons, List.map_map] at h
  obtain ⟨a, vs, rfl, hm, _, hd⟩ := h
  rcases hm with ⟨u, h1, h2⟩ | ⟨c, dx, fs, h1, h2, _⟩ | ⟨fs, h1, h2, h3⟩ | ⟨lo, hi, h1, h2, _⟩
  · exfalso
    generalize hk : (PyData.bool true :: List.map ((fun x => x.1) ∘ fun p => (PyData.str p.1, p.2)) xs) = kk at h2
    cases h2 with
    | dK kvs =>
      cases kvs with
      | nil => cases hk
      | cons p r =>
        simp only [List.map_cons, List.cons.injEq] at hk
        obtain ⟨k, _⟩ := p
        cases k <;> cases hk.1
    | dT p kvs => simp only [List.map_cons, List.cons.injEq] at hk; cases hk.1
  · simp only [List.cons.injEq] at h2; cases h2.1
  · simp only [List.cons.injEq, true_and] at h2
    subst h3
    simp only [Datk] at hd
    obtain ⟨v, r, e, hb, hr⟩ := hd
    simp only [List.cons.injEq] at e
    obtain ⟨_, rfl⟩ := e
    refine ⟨a, fs, rfl, h1, ?_, ?_⟩
    · have : ∀ {l1 : List (Str × D)} {l2 : List (Str × V)}, l1.map ((fun x => x.1) ∘ fun p => (PyData.str p.1, p.2)) = l2.map (fun p => PyData.str p.1) → l2.map (·.1) = l1.map (·.1) := by
        intro l1
        induction l1 with
        | nil => intro l2 h; cases l2 with
          | nil => rfl
          | cons _ _ => cases h
        | cons p l1 ih => intro l2 h; cases l2 with
          | nil => cases h
          | cons q l2 =>
            simp only [List.map_cons, List.cons.injEq, Function.comp_apply, PyData.str.injEq] at h
            simp only [List.map_cons, h.1]
            rw [ih h.2]
      exact this h2
    · clear h1 h2 hb
      generalize fs.map (·.2) = vs at hr
      induction xs generalizing vs with
      | nil => simpa [Datk, Dats] using hr
      | cons p xs ih =>
        simp only [List.map_cons, Datk] at hr
        obtain ⟨v, r, rfl, h1, h2⟩ := hr
        exact ⟨v, r, rfl, h1, ih r h2⟩
  · simp only [List.cons.injEq] at h2; cases h2.1
theorem xd_get : ∀ {xs : List (Str × D)} {fs : List (Str × V)}, fs.map (·.1) = xs.map (·.1) → Dats K H O (xs.map (·.2)) (fs.map (·.2)) → ∀ {f : Str} {d : D}, xs.lookup f = some d → ∃ v, fs.lookup f = some v ∧ Dat K H O d v
  | [], _, _, _, _, _, h => by cases h
  | (g, y) :: xs, [], hn, _, _, _, _ => by cases hn
  | (g, y) :: xs, (g', v) :: fs, hn, hd, f, d, h => by
    simp only [List.map_cons, List.cons.injEq, Dats] at hn hd
    obtain ⟨rfl, hn⟩ := hn
    obtain ⟨v', r, e, h1, h2⟩ := hd
    obtain ⟨rfl, rfl⟩ := e
    rw [lookup_put]
    have hl : (((g', y) :: xs).lookup f) = if f = g' then some y else xs.lookup f := by
      by_cases e : f = g'
      · subst e; simp [List.lookup]
      · have e2 : (f == g') = false := by simpa using e
        rw [if_neg e]; simp [List.lookup, e2]
    rw [hl] at h
    by_cases e : f = g'
    · rw [if_pos e] at h ⊢
      cases h
      exact ⟨v, rfl, h1⟩
    · rw [if_neg e] at h ⊢
      exact xd_get hn h2 h
end

/-! ### what a handler asks of the exception it holds -/
/-- what the written part says of a class that may be caught -/
structure XkC (K : KK) (C : Addr) : Prop where
  e : ExcC K C
  c : (PySem.W.clsIn K C).isSome = true
abbrev HE := Exn → Option W
def tHE (K : KK) (mg : Str → Option Value) (P : List Nat) (i : Nat) (a : Addr) (cls : Value) (d : Option Addr) (x : Exn) (h : HE) : TE := fun σ H Q => σ[i]? = some (some (.ref a)) ∧ ∃ p0 T env w, SR K P p0 (xT d x ++ T) σ env H ∧ Good K H ∧ h x = some w ∧
  ∀ v H', SR K P p0 ((v, w) :: (xT d x ++ T)) σ env H' → Good K H' → Q v H'
def hC (dd : D) : HE := fun _ => some (.d dd)
def hF (f : Str) : HE := fun x => (x.fs.lookup f).map W.d
section
variable {X : Cx} {a : Addr} {oe : Obj} {cls : Value} {d : Option Addr} {pn : List (Addr × Obj)} {P : List Nat} {i : Nat} {x : Exn} {e : Expr} {es : List Expr} {pos : Pos}
theorem mkHE {t : TE} {h : HE} (he : PE X e t) (k : ∀ (p0 : L2.St) (T : List (V × W)) (σ : L2.St) (env : Env) (H : Hp) (w : W) (Q : VK), σ[i]? = some (some (.ref a)) → SR X.K P p0 (xT d x ++ T) σ env H → Good X.K H → h x = some w →
      (∀ v H', (Good X.K H' → SR X.K P p0 ((v, w) :: (xT d x ++ T)) σ env H') → Q v H') → t σ H Q) : PE X e (tHE X.K X.mg P i a cls d x h) := by
  refine ⟨fun pins s σ H Q I hq => ?_⟩
  obtain ⟨hi, p0, T, env, w, sr, g, hm, hQ⟩ := hq
  refine thn (he.run pins s σ H (fun v H' => Good X.K H' → Q v H') I (k p0 T σ env H w _ hi sr g hm fun v H' q g' => hQ v H' (q g') g')) ?_
  rintro u s' ⟨v, H', I', r, q⟩
  exact ⟨v, H', I', r, q (inv_good I')⟩
theorem he_f {n : Str} (hz : Zc cls d oe) (hf : ∃ vs, oe.data = .fields vs) (hx : XIs X.mg x cls d) (hk : ∀ C, X.mg x.cls = some (.ref C) → XkC X.K C ∧ PySem.W.findIn X.K (.ref C) n = some none) (he : PE (X.suite a ((a, oe) :: pn)) e (tVar i)) (hb : attributeBase e n X.env (eval e X.env) = eval e X.env := by rfl) :
    PE (X.suite a ((a, oe) :: pn)) (.Attribute e n pos) (tHE X.K X.mg P i a cls d x (hF n)) := by
  obtain ⟨⟨C, hC, rfl⟩, hd⟩ := hx
  obtain ⟨⟨k, hcls⟩, hno⟩ := hk C hC
  refine mkHE (X := X.suite a ((a, oe) :: pn)) (pe_xf (C := C) ⟨k.hg, k.hk, k.hs, k.hd⟩ hno hz hf he hb) fun p0 T σ env H w Q hi sr g hm hQ => ?_
  obtain ⟨dv, hl, rfl⟩ := Option.map_eq_some_iff.mp hm
  refine ⟨.ref a, hi, rfl, rfl, ?_⟩
  cases d with
  | none => rw [hd rfl] at hl; cases hl
  | some dd =>
    have h1 : Dat X.K H (owned H (pr σ env ++ T)) (xD x.fs) (.ref dd) := SR.dat sr
    obtain ⟨dd', fs, e1, h2, h3, h4⟩ := xd_at h1
    cases e1
    obtain ⟨v, h5, h6⟩ := xd_get h3 h4 hl
    refine ⟨dd, fs, v, rfl, h2, h5, hQ v H fun _ => sr.push (sr.rels.data (h6.to (fun _ _ _ z => z) fun b z => ?_))⟩
    have pp : (pr σ env ++ (V.ref dd, W.d (xD x.fs)) :: T).Perm ((V.ref dd, W.d (xD x.fs)) :: (pr σ env ++ T)) := List.perm_middle
    have := (ownedM H pp).mp z
    rwa [owned_d] at this
end
end Mi
set_option Elab.async false
set_option linter.all false
set_option maxRecDepth 100000
set_option maxHeartbeats 4000000
/-! Mi39: handlers, try -/
namespace Mi
open PySem PySem.Spec PyProof.Rows L2

def hAll : List HE → Exn → Option (List D)
  | [], _ => some []
  | h :: hs, x => match h x with
    | some w => (match hAll hs x with
      | some ds => some (vw w :: ds)
      | none => none)
    | none => none
def hTup (hs : List HE) : HE := fun x => (hAll hs x).map fun ds => .d (.tuple ds)
def hLst (hs : List HE) : HE := fun x => (hAll hs x).map W.l
/-- isinstance(e, C), by a table of classes -/
def hIs (tb : List (Str × Bool)) : HE := fun x => (tb.lookup x.cls).map fun b => .d (.bool b)
def hAnd (h1 h2 : HE) : HE := fun x => match h1 x with
  | some (.d (.bool true)) => h2 x
  | some (.d (.bool false)) => some (.d (.bool false))
  | _ => none
def hInt (h : HE) : HE := fun x => match h x with
  | some (.d (.bool b)) => some (.d (.int (if b then 1 else 0)))
  | _ => none
def hMul (h1 h2 : HE) : HE := fun x => match h1 x, h2 x with
  | some (.d (.int i)), some (.d (.int j)) => if -18446744073709551616 < j ∧ j < 18446744073709551616 then some (.d (.int (i * j))) else none
  | _, _ => none
def tHA (K : KK) (mg : Str → Option Value) (P : List Nat) (i : Nat) (a : Addr) (cls : Value) (d : Option Addr) (x : Exn) (hs : List HE) : TA := fun σ H Q => σ[i]? = some (some (.ref a)) ∧ ∃ p0 T env ds, SR K P p0 (xT d x ++ T) σ env H ∧ Good K H ∧ hAll hs x = some ds ∧
  ∀ vs H', Dats K H' (owned H' (pr σ env ++ (xT d x ++ T))) ds vs → SR K P p0 (xT d x ++ T) σ env H' → Good K H' → Q vs H'
section
variable {X : Cx} {a : Addr} {oe : Obj} {cls : Value} {d : Option Addr} {pn : List (Addr × Obj)} {P : List Nat} {i : Nat} {x : Exn} {e : Expr} {es : List Expr} {pos : Pos}
/-- isinstance of the exception that the suite holds, with a dict or without -/
theorem call_isX {D : Addr} (C : XkC X.K D) (hz : Zc (.ref D) d oe) (hf : ∃ vs, oe.data = .fields vs) : CallR (X.suite a ((a, oe) :: pn)) (.builtin "isinstance") (fun xs H Q => ∃ (c : V) (cv : Value) (b : Bool), xs = [.ref a, c] ∧ (∀ u, RelV c u → u = cv) ∧ PySem.W.kitOne X.K (.ref D) cv = some b ∧ (∀ dd, d = some dd → ∃ fs, H dd = some (.xd fs)) ∧ Q (.bl b) H) := by
  intro pins s σ H xs us Q I r h
  obtain ⟨c, cv, b, rfl, hcv, e, hdd, q⟩ := h
  cases r with
  | cons rx rr =>
    cases rr with
    | cons rt rr =>
      cases rr
      cases rx
      have ec := hcv _ rt
      subst ec
      obtain ⟨hget, _⟩ := I.pin (a, oe) (List.mem_append.mpr (.inl List.mem_cons_self))
      obtain ⟨vs, hv⟩ := hf
      have J : ∃ od, PySem.W.InstAt s.heap a oe D od := by
        obtain ⟨oc, odd, oda, osl⟩ := oe
        obtain ⟨h1, h2⟩ := hz
        dsimp only at h1 h2 hv
        subst h1 h2 hv
        cases odd with
        | none => exact ⟨none, hget, rfl, rfl, trivial⟩
        | some dd =>
          obtain ⟨fs, hfs⟩ := hdd dd rfl
          have hx : ObjOk X.prog X.w H s.heap dd (.xd fs) := I.hok dd _ hfs
          obtain ⟨mA, ⟨od, _, _, ho, _⟩, _⟩ := hx
          exact ⟨some od, hget, rfl, rfl, ho⟩
      obtain ⟨od, J⟩ := J
      exact PySem.W.kia_one (PySem.W.kitx_exc C.c C.e.hg C.e.hk C.e.hs C.e.ha C.e.hn C.e.ht C.e.hm) I.kIn J e (fun z => nomatch z) fun tk => ⟨.bl b, H, I.kept (t' := tk) fun _ _ z => z, rfl, q⟩
theorem he_is {tb : List (Str × Bool)} {c : V} {cv : Value} {p : Pos} {e2 : Expr} (hg : Gl X "isinstance") (hm : X.mg "isinstance" = none) (hz : Zc cls d oe) (hf : ∃ vs, oe.data = .fields vs) (hx : XIs X.mg x cls d) (hcv : ∀ u, RelV c u → u = cv)
    (hk : ∀ C, X.mg x.cls = some (.ref C) → XkC X.K C ∧ ∀ b, tb.lookup x.cls = some b → PySem.W.kitOne X.K (.ref C) cv = some b) (h1 : PE (X.suite a ((a, oe) :: pn)) e (tVar i)) (h2 : PE (X.suite a ((a, oe) :: pn)) e2 (tC c))
    (hpl : (backTo pos (starEach [e2] X.env)).any (·.1) = false := by rfl) (he : starEach [e, e2] X.env = (false, eval e X.env) :: starEach [e2] X.env := by rfl) (he2 : starEach [e2] X.env = (false, eval e2 X.env) :: starEach [] X.env := by rfl) :
    PE (X.suite a ((a, oe) :: pn)) (.Call (.Name "isinstance" p) [e, e2] [] pos) (tHE X.K X.mg P i a cls d x (hIs tb)) := by
  obtain ⟨⟨C, hC, rfl⟩, hd⟩ := hx
  obtain ⟨k, hkit⟩ := hk C hC
  refine mkHE (X := X.suite a ((a, oe) :: pn)) (pe_callB (call_isX k hz hf) hg hm (by decide +kernel) (pa_cons h1 (pa_cons h2 pa_nil he2) he) (by decide) (by decide) he hpl) fun p0 T σ env H w Q hi sr g hm hQ => ?_
  obtain ⟨b, hl, rfl⟩ := Option.map_eq_some_iff.mp hm
  refine ⟨.ref a, hi, c, cv, b, rfl, hcv, hkit b hl, fun dd e => ?_, hQ _ H fun _ => sr.push (sr.rels.data (by simp [Dat]))⟩
  subst e
  have h1 : Dat X.K H (owned H (pr σ env ++ T)) (xD x.fs) (.ref dd) := SR.dat sr
  obtain ⟨dd', fs, e1, h2, _⟩ := xd_at h1
  cases e1
  exact ⟨fs, h2⟩
end

/-! ### statements of a handler -/
def tHS (K : KK) (P : List Nat) (i : Nat) (a : Addr) (d : Option Addr) (x : Exn) (m : MS) : TS := fun D σ H => σ[i]? = some (some (.ref a)) ∧ ∃ p0 T env, SR K P p0 (xT d x ++ T) σ env H ∧ Good K H ∧ match m env with
  | .ok o env' => PostS K P p0 T env' D o
  | _ => False
def hRet (h : HE) : Exn → MS := fun x e => match h x with
  | some w => .ok (.rt (.d (vw w))) e
  | none => .no
def sTry (m : MS) (i : Nat) (tb : List (Str × Bool)) (h : Exn → MS) : MS := fun e => match m e with
  | .ok o e1 => .ok o e1
  | .ex x e1 => (match tb.lookup x.cls with
    | some true => (match h x (e1.set i none) with
      | .ok o e2 => .ok o (e2.set i none)
      | _ => .no)
    | some false => .ex x e1
    | none => .no)
  | .no => .no
section
variable {K : KK} {P : List Nat} {p0 : L2.St} {T : List (V × W)} {σ : L2.St} {env : Env} {H : Hp}
theorem SR.put0 (h : SR K P p0 T σ env H) {i : Nat} {v : V} (hi : i < σ.length) (hP : i ∉ P) : SR K P p0 T (σ.set i (some v)) (env.set i none) H := by
  obtain ⟨A, B, h1, h2⟩ := pr_set hi h.len
  refine ⟨?_, by simp [h.len], by simp [h.len0], fun j x e => ?_, fun j hj => ?_⟩
  · rw [h2]
    have q := h.rels
    rw [h1] at q
    refine q.sub ?_
    simp only [pc, List.nil_append]
    exact List.Sublist.append_right (List.Sublist.append_left (List.sublist_append_right _ _) _) _
  · rw [set_getD] at e
    split at e
    · cases e
    · rename_i z
      obtain ⟨u, hu⟩ := h.cov j x e
      have ne : i ≠ j := fun q => z ⟨q, by rw [← h.len]; exact hi⟩
      exact ⟨u, by rw [List.getElem?_set_ne ne]; exact hu⟩
  · have ne : i ≠ j := fun q => hP (q ▸ hj)
    rw [List.getElem?_set_ne ne, set_getD, if_neg (fun q => ne q.1)]
    exact h.par j hj
end
section
variable {X : Cx} {a : Addr} {oe : Obj} {cls : Value} {d : Option Addr} {pn : List (Addr × Obj)} {P : List Nat} {i : Nat} {x : Exn} {e : Expr} {es : List Expr} {pos : Pos} {W' : WX}
theorem hs_one {st : Stmt} {m : MS} (h : PS X st (tHS X.K P i a d x m)) : PSs X [st] (tHS X.K P i a d x m) := pss_one h
/-- a statement that lets nothing out here -/
theorem sxOk {st : Stmt} {m : MS} (h : PS X st (tSX X.K X.mg P W' m)) : PS X st (tS X.K P m) := impS h fun D σ H ⟨p0, T, env, o, env', sr, g, hm, q⟩ => ⟨p0, T, env, sr, g, by rw [hm]; exact q⟩
end
end Mi
set_option Elab.async false
set_option linter.all false
set_option maxRecDepth 100000
set_option maxHeartbeats 4000000
/-! Mi40: the head's facts of exception classes -/
namespace Mi
open PySem PySem.Spec PyProof.Rows L2 He

abbrev FnX : Type := Option (Str × Str × Arguments × FuncBody × Scope × Addr × List Str × Addr)
def fnXi (K : KK) (p : Str × Option Str) : FnX := match K.lookup (fAd K p) with
  | some ⟨_, _, .func fd, _⟩ => some (fd.name, fd.qualname, fd.params, fd.body, fd.scope, fd.globals, fd.closure.map (·.1), fd.builtins)
  | _ => none
/-- an exception class cls, whose __init__ stands in the class own -/
structure XDef where
  cls : Str
  own : Str
  qual : Str
  params : Arguments
  body : List Stmt
  scope : Scope
  fs : List Str
def XDef.at_ (d : XDef) : Str × Option Str := (d.cls, some "__init__")
def XDef.val (d : XDef) : FnX := some ("__init__", d.qual, d.params, .stmts d.body, d.scope, mainGlobals, ["__class__"], builtinsNs)
def xkB (K : KK) (C : Addr) : Bool := eqO (PySem.W.findIn K (.ref C) "__getattribute__") (some (some (.builtin "BaseException.__getattribute__"))) && (eqO (PySem.W.findIn K (.ref C) "__getattr__") (some none) && (decide (PySem.W.subIn K (.ref C) (.type "BaseException") = some true) &&
  (PySem.W.hasDictIn K C && (eqO (PySem.W.findIn K (.ref C) "__class__") (some (some (.builtin "object.__class__"))) && (eqO (PySem.W.specialIn K (.builtin "object.__class__") "__get__") (some (some (.builtin "getset_descriptor.__get__"))) &&
  (decide (PySem.W.takesIn K (.builtin "object.__class__") = some true) && (decide (PySem.W.mroIn K C (.type "object") = some true) && (PySem.W.clsIn K C).isSome)))))))
theorem xkB_ok {K : KK} {C : Addr} (h : xkB K C = true) : XkC K C := by
  obtain ⟨h1, h⟩ := ba h
  obtain ⟨h2, h⟩ := ba h
  obtain ⟨h3, h⟩ := ba h
  obtain ⟨h4, h⟩ := ba h
  obtain ⟨h5, h⟩ := ba h
  obtain ⟨h6, h⟩ := ba h
  obtain ⟨h7, h⟩ := ba h
  obtain ⟨h8, h9⟩ := ba h
  exact ⟨⟨eqO_ok h1, eqO_ok h2, of_decide_eq_true h3, h4, eqO_ok h5, eqO_ok h6, of_decide_eq_true h7, of_decide_eq_true h8⟩, h9⟩
def cdB (K : KK) (C : Addr) : Bool := match PySem.W.clsIn K C with
  | some cd => PySem.HandSPX.refsVE cd.mro && cd.hasDict
  | none => false
def codeB (K : KK) (v : Value) (qual file : Str) : Bool := match v with
  | .ref cda => PySem.W.codeIn K (.ref cda) qual && (match K.lookup cda with
    | some ⟨_, _, .fields vs, _⟩ => (match (vs[2]? : Option Value) with
      | some (.str f _) => decide (f = file)
      | _ => false)
    | _ => false)
  | _ => false
def cellB (K : KK) (D : Addr) (cl : List (Str × Addr)) : Bool := match cl with
  | [(x, cc)] => decide (x = "__class__") && (match K.lookup cc with
    | some ⟨_, _, .cell (some (.ref E)), _⟩ => decide (E = D)
    | _ => false)
  | _ => false
theorem codeB_ok {K : KK} {v : Value} {qual file : Str} (h : codeB K v qual file = true) : ∃ (cda : Addr) (oc : Value) (od : Option Addr) (vs : Array Value) (os : Array (Option Value)) (tf : Tok), v = .ref cda ∧ PySem.W.codeIn K (.ref cda) qual = true ∧ K.lookup cda = some ⟨oc, od, .fields vs, os⟩ ∧ vs[2]? = some (.str file tf) := by
  cases v with
  | ref cda =>
    obtain ⟨h1, h2⟩ := ba (show (PySem.W.codeIn K (.ref cda) qual && _) = true from h)
    cases q : K.lookup cda with
    | none => rw [q] at h2; cases h2
    | some o =>
      obtain ⟨oc, od, dt, os⟩ := o
      rw [q] at h2
      cases dt with
      | fields vs =>
        dsimp only at h2
        cases q2 : (vs[2]? : Option Value) with
        | none => rw [q2] at h2; cases h2
        | some u =>
          rw [q2] at h2
          cases u with
          | str f tf =>
            have : f = file := of_decide_eq_true h2
            subst this
            exact ⟨cda, oc, od, vs, os, tf, rfl, h1, q, q2⟩
          | _ => cases h2
      | _ => cases h2
  | _ => cases h
theorem cellB_ok {K : KK} {D : Addr} {cl : List (Str × Addr)} (h : cellB K D cl = true) : ∃ (cc : Addr) (oc : Value) (od : Option Addr) (os : Array (Option Value)), cl = [(("__class__" : Str), cc)] ∧ K.lookup cc = some ⟨oc, od, .cell (some (.ref D)), os⟩ := by
  match cl, h with
  | [(x, cc)], h =>
    obtain ⟨h1, h2⟩ := ba (show (decide (x = ("__class__" : Str)) && _) = true from h)
    have hx : x = ("__class__" : Str) := of_decide_eq_true h1
    subst hx
    cases q : K.lookup cc with
    | none => rw [q] at h2; cases h2
    | some o =>
      obtain ⟨oc, od, dt, os⟩ := o
      rw [q] at h2
      cases dt with
      | cell c =>
        cases c with
        | none => cases h2
        | some u =>
          cases u with
          | ref E =>
            have : E = D := of_decide_eq_true h2
            subst this
            exact ⟨cc, oc, od, os, rfl, q⟩
          | _ => cases h2
      | _ => cases h2
def noneB (v : Value) : Bool := match v with
  | .none => true
  | _ => false
def XDef.ok (K : KK) (file : Str) (d : XDef) : Bool :=
  PySem.W.excInitIn K (ga K d.cls) veBase "ValueError.__new__" && (cdB K (ga K d.cls) && (eqO (PySem.W.findIn K (.ref (ga K d.cls)) "__setattr__") (some (some (.builtin "object.__setattr__"))) && (decide (PySem.W.subIn K (.ref (ga K d.cls)) (.type "BaseException") = some true) &&
  (decide (PySem.W.subIn K (.ref (ga K d.cls)) (.type "ValueError") = some true) && (decide (PySem.W.typeIn K (.ref (ga K d.cls)) = some (.type "type")) && (PySem.W.keepIn K (.ref (ga K d.cls)) && ((d.fs.all fun f => eqO (PySem.W.findIn K (.ref (ga K d.cls)) f) (some none)) &&
  (eqO (PySem.W.nsIn K cStatics "thirdparty.any") (some none) && (eqO (PySem.W.findIn K (.ref (ga K d.cls)) "__init__") (some (some (.ref (fAd K d.at_)))) && (decide (PySem.W.typeIn K (.ref (fAd K d.at_)) = some (.type "function")) && ((PySem.W.clsIn K (ga K d.own)).isSome &&
  (decide (PySem.W.mroIn K (ga K d.cls) (.ref (ga K d.own)) = some true) && (eqO (PySem.W.ks_superIn K (ga K d.cls) (ga K d.own) "__init__") (some (some (.builtin "ValueError.__init__"))) && (xkB K (ga K d.cls) && (match K.lookup (fAd K d.at_) with
  | some ⟨_, _, .func fd, _⟩ => codeB K fd.code d.qual file && (noneB fd.defaults && cellB K (ga K d.own) fd.closure)
  | _ => false)))))))))))))))
theorem XDef.xc {K : KK} {P : Program} {file : Str} {d : XDef} (e : fnXi K d.at_ = d.val) (c : d.ok K file = true) (S : XcT P d.fs d.params d.body d.scope) (hfile : ((P.main.file : Str) == file) = true) : Xc K P (ga K d.cls) d.fs ∧ XkC K (ga K d.cls) := by
  obtain ⟨h1, c⟩ := ba c
  obtain ⟨h2, c⟩ := ba c
  obtain ⟨h3, c⟩ := ba c
  obtain ⟨h4, c⟩ := ba c
  obtain ⟨h5, c⟩ := ba c
  obtain ⟨h6, c⟩ := ba c
  obtain ⟨h7, c⟩ := ba c
  obtain ⟨h8, c⟩ := ba c
  obtain ⟨h9, c⟩ := ba c
  obtain ⟨h10, c⟩ := ba c
  obtain ⟨h11, c⟩ := ba c
  obtain ⟨h12, c⟩ := ba c
  obtain ⟨h13, c⟩ := ba c
  obtain ⟨h14, c⟩ := ba c
  obtain ⟨h15, c⟩ := ba c
  refine ⟨⟨h1, ?_, eqO_ok h3, of_decide_eq_true h4, of_decide_eq_true h5, of_decide_eq_true h6, h7, fun f hf => eqO_ok (List.all_eq_true.mp h8 f hf), eqO_ok h9, ?_⟩, xkB_ok h15⟩
  · unfold cdB at h2
    cases q : PySem.W.clsIn K (ga K d.cls) with
    | none => rw [q] at h2; cases h2
    | some cd =>
      rw [q] at h2
      obtain ⟨h21, h22⟩ := ba h2
      exact ⟨cd, rfl, h21, h22⟩
  · obtain ⟨cdD, hcd⟩ := Option.isSome_iff_exists.mp h12
    unfold fnXi at e
    cases q : K.lookup (fAd K d.at_) with
    | none => rw [q] at c; cases c
    | some o =>
      obtain ⟨oc, od, dt, osl⟩ := o
      rw [q] at c e
      cases dt with
      | func fd =>
        obtain ⟨n1, n2, n3, n4, n5, n6, n7, n8, n9, n10, n11, n12, n13, n14, n15⟩ := fd
        have e2 : (some (n1, n2, n3, n4, n5, n6, n7.map (·.1), n15) : FnX) = some (("__init__" : Str), d.qual, d.params, FuncBody.stmts d.body, d.scope, mainGlobals, [("__class__" : Str)], builtinsNs) := e
        simp only [Option.some.injEq, Prod.mk.injEq] at e2
        obtain ⟨g1, g2, g3, g4, g5, g6, g7, g8⟩ := e2
        subst g1 g2 g3 g4 g5 g6 g8
        have c3 : (codeB K n13 d.qual file && (noneB n8 && cellB K (ga K d.own) n7)) = true := c
        obtain ⟨k1, k2⟩ := ba c3
        obtain ⟨k3, k4⟩ := ba k2
        obtain ⟨cda, oc1, od1, vs, os1, tf, rfl, k5, k6, k7⟩ := codeB_ok k1
        obtain ⟨cc, oc2, od2, os2, rfl, k8⟩ := cellB_ok k4
        cases n8 with
        | none => exact ⟨fAd K d.at_, ga K d.own, cc, cda, d.qual, d.params, d.body, d.scope, _, _, _, _, _, _, _, _, _, _, _, _, _, _, vs, file, tf, cdD, _, S, eqO_ok h10, of_decide_eq_true h11, q, k5, k6, k7, hfile, k8, hcd, of_decide_eq_true h13, eqO_ok h14⟩
        | _ => cases k3
      | _ => cases c
/-! ### the hook -/
def kOf (n : Nat) (g : Addr → Option Obj) : KK := frT g (cStatics :: asD g n)
abbrev AlY : Type := AlT × List FnX × Bool
def obsY (n : Nat) (fa : List Fa) (fn : List DefD) (xs : List XDef) (file : Str) (ex : KK → Bool) (g : Addr → Option Obj) : AlY := (obsT fa fn [] (kOf n g), xs.map (fun d => fnXi (kOf n g) d.at_), (xs.all fun d => d.ok (kOf n g) file) && ex (kOf n g))
structure SaysY (fa : List Fa) (fn : List DefD) (xs : List XDef) (file : Str) (ex : KK → Bool) (w : World) (K : KK) : Prop where
  t : SaysT fa fn [] w K
  x : xs.map (fun d => fnXi K d.at_) = xs.map XDef.val
  ok : (xs.all fun d => d.ok K file) = true
  more : ex K = true
def hookY (n : Nat) (fa : List Fa) (fn : List DefD) (xs : List XDef) (file : Str) (ex : KK → Bool) : PySem.W.Hook where
  α := AlY
  obs := fun s => obsY n fa fn xs file ex s.heap.get?
  val := fun w => (valT fn [] w, xs.map XDef.val, true)
  says := fun w h => ∃ K : KK, K.In h ∧ SaysY fa fn xs file ex w K
  of := fun _ _ e => ⟨_, frT_in, by
    have e1 := congrArg (fun z : AlY => z.1) e
    have e2 := congrArg (fun z : AlY => z.2.1) e
    have e3 := congrArg (fun z : AlY => z.2.2) e
    obtain ⟨e4, e5⟩ := ba e3
    exact ⟨e1, e2, e4, e5⟩⟩
  keeps := fun _ _ _ ⟨K, hK, c⟩ k => ⟨K, PySem.W.Frag.In.keeps hK k, c⟩
theorem obsY_eq {n : Nat} {fa : List Fa} {fn : List DefD} {xs : List XDef} {file : Str} {ex : KK → Bool} {g : Addr → Option Obj} {s : Shared} (h : ∀ a, g a = s.heap.get? a) : obsY n fa fn xs file ex g = (hookY n fa fn xs file ex).obs s := by
  have e : g = s.heap.get? := funext h
  rw [e] <;> rfl
theorem SaysY.xc {fa : List Fa} {fn : List DefD} {xs : List XDef} {file : Str} {ex : KK → Bool} {w : World} {K : KK} {P : Program} (c : SaysY fa fn xs file ex w K) (i : Nat) {d : XDef} (h : xs[i]? = some d) (S : XcT P d.fs d.params d.body d.scope) (hfile : ((P.main.file : Str) == file) = true) :
    Xc K P (ga K d.cls) d.fs ∧ XkC K (ga K d.cls) := by
  have e2 : (xs.map fun d => fnXi K d.at_)[i]? = (xs.map XDef.val)[i]? := by rw [c.x]
  rw [List.getElem?_map, List.getElem?_map, h] at e2
  exact XDef.xc (Option.some.inj e2) (List.all_eq_true.mp c.ok d (List.mem_of_getElem? h)) S hfile
/-- a handler's table -/
def tbB (K : KK) (c : Str) (tb : List (Str × Bool)) : Bool := tb.all fun p => decide (PySem.W.exmOne K (.ref (ga K p.1)) (.ref (ga K c)) = some p.2)
/-- isinstance's table, of an own class -/
def isB (K : KK) (c : Str) (tb : List (Str × Bool)) : Bool := tb.all fun p => decide (PySem.W.kitOne K (.ref (ga K p.1)) (.ref (ga K c)) = some p.2)
/-- .. of a built-in class -/
def isTB (K : KK) (c : String) (tb : List (Str × Bool)) : Bool := tb.all fun p => decide (PySem.W.kitOne K (.ref (ga K p.1)) (.type c) = some p.2)
theorem gref {K : KK} {h : Heap} {mg : Str → Option Value} (X : K.In h) (G : h.Ns mainGlobals mg) {x : Str} (c : (Fa.glo x).ok K = true) {D : Addr} (e : mg x = some (.ref D)) : D = ga K x := by
  rw [glo_ok X G c] at e
  cases e; rfl
end Mi
set_option Elab.async false
set_option linter.all false
set_option maxRecDepth 100000
set_option maxHeartbeats 4000000
/-! Mi41: short words for printed derivations of what may raise -/
namespace Mi
open PySem PySem.Spec PyProof.Rows L2 He
section
variable {X : Cx} {P : List Nat} {e : Expr} {es : List Expr} {pos : Pos} {W' : WX}
end
section
variable {K : KK} {P : Program} {mg : Str → Option Value} {fs : List Str} {y z f : Str} {ys : List Str} {tb tb2 : List (Str × Bool)} {R : Str → Prop}
theorem hx1 (h : ∃ C : Addr, mg y = some (.ref C) ∧ Xc K P C fs ∧ XkC K C) : ∃ C : Addr, mg y = some (.ref C) ∧ Xc K P C fs := let ⟨C, h1, h2, _⟩ := h; ⟨C, h1, h2⟩
theorem hk_of (hys : (tb.filter (·.2)).map (·.1) = ys) (hl : tb.lookup z = some true) (h : ∀ y ∈ ys, R y) : R z := h z (by
  rw [← hys]
  exact List.mem_map.mpr ⟨(z, true), List.mem_filter.mpr ⟨PySem.mem_of_lookup hl, rfl⟩, rfl⟩)
theorem hk_nil : ∀ y ∈ ([] : List Str), R y := fun _ h => nomatch h
theorem hk_cons (h : R y) (hs : ∀ z ∈ ys, R z) : ∀ z ∈ y :: ys, R z := fun z hz => by
  rcases List.mem_cons.mp hz with rfl | hz
  · exact h
  · exact hs z hz
theorem hk_f (h : ∃ C : Addr, mg y = some (.ref C) ∧ Xc K P C fs ∧ XkC K C) (hf : f ∈ fs) : ∀ C : Addr, mg y = some (.ref C) → XkC K C ∧ PySem.W.findIn K (.ref C) f = some none := fun C e => by
  obtain ⟨D, h1, h2, h3⟩ := h
  rw [h1] at e
  cases e
  exact ⟨h3, h2.nof f hf⟩
theorem hk_c (h : ∃ C : Addr, mg y = some (.ref C) ∧ Xc K P C fs ∧ XkC K C) : ∀ C : Addr, mg y = some (.ref C) → XkC K C := fun C e => by
  obtain ⟨D, h1, h2, h3⟩ := h
  rw [h1] at e
  cases e
  exact h3
theorem hk_is {cv : Value} (hys : (tb.filter (·.2)).map (·.1) = ys) (hl : tb.lookup z = some true) (h : ∀ y ∈ ys, ∀ C : Addr, mg y = some (.ref C) → XkC K C) (hb : ∀ (y : Str) (b : Bool), tb2.lookup y = some b → ∀ D : Addr, mg y = some (.ref D) → PySem.W.kitOne K (.ref D) cv = some b) :
    ∀ C : Addr, mg z = some (.ref C) → XkC K C ∧ ∀ b, tb2.lookup z = some b → PySem.W.kitOne K (.ref C) cv = some b := fun C e =>
  ⟨hk_of (R := fun y => ∀ C : Addr, mg y = some (.ref C) → XkC K C) hys hl h C e, fun b hb' => hb z b hb' C e⟩
theorem rv_ref {C : Addr} : ∀ u, RelV (.ref C) u → u = .ref C := fun _ h => h
theorem rv_ty {n : String} : ∀ u, RelV (.ty n) u → u = .type n := fun _ h => h
section
variable {h : Heap} {H : Str}
theorem tb_ok (X : K.In h) (G : h.Ns mainGlobals mg) (m : tbB K H tb = true) (hg : ∀ y ∈ tb.map (·.1), (Fa.glo y).ok K = true) : ∀ (y : Str) (b : Bool), tb.lookup y = some b → ∀ D : Addr, mg y = some (.ref D) → PySem.W.exmOne K (.ref D) (.ref (ga K H)) = some b := fun y b hl D e => by
  have hm := PySem.mem_of_lookup hl
  rw [gref X G (hg y (List.mem_map.mpr ⟨_, hm, rfl⟩)) e]
  exact of_decide_eq_true (List.all_eq_true.mp m _ hm)
theorem is_ok (X : K.In h) (G : h.Ns mainGlobals mg) (m : isB K H tb = true) (hg : ∀ y ∈ tb.map (·.1), (Fa.glo y).ok K = true) : ∀ (y : Str) (b : Bool), tb.lookup y = some b → ∀ D : Addr, mg y = some (.ref D) → PySem.W.kitOne K (.ref D) (.ref (ga K H)) = some b := fun y b hl D e => by
  have hm := PySem.mem_of_lookup hl
  rw [gref X G (hg y (List.mem_map.mpr ⟨_, hm, rfl⟩)) e]
  exact of_decide_eq_true (List.all_eq_true.mp m _ hm)
theorem ist_ok {T : String} (X : K.In h) (G : h.Ns mainGlobals mg) (m : isTB K T tb = true) (hg : ∀ y ∈ tb.map (·.1), (Fa.glo y).ok K = true) : ∀ (y : Str) (b : Bool), tb.lookup y = some b → ∀ D : Addr, mg y = some (.ref D) → PySem.W.kitOne K (.ref D) (.type T) = some b := fun y b hl D e => by
  have hm := PySem.mem_of_lookup hl
  rw [gref X G (hg y (List.mem_map.mpr ⟨_, hm, rfl⟩)) e]
  exact of_decide_eq_true (List.all_eq_true.mp m _ hm)
end
end
end Mi
set_option Elab.async false
set_option linter.all false
set_option maxRecDepth 100000
set_option maxHeartbeats 4000000
/-! Mi42: min, max of a list of alike data -/
namespace Mi
open PySem PySem.Spec PyProof.Rows L2
def okM (ds : List D) : Bool := (ds.all fun d => ds.all fun e => PySem.W.alike d e) && ((ds.all fun d => match d with | .none => false | _ => true) && (decide (PyData.depthAll ds ≤ 60) && noDs ds))
def bMinD : List D → Option W
  | [.list (x :: xs)] => if okM (x :: xs) = true then some (.d (PySem.W.minD x xs)) else none
  | _ => none
def bMaxD : List D → Option W
  | [.list (x :: xs)] => if okM (x :: xs) = true then some (.d (PySem.W.maxD x xs)) else none
  | _ => none
structure OkM (ds : List D) : Prop where
  al : PySem.W.AlikeAll ds
  dp : PyData.depthAll ds ≤ 60
  nd : noDs ds = true
def rBest (K : KK) (best : D → List D → D) : List V → Hp → VK → Prop := fun vs H Q => ∃ (a : Addr) (xs : List V) (d : D) (ds : List D), vs = [.ref a] ∧ SqL K H a xs ∧ Dp K H (.ref a) (.list (d :: ds)) ∧ okM (d :: ds) = true ∧
  ∀ (i : Nat) (v : V), xs[i]? = some v → (d :: ds)[i]? = some (best d ds) → Q v H
section
variable {X : Cx}
end
end Mi
set_option Elab.async false
set_option linter.all false
set_option maxRecDepth 100000
set_option maxHeartbeats 4000000
/-! Mi43: a tuple times an int, also 0 times -/
namespace Mi
open PySem PySem.Spec PyProof.Rows L2
section
variable {X : Cx} {K : KK}
def rRepZ (K : KK) : R2 := fun x y H Q => ∃ l k xs, x = .ref l ∧ y = .int k ∧ SqT K H l xs ∧ xs ≠ [] ∧ -1000000 ≤ k ∧ k ≤ 0 ∧ ∀ p, H p = none → Q (.ref p) (upd H p (.tup []))
def fRepZ (x y : D) : Option W := match x, y with
  | .tuple xs, .int k => if -1000000 ≤ k ∧ k ≤ 0 ∧ xs.isEmpty = false then some (.d (.tuple [])) else fRepT (.tuple xs) (.int k)
  | _, _ => none
end
end Mi
set_option Elab.async false
set_option linter.all false
set_option maxRecDepth 100000
set_option maxHeartbeats 4000000
/-! Mi44: tests in a handler -/
namespace Mi
open PySem PySem.Spec PyProof.Rows L2
abbrev HT := Exn → Option Bool
def htV (h : HE) : HT := fun x => match h x with
  | some (.d (.bool b)) => some b
  | _ => none
def htN (t : HT) : HT := fun x => (t x).map fun b => !b
def htO (t u : HT) : HT := fun x => match t x with
  | some true => some true
  | some false => u x
  | none => none
def htA (t u : HT) : HT := fun x => match t x with
  | some true => u x
  | some false => some false
  | none => none
def tHT (K : KK) (P : List Nat) (i : Nat) (a : Addr) (d : Option Addr) (x : Exn) (t : HT) : TT := fun σ H Q => σ[i]? = some (some (.ref a)) ∧ ∃ p0 T env b, SR K P p0 (xT d x ++ T) σ env H ∧ Good K H ∧ t x = some b ∧
  ∀ H', SR K P p0 (xT d x ++ T) σ env H' → Good K H' → Q b H'
section
variable {X : Cx} {cls : Value} {a : Addr} {d : Option Addr} {P : List Nat} {i : Nat} {x : Exn} {e b : Expr} {rest : List Expr} {pos : Pos}
/-- if t: return r, ahead of the other statements -/
def hIfS (t : HT) (r : HE) (h2 : Exn → MS) : Exn → MS := fun x e => match t x with
  | some true => hRet r x e
  | some false => h2 x e
  | none => .no
end
end Mi
set_option Elab.async false
set_option linter.all false
set_option maxRecDepth 100000
set_option maxHeartbeats 4000000
/-! Mi45: a matrix, an owned list of owned lists: x[i][j] is read, x[i][j] = v, x[i][j] += v where v may ask a def that reads x -/
namespace Mi
open PySem PySem.Spec PyProof.Rows L2
def isLs : Tag → Bool
  | .lst => true
  | .lsa _ => true
  | _ => false
def row2 : Option W → Int → Option (List D)
  | some (.t g ws), k => if isLs g = true then (match ixN ws.length k with
    | some p => (match ws[p]? with
      | some (.l xs) => some xs
      | _ => none)
    | none => none) else none
  | some (.d (.list ds)), k => (match atI ds k with
    | some (.list xs) => some xs
    | _ => none)
  | _, _ => none
def kIx2 (e : Env) : D → Option W → Option W → Res W
  | .int k, o, some (.d (.int l)) => (match (row2 o k).bind fun xs => atI xs l with
    | some d => .ok (.d d) e
    | none => .no)
  | _, _, _ => .no
/-- x[..][j] -/
def eIx2 (x : Nat) (mi : ME) (j : Nat) : ME := fun e => match e.getD x none with
  | some _ => bnd (mi e) fun wi e1 => kIx2 e1 (vw wi) (e1.getD x none) (e1.getD j none)
  | none => .no
section
variable {K : KK} {H H' : Hp} {O : List Addr} {L : List (V × W)}
/-- the tag of an owned tree is another one -/
theorem Rels.tag {b : Addr} {g g' : Tag} {ws : List W} (h : Rels K H ((.ref b, .t g ws) :: L)) (k : ∀ u, H b = some u → Shp g u → RWs K H (owned H ((.ref b, .t g ws) :: L)) (kids (some u)) ws → Shp g' u) : Rels K H ((.ref b, .t g' ws) :: L) := by
  have eo : owned H ((.ref b, .t g' ws) :: L) = owned H ((.ref b, .t g ws) :: L) := by
    rw [owned_c, owned_c]
    show ow H (.t g' ws) (.ref b) ++ _ = ow H (.t g ws) (.ref b) ++ _
    simp only [ow]
  refine ⟨by rw [eo]; exact h.nd, fun p hp => ?_⟩
  rw [eo]
  rcases List.mem_cons.mp hp with rfl | hp
  · have q := h.at_ _ List.mem_cons_self
    simp only [RW] at q ⊢
    obtain ⟨a, u, e, h1, h2, h3⟩ := q
    cases e
    exact ⟨b, u, rfl, h1, k u h1 h2 h3, h3⟩
  · exact h.at_ p (List.mem_cons_of_mem _ hp)
def allRows : List W → Bool
  | [] => true
  | .l _ :: ws => allRows ws
  | _ :: _ => false
end
section
variable {X : Cx} {P : List Nat} {e : Expr} {K : KK}
/-! ### x[i][j] = v -/
def kMPut (x : Nat) (y : D) (e : Env) : Option W → Option W → Option W → Res Out
  | some (.t .lst ws), some (.d (.int k)), some (.d (.int l)) => (match ixN ws.length k with
    | some p => (match ws[p]? with
      | some (.l xs) => (match ixN xs.length l with
        | some q => .ok .nx (e.set x (some (.t .lst (ws.set p (.l (xs.set q y))))))
        | none => .no)
      | _ => .no)
    | none => .no)
  | _, _, _ => .no
def sPut2 (x i j : Nat) (mv : ME) : MS := fun e => bnd (mv e) fun w e1 => kMPut x (vw w) e1 (e1.getD x none) (e1.getD i none) (e1.getD j none)
/-! ### x[i][j] += v -/
def rGetL0 (K : KK) : V → V → Hp → VK → Prop := fun o i H Q => ∃ a us l v, o = .ref a ∧ i = .int l ∧ 0 ≤ l ∧ SqL K H a us ∧ us[l.toNat]? = some v ∧ Q v H
open Classical in
/-- what m gives with x held open -/
noncomputable def opn (x : Nat) (ws : List W) (m : ME) (e : Env) : Option Int :=
  if h : ∃ y : Int, ∀ as, m (e.set x (some (.t (.lsa as) ws))) = .ok (.d (.int y)) (e.set x (some (.t (.lsa as) ws))) then some h.choose else none
noncomputable def kAug2 (x : Nat) (f : Int → Int → Int) (m : ME) (e : Env) : Option W → Option W → Option W → Res Out
  | some (.t .lst ws), some (.d (.int k)), some (.d (.int l)) => (match ixN ws.length k with
    | some p => (match ws[p]? with
      | some (.l xs) => if 0 ≤ l ∧ allRows ws = true then (match xs[l.toNat]?, opn x ws m e with
        | some (.int n), some y => .ok .nx (e.set x (some (.t .lst (ws.set p (.l (xs.set l.toNat (.int (f n y))))))))
        | _, _ => .no) else .no
      | _ => .no)
    | none => .no)
  | _, _, _ => .no
noncomputable def sAug2 (x i j : Nat) (f : Int → Int → Int) (m : ME) : MS := fun e => kAug2 x f m e (e.getD x none) (e.getD i none) (e.getD j none)
/-! ### run from the left -/
def kIx2a (x : Nat) (j : Nat) : Res W → Res W
  | .ok wi e1 => kIx2 e1 (vw wi) (e1.getD x none) (e1.getD j none)
  | .ex y e => .ex y e
  | .no => .no
def kIx2b (x j : Nat) (r : Res W) : Option W → Res W
  | some _ => kIx2a x j r
  | none => .no
def kOptD (e : Env) : Option D → Res W
  | some d => .ok (.d d) e
  | none => .no
def kMPutA (x i j : Nat) : Res W → Res Out
  | .ok w e1 => kMPut x (vw w) e1 (e1.getD x none) (e1.getD i none) (e1.getD j none)
  | .ex y e => .ex y e
  | .no => .no
end
end Mi
set_option Elab.async false
set_option linter.all false
set_option maxRecDepth 100000
set_option maxHeartbeats 4000000
/-! Mi46: try with several clauses, each with a name or without -/
namespace Mi
open PySem PySem.Spec PyProof.Rows L2
/-- a clause: the class it names, the slot of its name, what its suite wishes -/
structure Cl where
  c : Value
  o : Option Nat
  ts : Addr → Value → Option Addr → TS
def onE (o : Option Nat) (σ : L2.St) (a : Addr) : L2.St := match o with
  | some i => σ.set i (some (.ref a))
  | none => σ
def offE (o : Option Nat) (D : Ends) : Ends := match o with
  | some i => ⟨fun σ H => D.nx (σ.set i none) H, D.rt, fun σ H => D.bk (σ.set i none) H, fun σ H => D.ct (σ.set i none) H⟩
  | none => D
def wCl (K : KK) (Wo : WX) (D : Ends) : List Cl → WX
  | [] => Wo
  | k :: r => fun cls d σ H => ∃ b, PySem.W.exmOne K cls k.c = some b ∧ (b = true → ∀ a, H a = none → k.ts a cls d (offE k.o D) (onE k.o σ a) H) ∧ (b = false → wCl K Wo D r cls d σ H)
inductive ClsOk (X : Cx) : List ExceptHandler → List Cl → Prop
  | nil : ClsOk X [] []
  | named {x n : Str} {c : Value} {i : Nat} {ts : Addr → Value → Option Addr → TS} {b0 : Stmt} {su : List Stmt} {p1 p2 : Pos} {hds : List ExceptHandler} {l : List Cl} (hc : Names X x c) (hi : X.N[i]? = some n) (hl : X.env.kindOf n = some .local)
      (hsu : ∀ (a : Addr) (oe : Obj) (cls : Value) (d : Option Addr) (pn : List (Addr × Obj)), Zc cls d oe → (∃ vs, oe.data = .fields vs) → PSs (X.suite a ((a, oe) :: pn)) (b0 :: su) (ts a cls d)) (r : ClsOk X hds l) :
      ClsOk X (.ExceptHandler (some (.Name x p1)) (some n) (b0 :: su) p2 :: hds) (⟨c, some i, ts⟩ :: l)
  | bare {x : Str} {c : Value} {ts : Addr → Value → Option Addr → TS} {b0 : Stmt} {su : List Stmt} {p1 p2 : Pos} {hds : List ExceptHandler} {l : List Cl} (hc : Names X x c)
      (hsu : ∀ (a : Addr) (oe : Obj) (cls : Value) (d : Option Addr) (pn : List (Addr × Obj)), Zc cls d oe → (∃ vs, oe.data = .fields vs) → PSs (X.suite a ((a, oe) :: pn)) (b0 :: su) (ts a cls d)) (r : ClsOk X hds l) :
      ClsOk X (.ExceptHandler (some (.Name x p1)) none (b0 :: su) p2 :: hds) (⟨c, none, ts⟩ :: l)
section
variable {X : Cx} {pins : List (Addr × Obj)} {σ : L2.St} {H : Hp} {a : Addr} {B : Heap}
/-- what flies is no frame -/
theorem fly_off {Z : Obj → Prop} {h : Heap} (hf : X.env.frame = some X.env.locals) (fl : HandSPX.FlyingZ B (X.env :: X.outer) a Z h) :
    ∃ oe vs, h.get? a = some oe ∧ Z oe ∧ oe.data = .fields vs ∧ a ≠ X.env.locals ∧ a ∉ X.fs := by
  obtain ⟨oe, vs, e1, e2, e3⟩ := fl.there
  have off : a ∉ frs (X.env :: X.outer) := fun z => by
    obtain ⟨_, o, eo, hn⟩ := fl.2.2.1.mem z
    rw [e1] at eo
    cases eo
    exact hn _ e3
  refine ⟨oe, vs, e1, e2, e3, fun z => off ?_, fun z => off ?_⟩
  · refine List.mem_filterMap.mpr ⟨X.env, List.mem_cons_self, ?_⟩
    rw [hf, z]
  · obtain ⟨v, hv, w⟩ := List.mem_filterMap.mp z
    exact List.mem_filterMap.mpr ⟨v, List.mem_cons_of_mem _ hv, w⟩
theorem clauses {sI s : Shared} {cls : Value} {d : Option Addr} {D : Ends} {Wo : WX} (hs : X.stack = X.env :: X.outer) (hf : X.env.frame = some X.env.locals) (hN : X.N.Nodup) (tk : Takes X Wo) (J : Inv X pins σ H sI)
    (nb : ∀ b o, sI.heap.get? b = some o → b ∉ frs X.stack → B.get? b = some o) (na : H a = none) (os : s.os = sI.os) (ag : AllBare s.gens) :
    ∀ {hds : List ExceptHandler} {l : List Cl}, ClsOk X hds l → ∀ hp, HandSPX.FlyingZ B (X.env :: X.outer) a (Zc cls d) hp → sI.heap.UpToSlots hp → wCl X.K Wo D l cls d σ H →
      wpAny (model X.prog X.w) X.A (handleBy (.ref a) X.env hds) (SP X pins D) X.xe { s with heap := hp } := by
  have ok := J.ok
  have at_ : ∀ hp, HandSPX.FlyingZ B (X.env :: X.outer) a (Zc cls d) hp → sI.heap.UpToSlots hp → Inv X pins σ H { s with heap := hp } := fun hp fl up => J.landed nb fl.1 up os ag
  intro hds l hk
  induction hk with
  | nil =>
    intro hp fl up w
    refine wpAny_handleBy_nil ?_
    obtain ⟨_, _, _, oe, vs, T, oT, ts, he, hz, hd, h1, _⟩ := id fl
    unfold PySem.passOn
    refine wpAny_bind (wpAny_field he hd h1 ?_)
    rw [if_neg (by simp : ¬ ((Value.ref T == Value.none) = true))]
    have out : wpAny (model X.prog X.w) X.A (setFlight (.ref a) X.env.frame) (fun _ s4 => wpAny (model X.prog X.w) X.A (throw (.ref a) : Sem Flow) (SP X pins D) X.xe s4) X.xe { s with heap := hp } := by
      rw [hf]
      exact HandSPX.setFlight_upZ fl fun h4 hh4 up4 => wpAny_throw (tk _ _ ⟨a, B, sI, pins, σ, H, cls, d, rfl, J, nb, up.trans up4, .inr (.inr (by rw [hs]; exact hh4)), na, os, ag, w⟩)
    first
      | exact wpAny_bind (wpAny_pure (wpAny_bind out))
      | exact wpAny_bind out
  | @named x n c i ts b0 su p1 p2 hds l hc hi hl hsu r ih =>
    intro hp fl up ⟨b, hb, yes, no⟩
    obtain ⟨oe, vs, he, hz, hd, nL, nF⟩ := fly_off hf fl
    have I := at_ hp fl up
    have S := I.suite he hd na nL nF
    refine wpAny_handleBy_cons (codeAny_handlers_test ?_) (by intro z; cases z)
    have looks : PySem.W.Looks (model X.prog X.w) hp (typeOf (.ref a)) cls := fun A Q E t k z => wpAny_typeOf_ref (k _ _ he) (by rw [hz.1]; exact z)
    have named : ∀ {Q E : Value → Shared → Prop}, Q c { s with heap := hp } → wpAny (model X.prog X.w) (X.A.mark (some (.ref a))) (eval (.Name x p1) X.env) Q E { s with heap := hp } := fun {Q E} z => by
      obtain ⟨g1, g2, g3⟩ := hc
      rcases g3 with g3 | ⟨g3, g4, g5⟩
      · exact ld_glob (X := X.suite a ((a, oe) :: (X.pn ++ pins))) S g1 g3 z g2
      · exact ld_blt (X := X.suite a ((a, oe) :: (X.pn ++ pins))) S g1 g3 g4 z g5 g2
    refine named ((PySem.W.exm_one (M := model X.prog X.w) I.kIn looks hb).here ?_)
    cases b with
    | false => exact ih hp fl up (no rfl)
    | true =>
      refine codeAny_handlers_suite_as (HandSPX.lands_againZ fl fun h4 fl4 up4 => ?_)
      obtain ⟨oe4, vs4, he4, hz4, hd4, _, _⟩ := fly_off hf fl4
      have S4 := (at_ h4 fl4 (up.trans up4)).suite he4 hd4 na nL nF
      refine store_ok (X := X.suite a ((a, oe4) :: (X.pn ++ pins))) (v := .ref a) S4 hN hi (.inl hl) rfl (fun s5 S5 => ?_) (.inr hl)
      refine wpAny_mono ((hsu a oe4 cls d (X.pn ++ pins) hz4 ⟨_, hd4⟩).run [] s5 _ H _ S5 (yes rfl a na)) (fun f s6 z => ?_) (fun _ _ z => False.elim z)
      have gone : ∀ {τ : L2.St} {G : Hp} {Q : Shared → Prop}, Inv (X.suite a ((a, oe4) :: (X.pn ++ pins))) [] τ G s6 → (∀ s7, Inv X pins (τ.set i none) G s7 → Q s7) →
          wpAny (model X.prog X.w) X.A (do bindName X.env n .none; unbindBehindTheSuite X.env n p2) (fun _ s7 => Q s7) X.xe s6 := fun {τ G Q} y hq => gone_ok (y.unsuite ok) hN hi hl hq
      cases f with
      | next => obtain ⟨τ, G, y, q⟩ := z; exact gone y fun s7 y7 => ⟨_, _, y7, q⟩
      | brk => obtain ⟨τ, G, y, q⟩ := z; exact gone y fun s7 y7 => ⟨_, _, y7, q⟩
      | cont => obtain ⟨τ, G, y, q⟩ := z; exact gone y fun s7 y7 => ⟨_, _, y7, q⟩
      | ret u => obtain ⟨v, τ, G, y, rv, q⟩ := z; exact gone y fun s7 y7 => ⟨_, _, _, y7, rv, q⟩
  | @bare x c ts b0 su p1 p2 hds l hc hsu r ih =>
    intro hp fl up ⟨b, hb, yes, no⟩
    obtain ⟨oe, vs, he, hz, hd, nL, nF⟩ := fly_off hf fl
    have I := at_ hp fl up
    have S := I.suite he hd na nL nF
    refine wpAny_handleBy_cons (codeAny_handlers_test ?_) (by intro z; cases z)
    have looks : PySem.W.Looks (model X.prog X.w) hp (typeOf (.ref a)) cls := fun A Q E t k z => wpAny_typeOf_ref (k _ _ he) (by rw [hz.1]; exact z)
    have named : ∀ {Q E : Value → Shared → Prop}, Q c { s with heap := hp } → wpAny (model X.prog X.w) (X.A.mark (some (.ref a))) (eval (.Name x p1) X.env) Q E { s with heap := hp } := fun {Q E} z => by
      obtain ⟨g1, g2, g3⟩ := hc
      rcases g3 with g3 | ⟨g3, g4, g5⟩
      · exact ld_glob (X := X.suite a ((a, oe) :: (X.pn ++ pins))) S g1 g3 z g2
      · exact ld_blt (X := X.suite a ((a, oe) :: (X.pn ++ pins))) S g1 g3 g4 z g5 g2
    refine named ((PySem.W.exm_one (M := model X.prog X.w) I.kIn looks hb).here ?_)
    cases b with
    | false => exact ih hp fl up (no rfl)
    | true =>
      refine codeAny_handlers_suite (HandSPX.lands_againZ fl fun h4 fl4 up4 => ?_)
      obtain ⟨oe4, vs4, he4, hz4, hd4, _, _⟩ := fly_off hf fl4
      have S4 := (at_ h4 fl4 (up.trans up4)).suite he4 hd4 na nL nF
      refine wpAny_mono ((hsu a oe4 cls d (X.pn ++ pins) hz4 ⟨_, hd4⟩).run [] _ _ H _ S4 (yes rfl a na)) (fun f s6 z => ?_) (fun _ _ z => False.elim z)
      cases f with
      | next => obtain ⟨τ, G, y, q⟩ := z; exact ⟨_, _, y.unsuite ok, q⟩
      | brk => obtain ⟨τ, G, y, q⟩ := z; exact ⟨_, _, y.unsuite ok, q⟩
      | cont => obtain ⟨τ, G, y, q⟩ := z; exact ⟨_, _, y.unsuite ok, q⟩
      | ret u => obtain ⟨v, τ, G, y, rv, q⟩ := z; exact ⟨_, _, _, y.unsuite ok, rv, q⟩
theorem ps_tryCl {body : List Stmt} {h0 : ExceptHandler} {hds : List ExceptHandler} {l : List Cl} {pos : Pos} {tb : WX → TS} {Wo : WX} (hs : X.stack = X.env :: X.outer) (hf : X.env.frame = some X.env.locals) (hN : X.N.Nodup) (tk : Takes X Wo)
    (hb : ∀ (W2 : WX) (pn : List (Addr × Obj)) (xe : Value → Shared → Prop), Takes (X.tr pn xe) W2 → PassesOwn (model X.prog X.w) X.A X.env xe → PSs (X.tr pn xe) body (tb W2)) (hh : ClsOk X (h0 :: hds) l) :
    PS X (.Try body (h0 :: hds) [] [] pos) (fun D σ H => tb (wCl X.K Wo D l) D σ H) := by
  refine ⟨fun pins s σ H D I h => ?_⟩
  have ok := I.ok
  have hfr : X.A.frames = some (X.env :: X.outer) := by rw [ok.frames, hs]
  refine wpAny_Try_except ?_
  have go := (hb (wCl X.K Wo D l) (X.pn ++ pins) (fun e s1 => wpAny (model X.prog X.w) X.A (noteFrame e X.env) (fun _ s2 => wpAny (model X.prog X.w) X.A (setFlight e none) (fun _ s3 =>
    wpAny (model X.prog X.w) X.A (handleBy e X.env (h0 :: hds)) (SP X pins D) X.xe s3) X.xe s2) X.xe s1) ?_ PassesOwn.looking).run [] s σ H D (I.toTry _) h
  · refine wpAny_mono go (fun f s1 z => ?_) (fun _ _ z => z)
    cases f with
    | next => obtain ⟨τ, G, y, q⟩ := z; exact wpAny_execs_nil ⟨τ, G, y.ofTry ok, q⟩
    | brk => obtain ⟨τ, G, y, q⟩ := z; exact ⟨τ, G, y.ofTry ok, q⟩
    | cont => obtain ⟨τ, G, y, q⟩ := z; exact ⟨τ, G, y.ofTry ok, q⟩
    | ret u => obtain ⟨v, τ, G, y, rv, q⟩ := z; exact ⟨v, τ, G, y.ofTry ok, rv, q⟩
  · rintro u s1 ⟨a, B, sI, pn', τ, G, cls, d, rfl, J, nb, up, sky, na, os, ag, w⟩
    have J2 : Inv X pins τ G sI := J.ofTry ok
    have sky2 : Sky B (X.env :: X.outer) a (Zc cls d) X.env.locals s1.heap := by rw [← hs]; exact sky
    exact Sky.land Zc.steady hfr hf sky2 fun h3 fl3 up3 => clauses hs hf hN tk J2 nb na os ag hh h3 fl3 (up.trans up3) w
end
/-! ### mirrors -/
structure HM where
  o : Option Nat
  tb : List (Str × Bool)
  h : Exn → MS
def offV (o : Option Nat) (e : Env) : Env := match o with
  | some i => e.set i none
  | none => e
def hCl : List HM → Exn → Env → Res Out
  | [], x, e => .ex x e
  | k :: r, x, e => match k.tb.lookup x.cls with
    | some true => (match k.h x (offV k.o e) with
      | .ok o e2 => .ok o (offV k.o e2)
      | _ => .no)
    | some false => hCl r x e
    | none => .no
def sTryM (m : MS) (hs : List HM) : MS := fun e => match m e with
  | .ok o e1 => .ok o e1
  | .ex x e1 => hCl hs x e1
  | .no => .no
/-- the tables tell which class of error a clause takes -/
def TbOk (X : Cx) (tb : List (Str × Bool)) (c : Value) : Prop := ∀ y b, tb.lookup y = some b → ∀ D, X.mg y = some (.ref D) → PySem.W.exmOne X.K (.ref D) c = some b
inductive HMs (X : Cx) (P : List Nat) : List ExceptHandler → List HM → Prop
  | nil : HMs X P [] []
  | named {x n : Str} {c : Value} {i : Nat} {tb : List (Str × Bool)} {h : Exn → MS} {b0 : Stmt} {su : List Stmt} {p1 p2 : Pos} {hds : List ExceptHandler} {l : List HM} (hi : X.N[i]? = some n) (hl : X.env.kindOf n = some .local) (hP : P.contains i = false) (hc : Names X x c) (htb : TbOk X tb c)
      (hsu : ∀ (a : Addr) (oe : Obj) (cls : Value) (d : Option Addr) (pn : List (Addr × Obj)) (x : Exn), Zc cls d oe → (∃ vs, oe.data = .fields vs) → XIs X.mg x cls d → tb.lookup x.cls = some true → PSs (X.suite a ((a, oe) :: pn)) (b0 :: su) (tHS X.K P i a d x (h x))) (r : HMs X P hds l) :
      HMs X P (.ExceptHandler (some (.Name x p1)) (some n) (b0 :: su) p2 :: hds) (⟨some i, tb, h⟩ :: l)
  | bare {x : Str} {c : Value} {tb : List (Str × Bool)} {m : MS} {b0 : Stmt} {su : List Stmt} {p1 p2 : Pos} {hds : List ExceptHandler} {l : List HM} (hc : Names X x c) (htb : TbOk X tb c)
      (hsu : ∀ (a : Addr) (oe : Obj) (pn : List (Addr × Obj)), PSs (X.suite a ((a, oe) :: pn)) (b0 :: su) (tS X.K P m)) (r : HMs X P hds l) :
      HMs X P (.ExceptHandler (some (.Name x p1)) none (b0 :: su) p2 :: hds) (⟨none, tb, fun _ => m⟩ :: l)
section
variable {X : Cx} {P : List Nat}
theorem HMs.cls {W' : WX} {hds : List ExceptHandler} {ms : List HM} (h : HMs X P hds ms) : ∃ l, ClsOk X hds l ∧
    ∀ {p0 : L2.St} {T : List (V × W)} {σ : L2.St} {e : Env} {H : Hp} {x : Exn} {cls : Value} {d : Option Addr} {D : Ends}, p0.length = X.N.length → SR X.K P p0 (xT d x ++ T) σ e H → Good X.K H → XIs X.mg x cls d →
      (match hCl ms x e with
        | .ok o e2 => PostS X.K P p0 T e2 D o
        | .ex y e2 => PostX X.K X.mg P p0 T e2 W' y
        | .no => False) → wCl X.K W' D l cls d σ H := by
  induction h with
  | nil => exact ⟨[], .nil, fun hl sr g hx q => q _ _ _ _ sr g hx⟩
  | @named xh n c i tb h b0 su p1 p2 hds l hi hln hP hc htb hsu r ih =>
    obtain ⟨L, h1, h2⟩ := ih
    have hP' : i ∉ P := fun z => by rw [List.contains_iff_mem.mpr z] at hP; cases hP
    have hiN : i < X.N.length := (List.getElem?_eq_some_iff.mp hi).1
    refine ⟨⟨c, some i, fun a cls d D σ H => ∃ x, XIs X.mg x cls d ∧ tb.lookup x.cls = some true ∧ tHS X.K P i a d x (h x) D σ H⟩ :: L, .named hc hi hln (fun a oe cls d pn hz hf => ⟨fun pins s σ H D I ⟨x, hx, hl, q⟩ => (hsu a oe cls d pn x hz hf hx hl).run pins s σ H D I q⟩) h1, ?_⟩
    intro p0 T σ e H x cls d D hlen sr g hx q
    obtain ⟨⟨D0, hD0, hcls⟩, _⟩ := id hx
    unfold hCl at q
    dsimp only at q
    cases hl : tb.lookup x.cls with
    | none => rw [hl] at q; exact q.elim
    | some b =>
    rw [hl] at q
    refine ⟨b, by rw [hcls]; exact htb _ _ hl D0 hD0, fun hbt a ha => ?_, fun hbf => ?_⟩
    · subst hbt
      have hl1 : i < σ.length := by rw [← sr.len0, hlen]; exact hiN
      dsimp only [offV] at q
      cases hh : h x (e.set i none) with
      | no => rw [hh] at q; exact q.elim
      | ex y e2 => rw [hh] at q; exact q.elim
      | ok o e2 =>
      rw [hh] at q
      refine ⟨x, hx, hl, by show (σ.set i (some (.ref a)))[i]? = _; rw [List.getElem?_set_self hl1], p0, T, e.set i none, sr.put0 hl1 hP', g, ?_⟩
      rw [hh]
      have back : ∀ {T2 : List (V × W)} {σ4 : L2.St} {H4 : Hp}, SR X.K P p0 T2 σ4 e2 H4 → SR X.K P p0 T2 (σ4.set i none) (e2.set i none) H4 := fun s4 => s4.clear (by rw [← s4.len0, hlen]; exact hiN) hP'
      cases o with
      | nx => exact fun σ4 H4 s4 g4 => q _ H4 (back s4) g4
      | bk => exact fun σ4 H4 s4 g4 => q _ H4 (back s4) g4
      | ct => exact fun σ4 H4 s4 g4 => q _ H4 (back s4) g4
      | rt w => exact fun v σ4 H4 s4 g4 => q v _ H4 (back s4) g4
    · subst hbf
      exact h2 hlen sr g hx q
  | @bare xh c tb m b0 su p1 p2 hds l hc htb hsu r ih =>
    obtain ⟨L, h1, h2⟩ := ih
    refine ⟨⟨c, none, fun _ _ _ => tS X.K P m⟩ :: L, .bare hc (fun a oe cls d pn _ _ => hsu a oe pn) h1, ?_⟩
    intro p0 T σ e H x cls d D hlen sr g hx q
    obtain ⟨⟨D0, hD0, hcls⟩, _⟩ := id hx
    unfold hCl at q
    dsimp only at q
    cases hl : tb.lookup x.cls with
    | none => rw [hl] at q; exact q.elim
    | some b =>
    rw [hl] at q
    refine ⟨b, by rw [hcls]; exact htb _ _ hl D0 hD0, fun hbt a ha => ?_, fun hbf => ?_⟩
    · subst hbt
      dsimp only [offV] at q
      cases hh : m e with
      | no => rw [hh] at q; exact q.elim
      | ex y e2 => rw [hh] at q; exact q.elim
      | ok o e2 =>
      rw [hh] at q
      exact ⟨p0, T, e, o, e2, sr.sub (List.sublist_append_right _ _), g, hh, q⟩
    · subst hbf
      exact h2 hlen sr g hx q
theorem ps_tryM {body : List Stmt} {h0 : ExceptHandler} {hds : List ExceptHandler} {pos : Pos} {m : MS} {ms : List HM} {W' : WX} (hs : X.stack = X.env :: X.outer) (hf : X.env.frame = some X.env.locals) (hN : X.N.Nodup) (tk : Takes X W')
    (hb : ∀ (W2 : WX) (pn : List (Addr × Obj)) (xe : Value → Shared → Prop), Takes (X.tr pn xe) W2 → PassesOwn (model X.prog X.w) X.A X.env xe → PSs (X.tr pn xe) body (tSX X.K X.mg P W2 m)) (hh : HMs X P (h0 :: hds) ms) :
    PS X (.Try body (h0 :: hds) [] [] pos) (tSX X.K X.mg P W' (sTryM m ms)) := by
  obtain ⟨l, h1, h2⟩ := hh.cls (W' := W')
  refine ⟨fun pins s σ H D I hq => ?_⟩
  refine (ps_tryCl (tb := fun W2 => tSX X.K X.mg P W2 m) hs hf hN tk hb h1).run pins s σ H D I ?_
  obtain ⟨p0, T, env, sr, g, q⟩ := hq
  refine ⟨p0, T, env, sr, g, ?_⟩
  have hlen : p0.length = X.N.length := by rw [sr.len0, I.len]
  unfold sTryM at q
  cases hm : m env with
  | no => rw [hm] at q; exact q.elim
  | ok o e1 => rw [hm] at q; exact q
  | ex x e1 =>
    rw [hm] at q
    exact fun σ1 H1 cls d sr1 g1 hx => h2 hlen sr1 g1 hx q
end
/-! ### run from the left -/
def kTryM (hs : List HM) : Res Out → Res Out
  | .ok o e1 => .ok o e1
  | .ex x e1 => hCl hs x e1
  | .no => .no
theorem ev_tryM {m : MS} {hs : List HM} {e : Env} : sTryM m hs e = kTryM hs (m e) := by
  unfold sTryM kTryM
  cases m e <;> rfl
theorem kTryM_ex {hs : List HM} {x : Exn} {e : Env} : kTryM hs (.ex x e) = hCl hs x e := rfl
end Mi
set_option Elab.async false
set_option linter.all false
set_option maxRecDepth 100000
set_option maxHeartbeats 4000000
/-! Mi47: raise X('..') of a class without fields; handlers that read and set locals -/
namespace Mi
open PySem PySem.Spec PyProof.Rows L2 He
/-- a class without an __init__ of its own -/
structure Xc0 (K : KK) (C : Addr) : Prop where
  q : PySem.W.excIn K C He.veBase "ValueError.__new__" = true
  kp : PySem.W.keepIn K (.ref C) = true
  bex : PySem.W.subIn K (.ref C) (.type "BaseException") = some true
  ty : PySem.W.typeIn K (.ref C) = some (.type "type")
def x0B (K : KK) (C : Addr) : Bool := PySem.W.excIn K C He.veBase "ValueError.__new__" && (PySem.W.keepIn K (.ref C) && (decide (PySem.W.subIn K (.ref C) (.type "BaseException") = some true) && (decide (PySem.W.typeIn K (.ref C) = some (.type "type")) && xkB K C)))
section
variable {X : Cx} {P : List Nat} {e : Expr} {es : List Expr} {pos p : Pos} {W' : WX} {x : Str}
end
/-! ### what a handler tells of e and of its locals -/
abbrev HV := Exn → Env → Option W
def tHV (K : KK) (mg : Str → Option Value) (P : List Nat) (i : Nat) (a : Addr) (cls : Value) (d : Option Addr) (x : Exn) (h : HV) : TE := fun σ H Q => σ[i]? = some (some (.ref a)) ∧ ∃ p0 T env w, SR K P p0 (xT d x ++ T) σ env H ∧ Good K H ∧ h x env = some w ∧
  ∀ v H', SR K P p0 ((v, w) :: (xT d x ++ T)) σ env H' → Good K H' → Q v H'
def hvE (h : HE) : HV := fun x _ => h x
def hvV (j : Nat) : HV := fun _ e => match e.getD j none with
  | some (.d dd) => some (.d dd)
  | _ => none
def hvN (h : HV) : HV := fun x e => match h x e with
  | some (.d (.bool b)) => some (.d (.bool (!b)))
  | _ => none
def hvA (h1 h2 : HV) : HV := fun x e => match h1 x e with
  | some (.d (.bool true)) => h2 x e
  | some (.d (.bool false)) => some (.d (.bool false))
  | _ => none
def hvAll : List HV → Exn → Env → Option (List D)
  | [], _, _ => some []
  | h :: hs, x, e => match h x e with
    | some w => (match hvAll hs x e with
      | some ds => some (vw w :: ds)
      | none => none)
    | none => none
def hvTup (hs : List HV) : HV := fun x e => (hvAll hs x e).map fun ds => .d (.tuple ds)
def tHVA (K : KK) (mg : Str → Option Value) (P : List Nat) (i : Nat) (a : Addr) (cls : Value) (d : Option Addr) (x : Exn) (hs : List HV) : TA := fun σ H Q => σ[i]? = some (some (.ref a)) ∧ ∃ p0 T env ds, SR K P p0 (xT d x ++ T) σ env H ∧ Good K H ∧ hvAll hs x env = some ds ∧
  ∀ vs H', Dats K H' (owned H' (pr σ env ++ (xT d x ++ T))) ds vs → SR K P p0 (xT d x ++ T) σ env H' → Good K H' → Q vs H'
section
variable {X : Cx} {a : Addr} {oe : Obj} {cls : Value} {d : Option Addr} {pn : List (Addr × Obj)} {P : List Nat} {i : Nat} {x : Exn} {e : Expr} {es : List Expr} {pos : Pos}
theorem mkHV {t : TE} {h : HV} (he : PE X e t) (k : ∀ (p0 : L2.St) (T : List (V × W)) (σ : L2.St) (env : Env) (H : Hp) (w : W) (Q : VK), σ[i]? = some (some (.ref a)) → SR X.K P p0 (xT d x ++ T) σ env H → Good X.K H → h x env = some w →
      (∀ v H', (Good X.K H' → SR X.K P p0 ((v, w) :: (xT d x ++ T)) σ env H') → Q v H') → t σ H Q) : PE X e (tHV X.K X.mg P i a cls d x h) := by
  refine ⟨fun pins s σ H Q I hq => ?_⟩
  obtain ⟨hi, p0, T, env, w, sr, g, hm, hQ⟩ := hq
  refine thn (he.run pins s σ H (fun v H' => Good X.K H' → Q v H') I (k p0 T σ env H w _ hi sr g hm fun v H' q g' => hQ v H' (q g') g')) ?_
  rintro u s' ⟨v, H', I', r, q⟩
  exact ⟨v, H', I', r, q (inv_good I')⟩
theorem hv_e {h : HE} (he : PE X e (tHE X.K X.mg P i a cls d x h)) : PE X e (tHV X.K X.mg P i a cls d x (hvE h)) := impE he fun σ H Q ⟨hi, p0, T, env, w, sr, g, hm, hQ⟩ => ⟨hi, p0, T, env, w, sr, g, hm, hQ⟩
theorem hv_v {j : Nat} (he : PE X e (tVar j)) : PE X e (tHV X.K X.mg P i a cls d x (hvV j)) := mkHV he fun p0 T σ env H w Q hi sr g hm hQ => by
  unfold hvV at hm
  split at hm
  · rename_i dd hd
    cases hm
    obtain ⟨v, hv⟩ := sr.cov j _ hd
    have q := sr.val hv hd
    refine ⟨v, hv, hQ v H fun _ => sr.push (sr.rels.data (by simpa only [RW] using q))⟩
  · cases hm
theorem hv_not {h : HV} (he : PE X e (tHV X.K X.mg P i a cls d x h)) : PE X (.UnaryOp .Not e pos) (tHV X.K X.mg P i a cls d x (hvN h)) := mkHV (pe_not he) fun p0 T σ env H w Q hi sr g hm hQ => by
  unfold hvN at hm
  split at hm
  · rename_i b hb
    cases hm
    refine ⟨hi, p0, T, env, _, sr, g, hb, fun v H1 sr1 g1 => ⟨b, (by simpa only [RW, Dat] using sr1.top.at_ _ List.mem_cons_self), hQ _ H1 fun _ => sr1.drop.push (sr1.drop.rels.data (by simp [Dat]))⟩⟩
  · cases hm
theorem hv_one {h : HV} {op} (he : PE X e (tHV X.K X.mg P i a cls d x h)) : PE X (.BoolOp op [e] pos) (tHV X.K X.mg P i a cls d x h) := pe_one he
theorem hv_and {b : Expr} {rest : List Expr} {h1 h2 : HV} (ha : PE X e (tHV X.K X.mg P i a cls d x h1)) (hb : PE X (.BoolOp .And (b :: rest) pos) (tHV X.K X.mg P i a cls d x h2)) : PE X (.BoolOp .And (e :: b :: rest) pos) (tHV X.K X.mg P i a cls d x (hvA h1 h2)) := mkHV (pe_and ha hb) fun p0 T σ env H w Q hi sr g hm hQ => by
  unfold hvA at hm
  split at hm
  · rename_i hq
    refine ⟨hi, p0, T, env, _, sr, g, hq, fun v H1 sr1 g1 => ⟨true, by simpa only [Dat] using sr1.dat, ?_⟩⟩
    rw [if_pos rfl]
    exact ⟨hi, p0, T, env, w, sr1.drop, g1, hm, fun v2 H2 sr2 g2 => hQ v2 H2 fun _ => sr2⟩
  · rename_i hq
    cases hm
    refine ⟨hi, p0, T, env, _, sr, g, hq, fun v H1 sr1 g1 => ⟨false, by simpa only [Dat] using sr1.dat, ?_⟩⟩
    rw [if_neg (by simp)]
    exact hQ _ H1 fun _ => sr1.drop.push (sr1.drop.rels.data (by simp [Dat]))
  · cases hm
/-- return .. -/
def hvRet (h : HV) : Exn → MS := fun x e => match h x e with
  | some w => .ok (.rt (.d (vw w))) e
  | none => .no
theorem hs_retV {h : HV} (he : PE X e (tHV X.K X.mg P i a cls d x h)) : PS X (.Return (some e) pos) (tHS X.K P i a d x (hvRet h x)) := impS (ps_ret he) fun D σ H ⟨hi, p0, T, env, sr, g, q⟩ => by
  unfold hvRet at q
  cases h1 : h x env with
  | none => rw [h1] at q; exact q.elim
  | some w =>
    rw [h1] at q
    refine ⟨hi, p0, T, env, w, sr, g, h1, fun v H1 sr1 g1 => q v σ H1 ?_ g1⟩
    exact sr1.fz.sub (List.Sublist.cons_cons _ (List.sublist_append_right _ _))
/-- name = .., ahead of the other statements -/
def hvLet (j : Nat) (h : HV) (m : Exn → MS) : Exn → MS := fun x e => match h x e with
  | some w => m x (e.set j (some w))
  | none => .no
theorem hs_let {j : Nat} {h : HV} {m : Exn → MS} {y : Str} {p1 : Pos} {more : List Stmt} (hN : X.N.Nodup) (hP : P.contains j = false) (hj : X.N[j]? = some y) (hy : Loc X.env.scope y) (hij : (i == j) = false) (he : PE X e (tHV X.K X.mg P i a cls d x h)) (hm : PSs X more (tHS X.K P i a d x (m x)))
    (hs : swapsWith e (some (.Name y p1)) pos.line X.env = pure false := by rfl) (hf : X.fn y = true ∨ X.env.scope.names.lookup y = some .local := by first | exact .inl rfl | exact .inr rfl | assumption) :
    PSs X (.Assign [.Name y p1] e pos :: more) (tHS X.K P i a d x (hvLet j h m x)) := by
  have hP' : j ∉ P := fun z => by rw [List.contains_iff_mem.mpr z] at hP; cases hP
  have ne : i ≠ j := fun z => by rw [z] at hij; simp at hij
  refine ⟨fun pins s σ H D I hq => ?_⟩
  refine (pss_cons (ps_set hN hj hy he hs hf) hm).run pins s σ H D I ?_
  obtain ⟨hi, p0, T, env, sr, g, q⟩ := hq
  unfold hvLet at q
  cases h1 : h x env with
  | none => rw [h1] at q; exact q.elim
  | some w =>
    rw [h1] at q
    refine ⟨hi, p0, T, env, w, sr, g, h1, fun v H1 sr1 g1 => ?_⟩
    have hl : j < σ.length := by rw [I.len]; exact (List.getElem?_eq_some_iff.mp hj).1
    exact ⟨by rw [List.getElem?_set_ne (Ne.symm ne)]; exact hi, p0, T, env.set j (some w), sr1.store hl hP', g1, q⟩
end
end Mi
set_option Elab.async false
set_option linter.all false
set_option maxRecDepth 100000
set_option maxHeartbeats 4000000
namespace Ob
open PySem PySem.SeqAt
open PySem.AutoSeq1 (wpAny_loadPart')
open PySem.MeetsSeq PySem.MeetsSeq2 PySem.MeetsSeq3
end Ob
/-! Mi48: the empty tuple times an int -/
namespace Mi
open PySem PySem.Spec PyProof.Rows L2
section
variable {X : Cx} {K : KK}
def rRepE (K : KK) : R2 := fun x y H Q => ∃ l k, x = .ref l ∧ y = .int k ∧ SqT K H l [] ∧ -1000000 ≤ k ∧ k ≤ 1000000 ∧ Q (.ref l) H
def fRepE (x y : D) : Option W := match x, y with
  | .tuple [], .int k => if -1000000 ≤ k ∧ k ≤ 1000000 then some (.d (.tuple [])) else none
  | x, y => fRepZ x y
end
end Mi
set_option Elab.async false
set_option linter.all false
set_option maxRecDepth 100000
set_option maxHeartbeats 4000000
/-! Mi49: a comprehension with two generators -/
namespace Mi
open PySem PySem.Spec PyProof.Rows L2
def cmp2 (tg : Tg) (tt : MT) (src1 : MI) (tg1 : Tg) (tt1 : MT) (te : ME) (vs vs1 : List Nat) : List D → Env → Res (List D)
  | [], e => .ok [] e
  | x :: xs, e => match tg x e with
    | none => .no
    | some e0 => bnd (tt e0) fun b e1 => if b = true then bnd (src1 e1) fun ys e2 => bnd (cmpL tg1 tt1 te vs1 ys (wipeE e2 vs1)) fun d1 e3 => bnd (cmp2 tg tt src1 tg1 tt1 te vs vs1 xs (wipeE e3 vs)) fun ds e4 => .ok (d1 ++ ds) e4
      else cmp2 tg tt src1 tg1 tt1 te vs vs1 xs (wipeE e1 vs)
def eLc2 (src : MI) (tg : Tg) (tt : MT) (src1 : MI) (tg1 : Tg) (tt1 : MT) (te : ME) (vs vs1 : List Nat) : ME := fun e => bnd (src e) fun xs e1 => bnd (cmp2 tg tt src1 tg1 tt1 te vs vs1 xs (wipeE e1 vs)) fun ds e2 => if ds.length ≤ 16777216 then .ok (.l ds) e2 else .no
section
variable {X : Cx} {P : List Nat}
end
end Mi
set_option Elab.async false
set_option linter.all false
set_option maxRecDepth 100000
set_option maxHeartbeats 4000000
/-! Mi50: a constant of the module: a tuple of whole numbers -/
namespace Mi
open PySem PySem.Spec PyProof.Rows L2
def TupI (K : KK) (mg : Str → Option Value) (x : Str) (xs : List Int) : Prop := ∃ a, mg x = some (.ref a) ∧ (∃ o, K.lookup a = some o) ∧ ∀ H, SqT K H a (xs.map V.int)
section
variable {X : Cx} {P : List Nat}
end
end Mi
set_option Elab.async false
set_option linter.all false
set_option maxRecDepth 100000
set_option maxHeartbeats 4000000
/-! Mi51: a dict of owned lists: d.setdefault(k, []).append(x); a slot that stands still from here on -/
namespace Mi
open PySem PySem.Spec PyProof.Rows L2
def lsW : List W → Option (List (List D))
  | [] => some []
  | .l x :: r => (lsW r).map (x :: ·)
  | _ :: _ => none
def idxL : List Int → Int → Option Nat
  | [], _ => none
  | i :: r, k => if i = k then some 0 else (idxL r k).map (· + 1)
def dlW (is : List Int) (ls : List (List D)) : W := .t (.dic (is.map PyData.int)) (ls.map W.l)
def kvL : W → Option (List Int × List (List D))
  | .t (.dic ks) ws => match intsOf ks, lsW ws with
    | some is, some ls => if is.length = ls.length then some (is, ls) else none
    | _, _ => none
  | _ => none
def appL (is : List Int) (ls : List (List D)) (k : Int) (y : D) : W := match idxL is k with
  | some i => dlW is (ls.set i (ls.getD i [] ++ [y]))
  | none => dlW (is ++ [k]) (ls ++ [[y]])
section
variable {K : KK} {H H' : Hp} {O O' : List Addr} {L L' T : List (V × W)}
end
/-! ### d.setdefault(k, []).append(x) -/
def kSDA (d : Nat) (e1 : Env) : Option (List Int × List (List D)) → D → Option W → Res W
  | some q, .int k, some (.d y) => if q.1.length < 16777216 ∧ (q.2.all fun l => decide (l.length < 16777216)) = true then .ok (.d .none) (e1.set d (some (appL q.1 q.2 k y))) else .no
  | _, _, _ => .no
def eSDA (d : Nat) (mk : ME) (j : Nat) : ME := fun e => match (e.getD d none).bind kvL with
  | some _ => bnd (mk e) fun wk e1 => kSDA d e1 ((e1.getD d none).bind kvL) (vw wk) (e1.getD j none)
  | none => .no
section
variable {X : Cx} {P : List Nat} {e : Expr}
/-! ### a slot stands still from here on -/
def fzE (i : Nat) (e : Env) : Env := match e.getD i none with
  | some (.l xs) => e.set i (some (.d (.list xs)))
  | some (.t g ws) => e.set i (some (.d (vw (.t g ws))))
  | _ => e
def eFz (i : Nat) (m : ME) : ME := fun e => m (fzE i e)
end
end Mi
set_option Elab.async false
set_option linter.all false
set_option maxRecDepth 100000
set_option maxHeartbeats 4000000
/-! Mi52: range(n) bound to a name and walked later -/
namespace Mi
open PySem PySem.Spec PyProof.Rows L2
/-- a range as data -/
def rngVD (lo hi : Int) : D := .dict [(.bool false, .int lo), (.bool false, .int hi)]
def bRng1 : List D → Option W
  | [.int j] => some (.d (rngVD 0 j))
  | _ => none
section
variable {X : Cx} {K : KK}
def iRgO (tl : TE) : TI := fun σ H R => tl σ H fun x H1 => ∃ (a : Addr) (lo hi : Int), x = .ref a ∧ H1 a = some (.rng lo hi) ∧ (-(2 ^ 62) ≤ lo ∧ lo < 2 ^ 62 ∧ -(2 ^ 62) ≤ hi ∧ hi < 2 ^ 62) ∧ R (Itr lo (hi - lo).toNat) H1
end
def iRgD (m : ME) : MI := fun e => bnd (m e) fun w e1 => match vw w with
  | .dict [(.bool false, .int lo), (.bool false, .int hi)] => if -4611686018427387904 ≤ lo ∧ lo < 4611686018427387904 ∧ -4611686018427387904 ≤ hi ∧ hi < 4611686018427387904 then .ok (rng lo (hi - lo).toNat) e1 else .no
  | _ => .no
section
variable {X : Cx} {P : List Nat} {tg iter : Expr}
end
/-! ### evaluation -/
section
variable {e : Env}
def kRgD : Res W → Res (List D)
  | .ok w e => (match vw w with
    | .dict [(.bool false, .int lo), (.bool false, .int hi)] => if -4611686018427387904 ≤ lo ∧ lo < 4611686018427387904 ∧ -4611686018427387904 ≤ hi ∧ hi < 4611686018427387904 then .ok (rng lo (hi - lo).toNat) e else .no
    | _ => .no)
  | .ex x e => .ex x e
  | .no => .no
theorem ev_rgD {m : ME} : iRgD m e = kRgD (m e) := by unfold iRgD; cases m e <;> rfl
theorem kRgD_n {n : Nat} (h : n < 4611686018427387904) : kRgD (.ok (.d (rngVD 0 (n : Int))) e) = .ok (rng 0 n) e := by
  show (if -4611686018427387904 ≤ (0 : Int) ∧ (0 : Int) < 4611686018427387904 ∧ -4611686018427387904 ≤ (n : Int) ∧ (n : Int) < 4611686018427387904 then Res.ok (rng 0 ((n : Int) - 0).toNat) e else .no) = _
  rw [if_pos ⟨by decide, by decide, by omega, by omega⟩, Int.sub_zero, Int.toNat_natCast]
theorem bRng1_i (j : Int) : bRng1 [.int j] = some (.d (rngVD 0 j)) := rfl
end
end Mi
set_option Elab.async false
set_option linter.all false
set_option maxRecDepth 100000
set_option maxHeartbeats 4000000
/-! Mi53: dicts with texts as keys, read, filled in place, made by a comprehension (printed by mk53.py) -/
namespace Mi
open PySem PySem.Spec PyProof.Rows L2
theorem SR.str {K : KK} {P : List Nat} {p0 : L2.St} {T : List (V × W)} {σ : L2.St} {env : Env} {H : Hp} {v : V} {i : Str} (h : SR K P p0 ((v, .d (.str i)) :: T) σ env H) : v = .str i := by simpa only [Dat] using h.dat
def strsOf : List D → Option (List Str)
  | [] => some []
  | .str i :: xs => (strsOf xs).map (i :: ·)
  | _ => none
theorem strsOf_map : ∀ ks : List Str, strsOf (ks.map PyData.str) = some ks
  | [] => rfl
  | k :: ks => by simp only [List.map_cons, strsOf, strsOf_map ks]; rfl
/-! ### a dict as a list of pairs -/
def getS : List (Str × D) → Str → Option D
  | [], _ => none
  | p :: r, i => if p.1 = i then some p.2 else getS r i
def putS (kvs : List (Str × D)) (i : Str) (d : D) : List (Str × D) :=
  if (getS kvs i).isSome = true then kvs.map (fun p => if p.1 = i then (p.1, d) else p) else kvs ++ [(i, d)]
def dcW_S (kvs : List (Str × D)) : W := .t (.dic (kvs.map fun p => .str p.1)) (kvs.map fun p => .d p.2)
def dcD_S (kvs : List (Str × D)) : D := .dict (kvs.map fun p => (.str p.1, p.2))
/-- what a slot's dict holds -/
def kvI_S : W → Option (List (Str × D))
  | .t (.dic ks) ws => match strsOf ks, datsW ws with
    | some is, some ds => if is.length = ds.length then some (is.zip ds) else none
    | _, _ => none
  | .d (.dict kvs) => (strsOf (kvs.map (·.1))).map fun is => is.zip (kvs.map (·.2))
  | _ => none
theorem kvI_w_S (kvs : List (Str × D)) : kvI_S (dcW_S kvs) = some kvs := by
  unfold kvI_S dcW_S
  have h1 : strsOf (kvs.map fun p => PyData.str p.1) = some (kvs.map (·.1)) := by
    rw [show (kvs.map fun p => PyData.str p.1) = (kvs.map (·.1)).map PyData.str by rw [List.map_map]; rfl]
    exact strsOf_map _
  have h2 : datsW (kvs.map fun p => W.d p.2) = some (kvs.map (·.2)) := by
    rw [show (kvs.map fun p => W.d p.2) = (kvs.map (·.2)).map W.d by rw [List.map_map]; rfl]
    exact datsW_map _
  simp only [h1, h2, List.length_map, if_true, zip_pair]
theorem kvI_d_S (kvs : List (Str × D)) : kvI_S (.d (dcD_S kvs)) = some kvs := by
  unfold kvI_S dcD_S
  have h1 : strsOf ((kvs.map fun p => (PyData.str p.1, p.2)).map (·.1)) = some (kvs.map (·.1)) := by
    rw [List.map_map, show (kvs.map ((·.1) ∘ fun p : Str × D => (PyData.str p.1, p.2))) = (kvs.map (·.1)).map PyData.str by rw [List.map_map]; rfl]
    exact strsOf_map _
  have h2 : (kvs.map fun p => (PyData.str p.1, p.2)).map (·.2) = kvs.map (·.2) := by rw [List.map_map]; rfl
  simp only [h1, h2, Option.map_some, zip_pair]
theorem vw_dc_S (kvs : List (Str × D)) : vw (dcW_S kvs) = dcD_S kvs := by
  unfold dcW_S dcD_S
  rw [show (kvs.map fun p => W.d p.2) = (kvs.map (·.2)).map W.d by rw [List.map_map]; rfl]
  simp only [vw, vt, vws_d]
  congr 1
  induction kvs with
  | nil => rfl
  | cons p r ih => simp only [List.map_cons, List.zip_cons_cons, ih]

section
variable {K : KK} {H : Hp} {O : List Addr}
/-- the dict's own pairs bear the mirror's -/
inductive KVs_S (K : KK) (H : Hp) (O : List Addr) : List (Str × D) → List (Key × V) → Prop
  | nil : KVs_S K H O [] []
  | cons {i : Str} {d : D} {v : V} {l : List (Str × D)} {r : List (Key × V)} : Dat K H O d v → KVs_S K H O l r → KVs_S K H O ((i, d) :: l) ((.inr i, v) :: r)
theorem KVs_S.length {l : List (Str × D)} {r : List (Key × V)} (h : KVs_S K H O l r) : l.length = r.length := by
  induction h with
  | nil => rfl
  | cons _ _ ih => simp [ih]
theorem KVs_S.get {l : List (Str × D)} {r : List (Key × V)} (h : KVs_S K H O l r) (i : Str) : match getS l i with
    | some d => ∃ v, valV r (.inr i) = some v ∧ Dat K H O d v
    | none => valV r (.inr i) = none := by
  induction h with
  | nil => exact rfl
  | @cons j d v l r hd _ ih =>
    unfold getS
    by_cases e : j = i
    · subst e
      rw [if_pos rfl]
      exact ⟨v, valV_pos rfl, hd⟩
    · have ne : ¬ ((Sum.inr j, v) : Key × V).1 = .inr i := fun z => e (Sum.inr.inj z)
      rw [if_neg e, valV_neg ne]
      exact ih
theorem KVs_S.has {l : List (Str × D)} {r : List (Key × V)} (h : KVs_S K H O l r) (i : Str) : (valV r (.inr i)).isSome = (getS l i).isSome := by
  have := h.get i
  cases hg : getS l i with
  | none => rw [hg] at this; rw [this]; rfl
  | some d =>
    rw [hg] at this
    obtain ⟨v, h1, _⟩ := this
    rw [h1]; rfl
theorem KVs_S.app {l l' : List (Str × D)} {r r' : List (Key × V)} (h : KVs_S K H O l r) (g : KVs_S K H O l' r') : KVs_S K H O (l ++ l') (r ++ r') := by
  induction h with
  | nil => exact g
  | cons hd _ ih => exact .cons hd ih
theorem KVs_S.sub {l : List (Str × D)} {r : List (Key × V)} (h : KVs_S K H O l r) (i : Str) {d : D} {v : V} (hd : Dat K H O d v) :
    KVs_S K H O (l.map fun p => if p.1 = i then (p.1, d) else p) (r.map fun p => if p.1 = .inr i then (p.1, v) else p) := by
  induction h with
  | nil => exact .nil
  | @cons j d' v' l r hd' _ ih =>
    rw [List.map_cons, List.map_cons]
    by_cases e : j = i
    · subst e
      rw [if_pos rfl, if_pos rfl]
      exact .cons hd ih
    · rw [if_neg e, if_neg (fun z => e (Sum.inr.inj z))]
      exact .cons hd' ih
theorem KVs_S.put {l : List (Str × D)} {r : List (Key × V)} (h : KVs_S K H O l r) (i : Str) {d : D} {v : V} (hd : Dat K H O d v) : KVs_S K H O (putS l i d) (putK r (.inr i) v) := by
  unfold putS putK
  rw [valV_any, h.has i]
  cases (getS l i).isSome with
  | true => rw [if_pos rfl, if_pos rfl]; exact h.sub i hd
  | false => rw [if_neg (by decide), if_neg (by decide)]; exact h.app (.cons hd .nil)
theorem KVs_S.mono {O' : List Addr} {H' : Hp} (e : ∀ a o, a ∉ O → H a = some o → H' a = some o) (s : ∀ a, a ∈ O' → a ∈ O) {l : List (Str × D)} {r : List (Key × V)} (h : KVs_S K H O l r) : KVs_S K H' O' l r := by
  induction h with
  | nil => exact .nil
  | cons hd _ ih => exact .cons (Dat.to e s _ _ hd) ih
theorem KVs_S.keys {l : List (Str × D)} {r : List (Key × V)} (h : KVs_S K H O l r) : (r.map fun p => kD p.1) = l.map fun p => PyData.str p.1 := by
  induction h with
  | nil => rfl
  | cons _ _ ih => rw [List.map_cons, List.map_cons, ih]; rfl
theorem KVs_S.vals {l : List (Str × D)} {r : List (Key × V)} (h : KVs_S K H O l r) : RWs K H O (r.map (·.2)) (l.map fun p => W.d p.2) := by
  induction h with
  | nil => simp [RWs]
  | cons hd _ ih =>
    simp only [List.map_cons, RWs]
    exact ⟨_, _, rfl, by simpa only [RW] using hd, ih⟩
end

/-! ### combinators -/
/-- slot x's dict at what m says -/
def gGet_S (i : D) : Option (List (Str × D)) → Env → Res W
  | some kvs, e => match i with
    | .str k => ofO ((getS kvs k).map W.d) e
    | _ => .no
  | none, _ => .no
def eGetD_S (x : Nat) (m : ME) : ME := fun e => match e.getD x none with
  | some _ => bnd (m e) fun w e1 => gGet_S (vw w) ((e1.getD x none).bind kvI_S) e1
  | none => .no
def gIn_S (b : Bool) (i : D) : Option (List (Str × D)) → Env → Res Bool
  | some kvs, e => match i with
    | .str k => .ok ((getS kvs k).isSome == b) e
    | _ => .no
  | none, _ => .no
/-- m in slot x's dict (b), not in (!b) -/
def tInD_S (b : Bool) (x : Nat) (m : ME) : MT := fun e => bnd (m e) fun w e1 => gIn_S b (vw w) ((e1.getD x none).bind kvI_S) e1
def gPutD_S (i : Nat) (d k : D) (e : Env) : Option W → Res Out
  | some (.t g ws) => match kvI_S (.t g ws), k with
    | some kvs, .str n => if kvs.length < 16777216 then .ok .nx (e.set i (some (dcW_S (putS kvs n d)))) else .no
    | _, _ => .no
  | _ => .no
/-- slot i's dict: [mi] = mv -/
def sPutD_S (i : Nat) (mi mv : ME) : MS := fun e => bnd (mv e) fun w e1 => if isDc (e1.getD i none) = true then bnd (mi e1) fun wi e2 => gPutD_S i (vw w) (vw wi) e2 (e2.getD i none) else .no
section
variable {X : Cx} {P : List Nat} {e : Expr}
end
/-! ### evaluation -/
def kGetD_S (x : Nat) : Res W → Res W
  | .ok w e1 => gGet_S (vw w) ((e1.getD x none).bind kvI_S) e1
  | .ex y e => .ex y e
  | .no => .no
def kGetD0_S (x : Nat) (r : Res W) : Option W → Res W
  | some _ => kGetD_S x r
  | none => .no
theorem ev_getD_S {x : Nat} {m : ME} {e : Env} : eGetD_S x m e = kGetD0_S x (m e) (e.getD x none) := by
  unfold eGetD_S kGetD0_S
  cases e.getD x none with
  | none => rfl
  | some w => dsimp only; cases m e <;> rfl
theorem kGetD0_s_S {x : Nat} {r : Res W} {w : W} : kGetD0_S x r (some w) = kGetD_S x r := rfl
theorem kGetD_ok_S {x : Nat} {w : W} {e1 : Env} : kGetD_S x (.ok w e1) = gGet_S (vw w) ((e1.getD x none).bind kvI_S) e1 := rfl
theorem gGet_s_S {k : Str} {kvs : List (Str × D)} {e : Env} : gGet_S (.str k) (some kvs) e = ofO ((getS kvs k).map W.d) e := rfl
def kInD_S (b : Bool) (x : Nat) : Res W → Res Bool
  | .ok w e1 => gIn_S b (vw w) ((e1.getD x none).bind kvI_S) e1
  | .ex y e => .ex y e
  | .no => .no
theorem ev_inD_S {b : Bool} {x : Nat} {m : ME} {e : Env} : tInD_S b x m e = kInD_S b x (m e) := by unfold tInD_S; cases m e <;> rfl
theorem kInD_ok_S {b : Bool} {x : Nat} {w : W} {e1 : Env} : kInD_S b x (.ok w e1) = gIn_S b (vw w) ((e1.getD x none).bind kvI_S) e1 := rfl
theorem gIn_s_S {b : Bool} {k : Str} {kvs : List (Str × D)} {e : Env} : gIn_S b (.str k) (some kvs) e = .ok ((getS kvs k).isSome == b) e := rfl
def kPutD2_S (i : Nat) (w : W) : Res W → Res Out
  | .ok wi e2 => gPutD_S i (vw w) (vw wi) e2 (e2.getD i none)
  | .ex y e => .ex y e
  | .no => .no
def kPutD0_S (i : Nat) (mi : ME) (w : W) (e1 : Env) (o : Option W) : Res Out := if isDc o = true then kPutD2_S i w (mi e1) else .no
def kPutD1_S (i : Nat) (mi : ME) : Res W → Res Out
  | .ok w e1 => kPutD0_S i mi w e1 (e1.getD i none)
  | .ex y e => .ex y e
  | .no => .no
theorem ev_putD_S {i : Nat} {mi mv : ME} {e : Env} : sPutD_S i mi mv e = kPutD1_S i mi (mv e) := by
  unfold sPutD_S
  cases mv e with
  | ok w e1 =>
    show (if isDc (e1.getD i none) = true then bnd (mi e1) _ else .no) = if isDc (e1.getD i none) = true then kPutD2_S i w (mi e1) else .no
    split
    · cases mi e1 <;> rfl
    · rfl
  | ex y e => rfl
  | no => rfl
theorem kPutD0_s_S {i : Nat} {mi : ME} {w : W} {e1 : Env} {kvs : List (Str × D)} : kPutD0_S i mi w e1 (some (dcW_S kvs)) = kPutD2_S i w (mi e1) := rfl
theorem kPutD1_ok_S {i : Nat} {mi : ME} {w : W} {e1 : Env} : kPutD1_S i mi (.ok w e1) = kPutD0_S i mi w e1 (e1.getD i none) := rfl
theorem kPutD2_ok_S {i : Nat} {w wi : W} {e2 : Env} : kPutD2_S i w (.ok wi e2) = gPutD_S i (vw w) (vw wi) e2 (e2.getD i none) := rfl
theorem gPutD_s_S {i : Nat} {d : D} {n : Str} {e : Env} {kvs : List (Str × D)} (h : kvs.length < 16777216) : gPutD_S i d (.str n) e (some (dcW_S kvs)) = .ok .nx (e.set i (some (dcW_S (putS kvs n d)))) := by
  show (match kvI_S (dcW_S kvs), PyData.str n with | some kvs, .str n => _ | _, _ => _) = _
  rw [kvI_w_S]
  exact if_pos h
def kD1_S (tk : Str → D → Res (List (Str × D))) (wk wv : W) : Res (List (Str × D)) := match vw wk with
  | .str k => tk k (vw wv)
  | _ => .no
def cmpD_S (tg : Tg) (tt : MT) (tk tv : ME) (vs : List Nat) : List D → List (Str × D) → Env → Res (List (Str × D))
  | [], acc, e => .ok acc e
  | x :: xs, acc, e => match tg x e with
    | none => .no
    | some e0 => bnd (tt e0) fun b e1 => if b = true then bnd (tk e1) fun wk e2 => bnd (tv e2) fun wv e3 => kD1_S (fun k d => cmpD_S tg tt tk tv vs xs (putS acc k d) (wipeE e3 vs)) wk wv
      else cmpD_S tg tt tk tv vs xs acc (wipeE e1 vs)
def eDcG_S (src : MI) (tg : Tg) (tt : MT) (tk tv : ME) (vs : List Nat) : ME := fun e => bnd (src e) fun xs e1 => if xs.length < 16777216 then bnd (cmpD_S tg tt tk tv vs xs [] (wipeE e1 vs)) fun kvs e2 => .ok (dcW_S kvs) e2 else .no
section
variable {X : Cx} {P : List Nat}
end
/-! ### its evaluation -/
end Mi
set_option Elab.async false
set_option linter.all false
set_option maxRecDepth 100000
set_option maxHeartbeats 4000000
/-! Mi54: x[::s], x a list and s one of 1 and -1, told at the run -/
namespace Mi
open PySem PySem.Spec PyProof.Rows L2
section
variable {X : Cx}
def rStpA (K : PySem.W.Frag) : R2 := fun x y H Q => ∃ a xs i, x = .ref a ∧ y = .int i ∧ (i = 1 ∨ i = -1) ∧ SqL K H a xs ∧ ∀ p, H p = none → Q (.ref p) (upd H p (.lst (if i = 1 then xs else xs.reverse)))
theorem pick_one (items : Array Value) : slicePick items none none (some 1) = items := by
  have h : slicePick items none none (some 1) = slicePick items none none none := rfl
  rw [h, slicePick_all]
theorem pe_stepA {e st : Expr} {te ts : TE} {p3 pos : Pos} (he : PE X e te) (hs : PE X st ts) : PE X (.Subscript e (.Slice none none (some st) p3) pos) (tOp (rStpA X.K) te ts) := by
  refine ⟨fun pins s σ H Q I h => ?_⟩
  refine Subscript_ (thn (he.run pins s σ H _ I h) fun v s1 ⟨x, H1, I1, r1, q1⟩ => ?_)
  refine wpAny_Slice (thn (po_none.run pins s1 σ H1 (fun o H2 => o = none ∧ H2 = H1) I1 ⟨rfl, rfl⟩) fun vl s2 ⟨l, H2, I2, pl, el, e2⟩ => ?_)
  subst el e2
  refine thn (po_none.run pins s2 σ H2 (fun o H3 => o = none ∧ H3 = H2) I2 ⟨rfl, rfl⟩) fun vu s3 ⟨u, H3, I3, pu, eu, e3⟩ => ?_
  subst eu e3
  rw [evalPart_some]
  refine thn (hs.run pins s3 σ H3 _ I3 q1) fun vs s4 ⟨y, H4, I4, r4, q4⟩ => ?_
  obtain ⟨a, xs, i, ex, ey, hi, hx, q⟩ := q4
  subst ex ey
  cases r1
  obtain ⟨t, rfl⟩ := r4
  have I5 : Inv X pins σ H4 { s4 with heap := s4.heap.push { cls := .type "slice", data := .fields #[vl, vu, .int i t] } } := I4.kept (t' := s4.toks) fun b ob q => Heap.get?_push_of_some _ q
  show wpAny (model X.prog X.w) X.A (subscriptTail e (.Slice none none (some st) p3) (.ref a) (.ref s4.heap.objs.size)) (EP X pins σ Q) X.xe { s4 with heap := s4.heap.push { cls := .type "slice", data := .fields #[vl, vu, .int i t] } }
  obtain ⟨its, r, ht, hz⟩ := I5.list hx
  have hlen := r.length
  refine tail_any (ops := [.ref a, .ref s4.heap.objs.size]) ht.isList.typeIs (PySem.slot_list_getitem.lookup) ?_ (by with_unfolding_all rfl)
  rcases hi with rfl | rfl
  · refine wpAny_getItem_list_slice ht.isList (Heap.IsSliceOf.new _ vl vu (.int 1 t)) pl pu (.int 1 t) (by decide) ?_ (by rw [List.size_toArray]; omega)
    rw [pick_one]
    rw [if_pos rfl] at q
    refine ⟨.ref _, _, I5.laid (t' := s4.toks) (o := .lst xs) (fun b ob q => Heap.get?_push_of_some _ q) (Nat.le_refl _) ?_, rfl, q _ (I5.hok.fresh (Nat.le_refl _))⟩
    exact ⟨hz, _, 0, r, Heap.get?_push_size _ rfl⟩
  · refine wpAny_getItem_list_slice ht.isList (Heap.IsSliceOf.new _ vl vu (.int (-1) t)) pl pu (.int (-1) t) (by decide) ?_ (by rw [List.size_toArray]; omega)
    rw [PySem.W.krv_pick]
    rw [if_neg (by decide)] at q
    refine ⟨.ref _, _, I5.laid (t' := s4.toks) (o := .lst xs.reverse) (fun b ob q => Heap.get?_push_of_some _ q) (Nat.le_refl _) ?_, rfl, q _ (I5.hok.fresh (Nat.le_refl _))⟩
    exact ⟨by rw [List.length_reverse]; exact hz, _, 0, r.reverse, Heap.get?_push_size _ rfl⟩
end
def fStp : D → D → Option W
  | .list xs, .int i => if i = 1 then some (.l xs) else if i = -1 then some (.l xs.reverse) else none
  | _, _ => none
theorem op_stpM {K : KK} : Op2 K (rStpA K) fStp := fun H L x y dx dy w Q gd rl hx hy hf hQ => by
  cases dx <;> cases dy <;> simp only [fStp] at hf <;> try cases hf
  rename_i xs i
  have ey := hy.int rl
  subst ey
  obtain ⟨a, us, rfl, hs, hd⟩ := hx.list rl
  split at hf
  · rename_i e
    cases hf
    exact ⟨a, us, i, rfl, rfl, .inl e, hs, fun p hp => hQ _ _ fun g => by rw [if_pos e]; exact rl.newOwn hp (newK g) hd⟩
  · rename_i e
    split at hf
    · rename_i e2
      cases hf
      exact ⟨a, us, i, rfl, rfl, .inr e2, hs, fun p hp => hQ _ _ fun g => by rw [if_neg e]; exact rl.newOwn hp (newK g) hd.reverse⟩
    · cases hf
theorem fStp_1 {xs : List D} : fStp (.list xs) (.int 1) = some (.l xs) := rfl
theorem fStp_m {xs : List D} : fStp (.list xs) (.int (-1)) = some (.l xs.reverse) := rfl
end Mi
set_option Elab.async false
set_option linter.all false
set_option maxRecDepth 100000
set_option maxHeartbeats 4000000
/-! Mi55: f(a, g(..)) where g may raise; l.count(x) over data; or and == in handlers -/
namespace Mi
open PySem PySem.Spec PyProof.Rows L2
/-- m0 is evaluated first, then m1, and nothing else in m raises -/
def eXG (m0 m1 m : ME) : ME := fun e => match m0 e with
  | .ok _ e1 => (match m1 e1 with
    | .ex x e' => .ex x e'
    | _ => cut (m e))
  | _ => .no
def tX2 (K : KK) (mg : Str → Option Value) (P : List Nat) (W' : WX) (m0 m1 : ME) : TE := fun σ H _ => ∃ p0 T env w0 e1 x e', SR K P p0 T σ env H ∧ Good K H ∧ m0 env = .ok w0 e1 ∧ m1 e1 = .ex x e' ∧ ∀ H' cls d, SR K P p0 (xT d x ++ T) σ e' H' → Good K H' → XIs mg x cls d → W' cls d σ H'
section
variable {X : Cx} {P : List Nat} {e a b : Expr} {es : List Expr} {pos : Pos} {W' : WX} {lv : Nat}
theorem pe_xg {m m0 m1 : ME} (h : PE X e (tE X.K P m)) (hx : PE X e (tX2 X.K X.mg P W' m0 m1)) : PE X e (tEX X.K X.mg P W' (eXG m0 m1 m)) := by
  refine ⟨fun pins s σ H Q I hq => ?_⟩
  obtain ⟨p0, T, env, sr, g, q⟩ := hq
  unfold eXG at q
  cases h0 : m0 env with
  | ok w0 e1 =>
    rw [h0] at q
    dsimp only at q
    have rest : (match cut (m env) with
      | .ok w env' => ∀ v H', SR X.K P p0 ((v, w) :: T) σ env' H' → Good X.K H' → Q v H'
      | .ex x env' => ∀ H' cls d, SR X.K P p0 (xT d x ++ T) σ env' H' → Good X.K H' → XIs X.mg x cls d → W' cls d σ H'
      | .no => False) → wpAny (model X.prog X.w) X.A (eval e X.env) (EP X pins σ Q) X.xe s := fun q => by
      cases hm : m env with
      | ok w e' => rw [hm] at q; exact h.run pins s σ H Q I ⟨p0, T, env, w, e', sr, g, hm, q⟩
      | ex x e' => rw [hm] at q; exact q.elim
      | no => rw [hm] at q; exact q.elim
    cases h1 : m1 e1 with
    | ex x e' =>
      rw [h1] at q
      exact hx.run pins s σ H Q I ⟨p0, T, env, w0, e1, x, e', sr, g, h0, h1, q⟩
    | ok w1 e2 => rw [h1] at q; exact rest q
    | no => rw [h1] at q; exact rest q
  | ex x e' => rw [h0] at q; exact q.elim
  | no => rw [h0] at q; exact q.elim
theorem pe_fnA {C : Orc} {c : Nat} {x : Str} {p : Pos} {m0 m1 : ME} (o : Ok X.A lv) (h : Cal X.prog X.w X.K X.mg X.base lv C x c 2) (hg : Gl X x) (h0 : PE X a (tE X.K P m0)) (h1 : PE X b (tEX X.K X.mg P W' m1)) (hdb : (x == ("__debug__" : Str)) = false := by decide)
    (hs : starEach [b] X.env = (false, eval b X.env) :: starEach [] X.env := by rfl) (he : starEach [a, b] X.env = (false, eval a X.env) :: starEach [b] X.env := by rfl) (hpl : (backTo pos (starEach [b] X.env)).any (·.1) = false := by rfl) :
    PE X (.Call (.Name x p) [a, b] [] pos) (tEX X.K X.mg P W' (eXG m0 m1 (eCall C c [.vl m0, .vl m1]))) := by
  refine pe_xg (pe_fn o h rfl hg (pg_valM h0 (pg_valM (exOk h1) pg_nilM hs) he) hdb he hpl) ?_
  obtain ⟨f, fd, ps, k1, k2, k3, k4⟩ := h
  refine impE (pe_callG k4 o.gd o.rm hg k1 k2 k3 .nil (pa_cons h0 (pa_cons (exX h1) pa_nil hs) he) hdb he hpl) fun σ H Q ⟨p0, T, env, w0, e1, y, e', sr, g, q0, q1, q⟩ => ?_
  exact ⟨p0, T, env, w0, e1, sr, g, q0, fun v H1 sr1 g1 => ⟨p0, (v, w0) :: T, e1, y, e', sr1, g1, q1, fun H' cls d sr2 g2 xi => q H' cls d (sr2.sub (xT_mid (S := [(v, w0)]))) g2 xi⟩⟩
end
/-! ### l.count(x) -/
section
variable {X : Cx} {P : List Nat}
def rCntD (K : PySem.W.Frag) : R2 := fun x y H Q => ∃ (a : Addr) (d : PyData) (ds : List PyData), x = V.ref a ∧ Dp K H (V.ref a) (.list ds) ∧ Dp K H y d ∧
  SeqAt.shaped (.list ds) = true ∧ SeqAt.shaped d = true ∧ Q (.int (ds.countP fun z => PyData.eqv z d : Nat)) H
theorem mt_cntD (hu : X.A.units + 65 < cLine) : MtR X "list.count" (fun x xs H Q => ∃ y, xs = [y] ∧ rCntD X.K x y H Q) := by
  intro pins s σ H x xs v us Q I rx rxs h
  obtain ⟨y, rfl, a, d, ds, rfl, hl, hy, sl, sd, q⟩ := h
  cases rx
  cases rxs with
  | cons ry rt =>
    rename_i uy ut
    cases rt
    obtain ⟨bs, r1⟩ := Dp.reads I d y uy hy ry
    have hxs : PyData.canLayAll0 ds = true := SeqAt.canLay_of_shaped sl
    have hroom : X.A.units + 1 + min (PyData.depthAll ds) d.depth < cLine := room_in_shaped sd hu
    cases hl with
    | lst hs ha =>
      obtain ⟨its, rv, ⟨⟨cls, dd, data, sls⟩, n, ho, hc, hdn, hdt⟩, hlen⟩ := I.list hs
      simp only at hc hdt
      subst hc hdt
      obtain ⟨as, h4⟩ := Dp.readsAll I ds _ its ha rv
      have hmap : its.map (SeqAt.readOf s.heap) = ds := SeqAt.readsAll_map ds its as hxs h4
      refine call_meets PySem.F.slot_list_count ⟨_, ho, rfl⟩ PySem.F.entry_list_count (PySem.F.args_list_count_2 _ _)
        (SeqAt.list_countAt a its.toArray n dd sls uy (fun u => PyData.eqv (SeqAt.readOf s.heap u) d)) ⟨ho, SeqAt.items_eqAt (vs := its.toArray) (show ReadsAll s.heap its.toArray.toList ds as from h4) r1 hxs (SeqAt.canLay_of_shaped sd) hroom, ?_⟩
      have ec : its.toArray.toList.countP (fun u => PyData.eqv (SeqAt.readOf s.heap u) d) = ds.countP fun z => PyData.eqv z d := by
        rw [← hmap, List.countP_map]; rfl
      refine ⟨.int (ds.countP fun z => PyData.eqv z d : Nat), H, I.tok _, ⟨s.toks, ?_⟩, q⟩
      show Value.int ((its.toArray.toList.countP (fun u => PyData.eqv (SeqAt.readOf s.heap u) d) : Nat) : Int) s.toks = _
      rw [ec]
end
def fCnt : D → D → Option W
  | .list xs, y => if (SeqAt.shaped (.list xs) = true ∧ noD (.list xs) = true) ∧ SeqAt.shaped y = true ∧ noD y = true then some (.d (.int (xs.countP fun z => PyData.eqv z y : Nat))) else none
  | _, _ => none
theorem op_cntM {K : KK} : Op2 K (rCntD K) fCnt := fun H L x y dx dy w Q gd rl hx hy hf hQ => by
  unfold fCnt at hf
  split at hf
  · split at hf
    · rename_i xs hc
      cases hf
      have h1 := hx.dp rl hc.1.2
      obtain ⟨a, us, rfl, hs, hd⟩ := hx.list rl
      exact ⟨a, _, xs, rfl, h1, hy.dp rl hc.2.2, hc.1.1, hc.2.1, hQ _ H fun _ => rl.data (by simp [Dat])⟩
    · cases hf
  · cases hf
/-- [..].count(x) -/
def eCn (m b : ME) : ME := fun e => bnd (m e) fun w e1 => match w with
  | .l xs => bnd (b e1) fun w2 e2 => ofO (fCnt (.list xs) (vw w2)) e2
  | _ => .no
section
variable {X : Cx} {P : List Nat} {e : Expr}
theorem pe_cn {m b : ME} (h : PE X e (tBM X.K "list" (fun x xs H Q => ∃ y, xs = [y] ∧ rCntD X.K x y H Q) (tE X.K P m) (tCons (tE X.K P b) tNil))) : PE X e (tE X.K P (eCn m b)) := mkE h fun p0 T σ env H w env' Q sr g hm hQ => by
  obtain ⟨w1, e1, h1, hm⟩ := bnd_eq_ok hm
  cases w1 with
  | l xs =>
    obtain ⟨w2, e2, h2, hm⟩ := bnd_eq_ok hm
    obtain ⟨h3, rfl⟩ := ofO_eq_ok hm
    refine ⟨p0, T, env, _, e1, sr, g, h1, fun v H1 sr1 g1 => ⟨?_, ⟨p0, (v, .l xs) :: T, e1, w2, _, sr1, g1, h2, fun v2 H2 sr2 g2 => ⟨v2, rfl, ?_⟩⟩⟩⟩
    · obtain ⟨a, vs, rfl, hH, _⟩ := sr1.lst
      exact .inl ⟨rfl, vs, .inl (.inl hH)⟩
    · have sr3 := sr2.fz
      refine op_cntM H2 _ v v2 (.list xs) (vw w2) w _ g2 sr3.rels ⟨.l xs, List.mem_append_right _ (List.mem_cons_of_mem _ List.mem_cons_self), rfl, rfl⟩ ⟨.d (vw w2), List.mem_append_right _ List.mem_cons_self, rfl, rfl⟩ h3 fun v3 H3 q => hQ v3 H3 fun g3 => ?_
      exact (sr3.push (q g3)).sub (List.Sublist.cons_cons _ (List.Sublist.trans (List.sublist_cons_self _ _) (List.sublist_cons_self _ _)))
  | _ => cases hm
end
/-! ### or and == in handlers -/
def hvO (h1 h2 : HV) : HV := fun x e => match h1 x e with
  | some (.d (.bool true)) => some (.d (.bool true))
  | some (.d (.bool false)) => h2 x e
  | _ => none
/-- == of texts -/
def hvEq (h1 h2 : HV) : HV := fun x e => match h1 x e with
  | some (.d (.str s)) => (match h2 x e with
    | some (.d (.str t)) => some (.d (.bool (s == t)))
    | _ => none)
  | _ => none
section
variable {X : Cx} {a : Addr} {oe : Obj} {cls : Value} {d : Option Addr} {pn : List (Addr × Obj)} {P : List Nat} {i : Nat} {x : Exn} {e : Expr} {es : List Expr} {pos : Pos}
theorem hv_or {b : Expr} {rest : List Expr} {h1 h2 : HV} (ha : PE X e (tHV X.K X.mg P i a cls d x h1)) (hb : PE X (.BoolOp .Or (b :: rest) pos) (tHV X.K X.mg P i a cls d x h2)) : PE X (.BoolOp .Or (e :: b :: rest) pos) (tHV X.K X.mg P i a cls d x (hvO h1 h2)) := mkHV (pe_or ha hb) fun p0 T σ env H w Q hi sr g hm hQ => by
  unfold hvO at hm
  split at hm
  · rename_i hq
    cases hm
    refine ⟨hi, p0, T, env, _, sr, g, hq, fun v H1 sr1 g1 => ⟨true, by simpa only [Dat] using sr1.dat, ?_⟩⟩
    rw [if_pos rfl]
    exact hQ _ H1 fun _ => sr1.drop.push (sr1.drop.rels.data (by simp [Dat]))
  · rename_i hq
    refine ⟨hi, p0, T, env, _, sr, g, hq, fun v H1 sr1 g1 => ⟨false, by simpa only [Dat] using sr1.dat, ?_⟩⟩
    rw [if_neg (by simp)]
    exact ⟨hi, p0, T, env, w, sr1.drop, g1, hm, fun v2 H2 sr2 g2 => hQ v2 H2 fun _ => sr2⟩
  · cases hm
theorem hv_eq {b : Expr} {h1 h2 : HV} (ha : PE X e (tHV X.K X.mg P i a cls d x h1)) (hb : PE X b (tHV X.K X.mg P i a cls d x h2)) (hm : behindInMarks .Eq b = false := by rfl) : PE X (.Compare e [.Eq] [b] pos) (tHV X.K X.mg P i a cls d x (hvEq h1 h2)) := mkHV (pe_cmpR op_eq ha hb hm) fun p0 T σ env H w Q hi sr g hm hQ => by
  unfold hvEq at hm
  split at hm
  · rename_i s1 hq1
    split at hm
    · rename_i s2 hq2
      cases hm
      refine ⟨hi, p0, T, env, _, sr, g, hq1, fun v H1 sr1 g1 => ?_⟩
      have e1 : v = .str s1 := sr1.str
      subst e1
      refine ⟨hi, p0, T, env, _, sr1.drop, g1, hq2, fun v2 H2 sr2 g2 => ?_⟩
      have e2 : v2 = .str s2 := sr2.str
      subst e2
      refine ⟨rfl, ?_⟩
      rw [dec_str]
      exact hQ _ H2 fun _ => sr2.drop.push (sr2.drop.rels.data (by simp [Dat]))
    · cases hm
  · cases hm
end
/-! ### text * int -/
def repS (x : Str) (k : Nat) : Str := ⟨(List.replicate k x.cps).foldl (· ++ ·) #[]⟩
theorem repS_one (x : Str) : repS x 1 = x := by
  cases x
  show Str.mk (#[] ++ _) = _
  simp
def rStrMul : R2 := fun x y H Q => ∃ (s : Str) (n : Int), x = .str s ∧ y = .int n ∧ 1 ≤ n ∧ n ≤ 1000 ∧ 1 ≤ s.length ∧ s.length ≤ 1000 ∧ Q (.str (repS s n.toNat)) H
section
variable {X : Cx}
theorem op_strMul : OpR X (binaryOp .Mult) rStrMul := by
  intro pins s σ H x y v u Q I rx ry h
  obtain ⟨z, n, rfl, rfl, h1, h2, h3, h4, q⟩ := h
  obtain ⟨t, rfl⟩ := rx
  obtain ⟨t2, rfl⟩ := ry
  have hprod : z.length * n.toNat ≤ 1000000 := Nat.le_trans (Nat.mul_le_mul h4 (show n.toNat ≤ 1000 by omega)) (by decide)
  have hlong : Builtin.Str.tooLong (z.length * n.toNat) = false := by
    show decide (_ > sizeLine) = false
    rw [sizeLine_eq]
    exact decide_eq_false (by omega)
  refine P.mul_str (by
      have a1 : ¬ n < -(2 ^ 63 : Int) := by omega
      have a2 : ¬ n ≥ 2 ^ 63 := by omega
      rw [decide_eq_false a1, decide_eq_false a2]; rfl) (fun _ _ => ?_) (fun _ _ => ?_) ?_
  · have e : (z.length : Int) * n = ((z.length * n.toNat : Nat) : Int) := by rw [Int.natCast_mul]; congr 1; omega
    have : (z.length : Int) ≤ (2 ^ 63 - 1) / n := Int.le_ediv_of_mul_le (by omega) (by rw [e]; omega)
    omega
  · exact hlong
  · rw [if_neg (by omega)]
    by_cases hn : n = 1
    · subst hn
      rw [if_pos (by rfl)]
      have e : repS z (1 : Int).toNat = z := repS_one z
      rw [e] at q
      exact ⟨.str z, H, I, ⟨_, rfl⟩, q⟩
    · rw [if_neg (by simp; omega)]
      refine ⟨?_, .str (repS z n.toNat), H, I.tok _, ⟨_, rfl⟩, q⟩
      exact fits_reps hlong
end
def fStrMul : D → D → Option W
  | .str s, .int n => if 1 ≤ n ∧ n ≤ 1000 ∧ 1 ≤ s.length ∧ s.length ≤ 1000 then some (.d (.str (repS s n.toNat))) else none
  | _, _ => none
theorem op_strMulM {K : KK} : Op2 K rStrMul fStrMul := fun H L x y dx dy w Q gd rl hx hy hf hQ => by
  cases dx <;> cases dy <;> simp only [fStrMul] at hf <;> try cases hf
  split at hf
  · rename_i hc
    cases hf
    exact ⟨_, _, hx.str rl, hy.int rl, hc.1, hc.2.1, hc.2.2.1, hc.2.2.2, hQ _ H fun _ => rl.data (by simp [Dat])⟩
  · cases hf
end Mi
set_option Elab.async false
set_option linter.all false
set_option maxRecDepth 100000
set_option maxHeartbeats 4000000
/-! Ev: mirrors run from the left; what is not yet run stays a term -/
namespace Mi
open PySem L2
section
variable {α β : Type}
/-! ### contexts -/
def kS (b : MS) : Res Out → Res Out
  | .ok .nx e => b e
  | .ok .bk e => .ok .bk e
  | .ok .ct e => .ok .ct e
  | .ok (.rt w) e => .ok (.rt w) e
  | .ex x e => .ex x e
  | .no => .no
def kIf {α : Type} (a b : Env → Res α) : Res Bool → Res α
  | .ok true e => a e
  | .ok false e => b e
  | .ex x e => .ex x e
  | .no => .no
def kM {α β : Type} (f : α → β) : Res α → Res β
  | .ok a e => .ok (f a) e
  | .ex x e => .ex x e
  | .no => .no
def kSet (i : Nat) : Res W → Res Out
  | .ok w e => .ok .nx (e.set i (some w))
  | .ex x e => .ex x e
  | .no => .no
def kTg (t : Tg) : Res W → Res Out
  | .ok w e => (match t (vw w) e with
    | some e2 => .ok .nx e2
    | none => .no)
  | .ex x e => .ex x e
  | .no => .no
def kAnd (b : MT) : Res Bool → Res Bool
  | .ok true e => b e
  | .ok false e => .ok false e
  | .ex x e => .ex x e
  | .no => .no
def kOr (b : MT) : Res Bool → Res Bool
  | .ok false e => b e
  | .ok true e => .ok true e
  | .ex x e => .ex x e
  | .no => .no
def kAndE (b : ME) : Res W → Res W
  | .ok w e => (match vw w with
    | .bool true => b e
    | .bool false => .ok (.d (.bool false)) e
    | _ => .no)
  | .ex x e => .ex x e
  | .no => .no
def kOrE (b : ME) : Res W → Res W
  | .ok w e => (match vw w with
    | .bool true => .ok (.d (.bool true)) e
    | .bool false => b e
    | _ => .no)
  | .ex x e => .ex x e
  | .no => .no
def kNotE : Res W → Res W
  | .ok w e => (match vw w with
    | .bool c => .ok (.d (.bool (!c))) e
    | _ => .no)
  | .ex x e => .ex x e
  | .no => .no
def oVr (i : Nat) (e : Env) : Option W → Res (Nat ⊕ W)
  | some _ => .ok (.inl i) e
  | none => .no
def g1 {α : Type} (f : D → Option α) (e : Env) : Option D → Res α
  | some d => ofO (f d) e
  | none => .no
def kO1 (f : D → Option W) : Res (Nat ⊕ W) → Res W
  | .ok r e => g1 f e (gv e r)
  | .ex x e => .ex x e
  | .no => .no
def g2 {α : Type} (f : D → D → Option α) (e : Env) : Option D → Option D → Res α
  | some x, some y => ofO (f x y) e
  | _, _ => .no
def kO2' {α : Type} (f : D → D → Option α) (r : Nat ⊕ W) : Res (Nat ⊕ W) → Res α
  | .ok r2 e => g2 f e (gv e r) (gv e r2)
  | .ex x e => .ex x e
  | .no => .no
def kO2 {α : Type} (f : D → D → Option α) (b : Opd) : Res (Nat ⊕ W) → Res α
  | .ok r e => kO2' f r (b.run e)
  | .ex x e => .ex x e
  | .no => .no
def kL' (r : Nat ⊕ W) : Res (List (Nat ⊕ W)) → Res (List (Nat ⊕ W))
  | .ok rs e => .ok (r :: rs) e
  | .ex x e => .ex x e
  | .no => .no
def kL (os : List Opd) : Res (Nat ⊕ W) → Res (List (Nat ⊕ W))
  | .ok r e => kL' r (evL os e)
  | .ex x e => .ex x e
  | .no => .no
def gB (f : List D → Option W) (e : Env) : Option (List D) → Res W
  | some ds => ofO (f ds) e
  | none => .no
def kB (f : List D → Option W) : Res (List (Nat ⊕ W)) → Res W
  | .ok rs e => gB f e (gvL e rs)
  | .ex x e => .ex x e
  | .no => .no
def kT' (d : D) : Res (List D) → Res (List D)
  | .ok ds e => .ok (d :: ds) e
  | .ex x e => .ex x e
  | .no => .no
def kT (ms : List ME) : Res W → Res (List D)
  | .ok w e => kT' (vw w) (evT ms e)
  | .ex x e => .ex x e
  | .no => .no
def kG' (d : Nat ⊕ D) : Res (List (Nat ⊕ D)) → Res (List (Nat ⊕ D))
  | .ok ds e => .ok (d :: ds) e
  | .ex x e => .ex x e
  | .no => .no
def kG (ms : List Arg) : Res W → Res (List (Nat ⊕ D))
  | .ok w e => kG' (.inr (vw w)) (evG ms e)
  | .ex x e => .ex x e
  | .no => .no
def gG (i : Nat) (as : List Arg) (e : Env) : Option W → Res (List (Nat ⊕ D))
  | some (.d x) => kG' (.inr x) (evG as e)
  | some _ => kG' (.inl i) (evG as e)
  | none => .no
def kP (w : W) : Option Env → Res W
  | some e => .ok w e
  | none => .no
def kPx (x : Exn) : Option Env → Res W
  | some e => .ex x e
  | none => .no
def kC2 (rs : List (Nat ⊕ D)) (e : Env) : CRes → Res W
  | .ok w outs => kP w (putO rs outs e)
  | .ex x outs => kPx x (putO rs outs e)
  | .no => .no
def kC1 (C : Orc) (k : Nat) (rs : List (Nat ⊕ D)) : Option (List W × Env) → Res W
  | some p => kC2 rs p.2 (C k p.1)
  | none => .no
def kC (C : Orc) (k : Nat) : Res (List (Nat ⊕ D)) → Res W
  | .ok rs e => kC1 C k rs (takeA rs e)
  | .ex x e => .ex x e
  | .no => .no
def gPut (i : Nat) (w wi : W) (e : Env) : Option W → Res Out
  | some (.l xs) => (match vw wi with
    | .int k => (match ixN xs.length k with
      | some j => .ok .nx (e.set i (some (.l (xs.set j (vw w)))))
      | none => .no)
    | _ => .no)
  | _ => .no
def kPut2 (i : Nat) (w : W) : Res W → Res Out
  | .ok wi e => gPut i w wi e (e.getD i none)
  | .ex x e => .ex x e
  | .no => .no
def kPut1 (i : Nat) (mi : ME) : Res W → Res Out
  | .ok w e => if isL (e.getD i none) = true then kPut2 i w (mi e) else .no
  | .ex x e => .ex x e
  | .no => .no
def gMu (f : List D → List D → Option (W × List D)) (i : Nat) (ds : List D) (e : Env) : Option W → Res W
  | some (.l xs) => (match f xs ds with
    | some p => .ok p.1 (e.set i (some (.l p.2)))
    | none => .no)
  | _ => .no
def kMu (f : List D → List D → Option (W × List D)) (i : Nat) : Res (List D) → Res W
  | .ok ds e => gMu f i ds e (e.getD i none)
  | .ex x e => .ex x e
  | .no => .no
def kFor (tg : Tg) (b : MS) : Res (List D) → Res Out
  | .ok xs e => forL tg b xs e
  | .ex x e => .ex x e
  | .no => .no
def kFor1 (tg : Tg) (b : MS) (xs : List D) : Res Out → Res Out
  | .ok .nx e => forL tg b xs e
  | .ok .ct e => forL tg b xs e
  | .ok .bk e => .ok .nx e
  | .ok (.rt w) e => .ok (.rt w) e
  | .ex x e => .ex x e
  | .no => .no
def kFor0 (tg : Tg) (b : MS) (xs : List D) : Option Env → Res Out
  | some e => kFor1 tg b xs (b e)
  | none => .no
def kLc (tg : Tg) (tt : MT) (te : ME) (vs : List Nat) : Res (List D) → Res W
  | .ok xs e => if xs.length < 16777216 then kM W.l (cmpL tg tt te vs xs (wipeE e vs)) else .no
  | .ex x e => .ex x e
  | .no => .no
def kSeqI : Res W → Res (List D)
  | .ok w e => (match vw w with
    | .list xs => .ok xs e
    | .tuple xs => .ok xs e
    | _ => .no)
  | .ex x e => .ex x e
  | .no => .no
def kR1 : Res W → Res (List D)
  | .ok w e => (match vw w with
    | .int j => if -4611686018427387904 ≤ j ∧ j < 4611686018427387904 then .ok (rng 0 j.toNat) e else .no
    | _ => .no)
  | .ex x e => .ex x e
  | .no => .no
def kR2' (w : W) : Res W → Res (List D)
  | .ok w2 e2 => (match vw w with
    | .int i => (match vw w2 with
      | .int j => if -4611686018427387904 ≤ i ∧ i < 4611686018427387904 ∧ -4611686018427387904 ≤ j ∧ j < 4611686018427387904 then .ok (rng i (j - i).toNat) e2 else .no
      | _ => .no)
    | _ => .no)
  | .ex x e => .ex x e
  | .no => .no
def kR2 (b : ME) : Res W → Res (List D)
  | .ok w e => kR2' w (b e)
  | .ex x e => .ex x e
  | .no => .no
def kTru : Res (Nat ⊕ W) → Res Bool
  | .ok r e => g1 truD e (gv e r)
  | .ex x e => .ex x e
  | .no => .no
def kRep2 (w : W) : Res W → Res W
  | .ok w2 e2 => (match w with
    | .l xs => (match vw w2 with
      | .int k => if -9223372036854775808 ≤ k ∧ k < 9223372036854775808 ∧ xs.length * k.toNat ≤ 16777216 then .ok (.l (List.replicate k.toNat xs).flatten) e2 else .no
      | _ => .no)
    | _ => .no)
  | .ex x e => .ex x e
  | .no => .no
def kRep (b : ME) : Res W → Res W
  | .ok w e => kRep2 w (b e)
  | .ex x e => .ex x e
  | .no => .no
def rV (i : Nat) (e : Env) : Option W → Res W
  | some (.d d) => .ok (.d d) e
  | some (.l xs) => .ok (.d (.list xs)) (e.set i (some (.d (.list xs))))
  | some (.t g ws) => .ok (.d (vw (.t g ws))) (e.set i (some (.d (vw (.t g ws)))))
  | none => .no

/-! ### runs -/
variable {e : Env}
theorem ev_seq {a b : MS} : sSeq a b e = kS b (a e) := by
  unfold sSeq
  cases a e with
  | ok o e1 => cases o <;> rfl
  | ex x e1 => rfl
  | no => rfl
theorem ev_if {t : MT} {a b : MS} : sIf t a b e = kIf a b (t e) := by
  unfold sIf
  cases t e with
  | ok o e1 => cases o <;> rfl
  | ex x e1 => rfl
  | no => rfl
theorem ev_ifE {t : MT} {a b : ME} : eIf t a b e = kIf a b (t e) := by
  unfold eIf
  cases t e with
  | ok o e1 => cases o <;> rfl
  | ex x e1 => rfl
  | no => rfl
theorem ev_nx : sNx e = .ok .nx e := rfl
theorem ev_bk : sBk e = .ok .bk e := rfl
theorem ev_ct : sCt e = .ok .ct e := rfl
theorem ev_E {m : ME} : sE m e = kM (fun _ => Out.nx) (m e) := by unfold sE; cases m e <;> rfl
theorem ev_set {i : Nat} {m : ME} : sSet i m e = kSet i (m e) := by unfold sSet; cases m e <;> rfl
theorem ev_tg {t : Tg} {m : ME} : sTg t m e = kTg t (m e) := by unfold sTg; cases m e <;> rfl
theorem ev_ret {m : ME} : sRet m e = kM (fun w => Out.rt (.d (vw w))) (m e) := by unfold sRet; cases m e <;> rfl
theorem ev_retO {m : ME} : sRetO m e = kM Out.rt (m e) := by unfold sRetO; cases m e <;> rfl
theorem ev_retN : sRetN e = .ok (.rt (.d .none)) e := rfl
theorem ev_put {i : Nat} {mi mv : ME} : sPut i mi mv e = kPut1 i mi (mv e) := by
  unfold sPut
  cases mv e with
  | ok w e1 =>
    show (if isL (e1.getD i none) = true then _ else Res.no) = (if isL (e1.getD i none) = true then kPut2 i w (mi e1) else Res.no)
    split
    · cases mi e1 with
      | ok wi e2 =>
        show (match vw wi with | .int k => _ | _ => Res.no) = gPut i w wi e2 (e2.getD i none)
        unfold gPut
        cases e2.getD i none with
        | none => cases vw wi <;> rfl
        | some x => cases x with
          | d y => cases vw wi <;> rfl
          | l ys => cases vw wi <;> rfl
          | t g ws => cases vw wi <;> rfl
      | ex x e2 => rfl
      | no => rfl
    · rfl
  | ex x e1 => rfl
  | no => rfl
theorem ev_for {src : MI} {tg : Tg} {b : MS} : sFor src tg b e = kFor tg b (src e) := by unfold sFor; cases src e <;> rfl
theorem ev_forN {tg : Tg} {b : MS} : forL tg b [] e = .ok .nx e := rfl
theorem ev_forC {tg : Tg} {b : MS} {x : D} {xs : List D} : forL tg b (x :: xs) e = kFor0 tg b xs (tg x e) := by
  show (match tg x e with | none => Res.no | some e0 => bnd (b e0) fun o e1 => match o with | .nx => forL tg b xs e1 | .ct => forL tg b xs e1 | .bk => .ok .nx e1 | .rt w => .ok (.rt w) e1) = _
  cases tg x e with
  | none => rfl
  | some e0 =>
    show bnd (b e0) _ = kFor1 tg b xs (b e0)
    cases b e0 with
    | ok o e1 => cases o <;> rfl
    | ex x e1 => rfl
    | no => rfl
theorem ev_C {d : D} : eC d e = .ok (.d d) e := rfl
theorem ev_V {i : Nat} : eV i e = rV i e (e.getD i none) := by
  unfold eV
  cases e.getD i none with
  | none => rfl
  | some w => cases w <;> rfl
theorem ev_vr {i : Nat} : (Opd.vr i).run e = oVr i e (e.getD i none) := by
  show (match e.getD i none with | some _ => Res.ok (Sum.inl i) e | none => Res.no) = _
  cases e.getD i none <;> rfl
theorem ev_ex {m : ME} : (Opd.ex m).run e = kM Sum.inr (m e) := by
  show bnd (m e) _ = _
  cases m e <;> rfl
theorem ev_o1 {f : D → Option W} {a : Opd} : eO1 f a e = kO1 f (a.run e) := by
  unfold eO1
  cases a.run e with
  | ok r e1 => show (match gv e1 r with | some d => _ | none => _) = g1 f e1 (gv e1 r); cases gv e1 r <;> rfl
  | ex x e1 => rfl
  | no => rfl
theorem ev_o2 {f : D → D → Option W} {a b : Opd} : eO2 f a b e = kO2 f b (a.run e) := by
  unfold eO2
  cases a.run e with
  | ok r e1 =>
    show bnd (b.run e1) _ = kO2' f r (b.run e1)
    cases b.run e1 with
    | ok r2 e2 =>
      show (match gv e2 r with | some x => _ | none => _) = g2 f e2 (gv e2 r) (gv e2 r2)
      cases gv e2 r with
      | none => rfl
      | some x => cases gv e2 r2 <;> rfl
    | ex x e2 => rfl
    | no => rfl
  | ex x e1 => rfl
  | no => rfl
theorem ev_t2 {f : D → D → Option Bool} {a b : Opd} : tO2 f a b e = kO2 f b (a.run e) := by
  unfold tO2
  cases a.run e with
  | ok r e1 =>
    show bnd (b.run e1) _ = kO2' f r (b.run e1)
    cases b.run e1 with
    | ok r2 e2 =>
      show (match gv e2 r with | some x => _ | none => _) = g2 f e2 (gv e2 r) (gv e2 r2)
      cases gv e2 r with
      | none => rfl
      | some x => cases gv e2 r2 <;> rfl
    | ex x e2 => rfl
    | no => rfl
  | ex x e1 => rfl
  | no => rfl
theorem ev_tru {a : Opd} : tTru a e = kTru (a.run e) := by
  unfold tTru
  cases a.run e with
  | ok r e1 => show (match gv e1 r with | some d => _ | none => _) = g1 truD e1 (gv e1 r); cases gv e1 r <;> rfl
  | ex x e1 => rfl
  | no => rfl
theorem ev_and {a b : MT} : tAnd' a b e = kAnd b (a e) := by
  unfold tAnd'
  cases a e with
  | ok o e1 => cases o <;> rfl
  | ex x e1 => rfl
  | no => rfl
theorem ev_or {a b : MT} : tOr' a b e = kOr b (a e) := by
  unfold tOr'
  cases a e with
  | ok o e1 => cases o <;> rfl
  | ex x e1 => rfl
  | no => rfl
theorem ev_not {a : MT} : tNot' a e = kM Bool.not (a e) := by unfold tNot'; cases a e <;> rfl
theorem ev_yes : mYes e = .ok true e := rfl
theorem ev_andE {a b : ME} : eAnd a b e = kAndE b (a e) := by unfold eAnd; cases a e <;> rfl
theorem ev_orE {a b : ME} : eOr a b e = kOrE b (a e) := by unfold eOr; cases a e <;> rfl
theorem ev_notE {a : ME} : eNot a e = kNotE (a e) := by unfold eNot; cases a e <;> rfl
theorem ev_LN : evL [] e = .ok [] e := rfl
theorem ev_LC {o : Opd} {os : List Opd} : evL (o :: os) e = kL os (o.run e) := by
  show bnd (o.run e) _ = _
  cases o.run e with
  | ok r e1 =>
    show bnd (evL os e1) _ = kL' r (evL os e1)
    cases evL os e1 <;> rfl
  | ex x e1 => rfl
  | no => rfl
theorem ev_B {f : List D → Option W} {os : List Opd} : eB f os e = kB f (evL os e) := by
  unfold eB
  cases evL os e with
  | ok rs e1 =>
    show (match gvL e1 rs with | some ds => _ | none => _) = gB f e1 (gvL e1 rs)
    cases gvL e1 rs <;> rfl
  | ex x e1 => rfl
  | no => rfl
theorem ev_TN : evT [] e = .ok [] e := rfl
theorem ev_TC {m : ME} {ms : List ME} : evT (m :: ms) e = kT ms (m e) := by
  show bnd (m e) _ = _
  cases m e with
  | ok r e1 =>
    show bnd (evT ms e1) _ = kT' (vw r) (evT ms e1)
    cases evT ms e1 <;> rfl
  | ex x e1 => rfl
  | no => rfl
theorem ev_tup {ms : List ME} : eTup ms e = kM (fun ds => W.d (.tuple ds)) (evT ms e) := by unfold eTup; cases evT ms e <;> rfl
theorem ev_lst {ms : List ME} : eLst ms e = kM W.l (evT ms e) := by unfold eLst; cases evT ms e <;> rfl
theorem ev_GN : evG [] e = .ok [] e := rfl
theorem ev_GV {m : ME} {ms : List Arg} : evG (.vl m :: ms) e = kG ms (m e) := by
  show bnd (m e) _ = _
  cases m e with
  | ok r e1 =>
    show bnd (evG ms e1) _ = kG' (.inr (vw r)) (evG ms e1)
    cases evG ms e1 <;> rfl
  | ex x e1 => rfl
  | no => rfl
theorem ev_GR {i : Nat} {ms : List Arg} : evG (.rf i :: ms) e = gG i ms e (e.getD i none) := by
  show (match e.getD i none with | some (.d x) => bnd (evG ms e) (fun rs e2 => Res.ok (Sum.inr x :: rs) e2) | some _ => bnd (evG ms e) (fun rs e2 => Res.ok (Sum.inl i :: rs) e2) | none => Res.no) = _
  cases e.getD i none with
  | none => rfl
  | some w =>
    cases w with
    | d x => show bnd (evG ms e) _ = kG' (.inr x) (evG ms e); cases evG ms e <;> rfl
    | l xs => show bnd (evG ms e) _ = kG' (.inl i) (evG ms e); cases evG ms e <;> rfl
    | t g ws => show bnd (evG ms e) _ = kG' (.inl i) (evG ms e); cases evG ms e <;> rfl
theorem ev_call {C : Orc} {k : Nat} {as : List Arg} : eCall C k as e = kC C k (evG as e) := by
  unfold eCall
  cases evG as e with
  | ok rs e1 =>
    show (match takeA rs e1 with | some p => _ | none => Res.no) = kC1 C k rs (takeA rs e1)
    cases takeA rs e1 with
    | none => rfl
    | some p =>
      show (match C k p.1 with | .ok w outs => _ | .ex x outs => _ | .no => Res.no) = kC2 rs p.2 (C k p.1)
      cases C k p.1 with
      | ok w outs => show (match putO rs outs p.2 with | some e2 => _ | none => _) = kP w (putO rs outs p.2); cases putO rs outs p.2 <;> rfl
      | ex w outs => show (match putO rs outs p.2 with | some e2 => _ | none => _) = kPx w (putO rs outs p.2); cases putO rs outs p.2 <;> rfl
      | no => rfl
  | ex x e1 => rfl
  | no => rfl
theorem ev_mu {f : List D → List D → Option (W × List D)} {i : Nat} {ms : List ME} : eMu f i ms e = if isL (e.getD i none) = true then kMu f i (evT ms e) else .no := by
  unfold eMu
  split
  · cases evT ms e with
    | ok ds e1 =>
      show (match e1.getD i none with | some (.l xs) => _ | _ => _) = gMu f i ds e1 (e1.getD i none)
      cases e1.getD i none with
      | none => rfl
      | some w => cases w with
        | d x => rfl
        | t g ws => rfl
        | l xs =>
          show (match f xs ds with | some (w, ys) => _ | none => _) = (match f xs ds with | some p => Res.ok p.1 (e1.set i (some (.l p.2))) | none => Res.no)
          cases f xs ds <;> rfl
    | ex x e1 => rfl
    | no => rfl
  · rfl
theorem ev_lc {src : MI} {tg : Tg} {tt : MT} {te : ME} {vs : List Nat} : eLc src tg tt te vs e = kLc tg tt te vs (src e) := by
  unfold eLc
  cases src e with
  | ok xs e1 =>
    show (if xs.length < 16777216 then bnd (cmpL tg tt te vs xs (wipeE e1 vs)) (fun ds e2 => Res.ok (.l ds) e2) else Res.no) = (if xs.length < 16777216 then kM W.l (cmpL tg tt te vs xs (wipeE e1 vs)) else .no)
    split
    · cases cmpL tg tt te vs xs (wipeE e1 vs) <;> rfl
    · rfl
  | ex x e1 => rfl
  | no => rfl
theorem ev_any {m : ME} : iAny m e = kSeqI (m e) := by unfold iAny; cases m e <;> rfl
theorem ev_r1 {m : ME} : iR1 m e = kR1 (m e) := by unfold iR1; cases m e <;> rfl
theorem ev_r2 {a b : ME} : iR2 a b e = kR2 b (a e) := by
  unfold iR2
  cases a e with
  | ok w e1 => show bnd (b e1) _ = kR2' w (b e1); cases b e1 <;> rfl
  | ex x e1 => rfl
  | no => rfl
theorem ev_rep {a b : ME} : eRep a b e = kRep b (a e) := by
  unfold eRep
  cases a e with
  | ok w e1 => show bnd (b e1) _ = kRep2 w (b e1); cases b e1 <;> rfl
  | ex x e1 => rfl
  | no => rfl

/-! ### steps of the contexts -/
theorem kS_nx {b : MS} : kS b (.ok .nx e) = b e := rfl
theorem kS_bk {b : MS} : kS b (.ok .bk e) = .ok .bk e := rfl
theorem kS_ct {b : MS} : kS b (.ok .ct e) = .ok .ct e := rfl
theorem kS_rt {b : MS} {w : W} : kS b (.ok (.rt w) e) = .ok (.rt w) e := rfl
theorem kIf_t {a b : Env → Res α} : kIf a b (.ok true e) = a e := rfl
theorem kIf_f {a b : Env → Res α} : kIf a b (.ok false e) = b e := rfl
theorem kM_ok {f : α → β} {a : α} : kM f (.ok a e) = .ok (f a) e := rfl
theorem kSet_ok {i : Nat} {w : W} : kSet i (.ok w e) = .ok .nx (e.set i (some w)) := rfl
theorem kAnd_t {b : MT} : kAnd b (.ok true e) = b e := rfl
theorem kAnd_f {b : MT} : kAnd b (.ok false e) = .ok false e := rfl
theorem kOr_t {b : MT} : kOr b (.ok true e) = .ok true e := rfl
theorem kOr_f {b : MT} : kOr b (.ok false e) = b e := rfl
theorem kAndE_t {b : ME} : kAndE b (.ok (.d (.bool true)) e) = b e := rfl
theorem kAndE_f {b : ME} : kAndE b (.ok (.d (.bool false)) e) = .ok (.d (.bool false)) e := rfl
theorem kOrE_t {b : ME} : kOrE b (.ok (.d (.bool true)) e) = .ok (.d (.bool true)) e := rfl
theorem kOrE_f {b : ME} : kOrE b (.ok (.d (.bool false)) e) = b e := rfl
theorem kNotE_b {c : Bool} : kNotE (.ok (.d (.bool c)) e) = .ok (.d (.bool (!c))) e := rfl
theorem oVr_s {i : Nat} {w : W} : oVr i e (some w) = .ok (.inl i) e := rfl
theorem kO1_ok {f : D → Option W} {r : Nat ⊕ W} : kO1 f (.ok r e) = g1 f e (gv e r) := rfl
theorem g1_s {f : D → Option α} {d : D} : g1 f e (some d) = ofO (f d) e := rfl
theorem kO2_ok {f : D → D → Option α} {b : Opd} {r : Nat ⊕ W} : kO2 f b (.ok r e) = kO2' f r (b.run e) := rfl
theorem kO2'_ok {f : D → D → Option α} {r r2 : Nat ⊕ W} : kO2' f r (.ok r2 e) = g2 f e (gv e r) (gv e r2) := rfl
theorem g2_ss {f : D → D → Option α} {x y : D} : g2 f e (some x) (some y) = ofO (f x y) e := rfl
theorem gv_l {i : Nat} : gv e (.inl i) = (e.getD i none).bind vf := rfl
theorem gv_r {w : W} : gv e (.inr w) = vf w := rfl
theorem kL_ok {os : List Opd} {r : Nat ⊕ W} : kL os (.ok r e) = kL' r (evL os e) := rfl
theorem kL'_ok {r : Nat ⊕ W} {rs : List (Nat ⊕ W)} : kL' r (.ok rs e) = .ok (r :: rs) e := rfl
theorem kB_ok {f : List D → Option W} {rs : List (Nat ⊕ W)} : kB f (.ok rs e) = gB f e (gvL e rs) := rfl
theorem gB_s {f : List D → Option W} {ds : List D} : gB f e (some ds) = ofO (f ds) e := rfl
theorem gvL_n : gvL e [] = some [] := rfl
def kV (d : Option D) (r : Option (List D)) : Option (List D) := match d with
  | some x => (match r with
    | some xs => some (x :: xs)
    | none => none)
  | none => none
theorem gvL_c {r : Nat ⊕ W} {rs : List (Nat ⊕ W)} : gvL e (r :: rs) = kV (gv e r) (gvL e rs) := rfl
theorem kV_ss {x : D} {xs : List D} : kV (some x) (some xs) = some (x :: xs) := rfl
theorem kT_ok {ms : List ME} {w : W} : kT ms (.ok w e) = kT' (vw w) (evT ms e) := rfl
theorem kT'_ok {d : D} {ds : List D} : kT' d (.ok ds e) = .ok (d :: ds) e := rfl
theorem kG_ok {ms : List Arg} {w : W} : kG ms (.ok w e) = kG' (.inr (vw w)) (evG ms e) := rfl
theorem kG'_ok {d : Nat ⊕ D} {ds : List (Nat ⊕ D)} : kG' d (.ok ds e) = .ok (d :: ds) e := rfl
theorem gG_l {i : Nat} {as : List Arg} {xs : List D} : gG i as e (some (.l xs)) = kG' (.inl i) (evG as e) := rfl
theorem gG_t {i : Nat} {as : List Arg} {g : Tag} {ws : List W} : gG i as e (some (.t g ws)) = kG' (.inl i) (evG as e) := rfl
theorem gG_d {i : Nat} {as : List Arg} {x : D} : gG i as e (some (.d x)) = kG' (.inr x) (evG as e) := rfl
theorem kC_ok {C : Orc} {k : Nat} {rs : List (Nat ⊕ D)} : kC C k (.ok rs e) = kC1 C k rs (takeA rs e) := rfl
theorem kC1_s {C : Orc} {k : Nat} {rs : List (Nat ⊕ D)} {p : List W × Env} : kC1 C k rs (some p) = kC2 rs p.2 (C k p.1) := rfl
theorem kC2_ok {rs : List (Nat ⊕ D)} {w : W} {outs : List W} : kC2 rs e (.ok w outs) = kP w (putO rs outs e) := rfl
theorem kP_s {w : W} : kP w (some e) = .ok w e := rfl
def tkW (w : W) : Option (List W × Env) → Option (List W × Env)
  | some p => some (w :: p.1, p.2)
  | none => none
def tk1 (i : Nat) (rs : List (Nat ⊕ D)) (e : Env) : Option W → Option (List W × Env)
  | some w => if isO w = true then tkW w (takeA rs (e.set i none)) else none
  | none => none
theorem take_n : takeA [] e = some ([], e) := rfl
theorem take_l {i : Nat} {rs : List (Nat ⊕ D)} : takeA (.inl i :: rs) e = tk1 i rs e (e.getD i none) := by
  show (match e.getD i none with | some w => if isO w = true then (match takeA rs (e.set i none) with | some p => some (w :: p.1, p.2) | none => none) else none | none => none) = _
  cases e.getD i none with
  | none => rfl
  | some w =>
    show (if isO w = true then (match takeA rs (e.set i none) with | some p => some (w :: p.1, p.2) | none => none) else none) = if isO w = true then tkW w (takeA rs (e.set i none)) else none
    cases takeA rs (e.set i none) <;> rfl
theorem tk1_s {i : Nat} {rs : List (Nat ⊕ D)} {w : W} : tk1 i rs e (some w) = if isO w = true then tkW w (takeA rs (e.set i none)) else none := rfl
theorem take_r {d : D} {rs : List (Nat ⊕ D)} : takeA (.inr d :: rs) e = tkW (.d d) (takeA rs e) := by
  show (match takeA rs e with | some p => some (W.d d :: p.1, p.2) | none => none) = _
  cases takeA rs e <;> rfl
theorem tkW_s {w : W} {p : List W × Env} : tkW w (some p) = some (w :: p.1, p.2) := rfl
theorem isO_l {xs : List D} : isO (.l xs) = true := rfl
theorem isO_t {g : Tag} {ws : List W} : isO (.t g ws) = true := rfl
def pt1 (i : Nat) (w : W) : Option Env → Option Env
  | some e => some (e.set i (some w))
  | none => none
theorem put_n : putO [] [] e = some e := rfl
theorem put_l {i : Nat} {rs : List (Nat ⊕ D)} {w : W} {os : List W} : putO (.inl i :: rs) (w :: os) e = if isO w = true then pt1 i w (putO rs os e) else none := by
  show (if isO w = true then (match putO rs os e with | some e2 => some (e2.set i (some w)) | none => none) else none) = _
  cases putO rs os e <;> rfl
theorem put_r {d : D} {rs : List (Nat ⊕ D)} {os : List W} : putO (.inr d :: rs) os e = putO rs os e := by cases os <;> rfl
theorem pt1_s {i : Nat} {w : W} : pt1 i w (some e) = some (e.set i (some w)) := rfl
theorem kPut1_ok {i : Nat} {mi : ME} {w : W} : kPut1 i mi (.ok w e) = if isL (e.getD i none) = true then kPut2 i w (mi e) else .no := rfl
theorem kPut2_ok {i : Nat} {w wi : W} : kPut2 i w (.ok wi e) = gPut i w wi e (e.getD i none) := rfl
theorem gPut_l {i : Nat} {w : W} {k : Int} {xs : List D} : gPut i w (.d (.int k)) e (some (.l xs)) = (match ixN xs.length k with | some j => .ok .nx (e.set i (some (.l (xs.set j (vw w))))) | none => .no) := rfl
theorem isL_l {xs : List D} : isL (some (.l xs)) = true := rfl
theorem kMu_ok {f : List D → List D → Option (W × List D)} {i : Nat} {ds : List D} : kMu f i (.ok ds e) = gMu f i ds e (e.getD i none) := rfl
theorem gMu_l {f : List D → List D → Option (W × List D)} {i : Nat} {ds xs : List D} : gMu f i ds e (some (.l xs)) = (match f xs ds with | some p => .ok p.1 (e.set i (some (.l p.2))) | none => .no) := rfl
theorem kFor_ok {tg : Tg} {b : MS} {xs : List D} : kFor tg b (.ok xs e) = forL tg b xs e := rfl
theorem kLc_ok {tg : Tg} {tt : MT} {te : ME} {vs : List Nat} {xs : List D} : kLc tg tt te vs (.ok xs e) = if xs.length < 16777216 then kM W.l (cmpL tg tt te vs xs (wipeE e vs)) else .no := rfl
theorem kSeqI_l {xs : List D} : kSeqI (.ok (.d (.list xs)) e) = .ok xs e := rfl
theorem kSeqI_l' {xs : List D} : kSeqI (.ok (.l xs) e) = .ok xs e := rfl
theorem kSeqI_t {xs : List D} : kSeqI (.ok (.d (.tuple xs)) e) = .ok xs e := rfl
theorem kR1_i {j : Int} : kR1 (.ok (.d (.int j)) e) = if -4611686018427387904 ≤ j ∧ j < 4611686018427387904 then .ok (rng 0 j.toNat) e else .no := rfl
theorem kR2_ok {b : ME} {w : W} : kR2 b (.ok w e) = kR2' w (b e) := rfl
theorem kR2'_i {i j : Int} : kR2' (.d (.int i)) (.ok (.d (.int j)) e) = if -4611686018427387904 ≤ i ∧ i < 4611686018427387904 ∧ -4611686018427387904 ≤ j ∧ j < 4611686018427387904 then .ok (rng i (j - i).toNat) e else .no := rfl
theorem kTru_ok {r : Nat ⊕ W} : kTru (.ok r e) = g1 truD e (gv e r) := rfl
theorem kRep_ok {b : ME} {w : W} : kRep b (.ok w e) = kRep2 w (b e) := rfl
theorem kRep2_i {xs : List D} {k : Int} : kRep2 (.l xs) (.ok (.d (.int k)) e) = if -9223372036854775808 ≤ k ∧ k < 9223372036854775808 ∧ xs.length * k.toNat ≤ 16777216 then .ok (.l (List.replicate k.toNat xs).flatten) e else .no := rfl
theorem rV_d {i : Nat} {d : D} : rV i e (some (.d d)) = .ok (.d d) e := rfl
theorem rV_l {i : Nat} {xs : List D} : rV i e (some (.l xs)) = .ok (.d (.list xs)) (e.set i (some (.d (.list xs)))) := rfl
theorem rV_t {i : Nat} {g : Tag} {ws : List W} : rV i e (some (.t g ws)) = .ok (.d (vw (.t g ws))) (e.set i (some (.d (vw (.t g ws))))) := rfl
/-- a def from its body -/
def kF (P : List Nat) : Res Out → CRes
  | .ok o e => endF (contO e P) o
  | .ex x e => endX (contO e P) x
  | .no => .no
theorem run_kF {np n : Nat} {Ps : List (List Nat)} {P : List Nat} {m : MS} {ws : List W} (h1 : ws.length = np) (h2 : lpos ws 0 = P) (h3 : Ps.contains P = true) : runF np n Ps m ws = kF P (m (ws.map some ++ List.replicate (n - np) none)) := by
  subst h2
  unfold runF
  rw [if_pos ⟨h1, h3⟩]
  cases m (ws.map some ++ List.replicate (n - np) none) <;> rfl
theorem lpos_n {i : Nat} : lpos [] i = [] := rfl
theorem lpos_l {xs : List D} {ws : List W} {i : Nat} : lpos (.l xs :: ws) i = i :: lpos ws (i + 1) := rfl
theorem lpos_t {g : Tag} {us : List W} {ws : List W} {i : Nat} : lpos (.t g us :: ws) i = i :: lpos ws (i + 1) := rfl
theorem lpos_d {x : D} {ws : List W} {i : Nat} : lpos (.d x :: ws) i = lpos ws (i + 1) := rfl
theorem kF_ok {P : List Nat} {o : Out} : kF P (.ok o e) = endF (contO e P) o := rfl
theorem endF_r {outs : List W} {w : W} : endF (some outs) (.rt w) = .ok w outs := rfl
theorem endF_n {outs : List W} : endF (some outs) .nx = .ok (.d .none) outs := rfl
theorem kF_ex {P : List Nat} {x : Exn} : kF P (.ex x e) = endX (contO e P) x := rfl
theorem endX_s {outs : List W} {x : Exn} : endX (some outs) x = .ex x outs := rfl
theorem atI_0 {a : D} {l : List D} : atI (a :: l) 0 = some a := by simp [atI, ixN]
theorem atI_1 {a b : D} {l : List D} : atI (a :: b :: l) 1 = some b := by
  have : atI (a :: b :: l) ((1 : Nat) : Int) = some b := atI_nat rfl
  exact this
theorem atI_2 {a b c : D} {l : List D} : atI (a :: b :: c :: l) 2 = some c := by
  have : atI (a :: b :: c :: l) ((2 : Nat) : Int) = some c := atI_nat rfl
  exact this
theorem atI_3 {a b c d : D} {l : List D} : atI (a :: b :: c :: d :: l) 3 = some d := by
  have : atI (a :: b :: c :: d :: l) ((3 : Nat) : Int) = some d := atI_nat rfl
  exact this
theorem fIx_l {ds : List D} {i : Int} : fIx (.list ds) (.int i) = (atI ds i).map W.d := rfl
theorem fIx_t {ds : List D} {i : Int} : fIx (.tuple ds) (.int i) = (atI ds i).map W.d := rfl
def kc3 (d : D) : Res (List D) → Res (List D)
  | .ok ds e => .ok (d :: ds) e
  | .ex x e => .ex x e
  | .no => .no
def kc2 (tg : Tg) (tt : MT) (te : ME) (vs : List Nat) (xs : List D) : Res W → Res (List D)
  | .ok w e => kc3 (vw w) (cmpL tg tt te vs xs (wipeE e vs))
  | .ex x e => .ex x e
  | .no => .no
def kc1 (tg : Tg) (tt : MT) (te : ME) (vs : List Nat) (xs : List D) : Res Bool → Res (List D)
  | .ok true e => kc2 tg tt te vs xs (te e)
  | .ok false e => cmpL tg tt te vs xs (wipeE e vs)
  | .ex x e => .ex x e
  | .no => .no
def kc0 (tg : Tg) (tt : MT) (te : ME) (vs : List Nat) (xs : List D) : Option Env → Res (List D)
  | some e => kc1 tg tt te vs xs (tt e)
  | none => .no
theorem cmpL_c {tg : Tg} {tt : MT} {te : ME} {vs : List Nat} {x : D} {xs : List D} : cmpL tg tt te vs (x :: xs) e = kc0 tg tt te vs xs (tg x e) := by
  show (match tg x e with | none => Res.no | some e0 => bnd (tt e0) fun b e1 => if b = true then bnd (te e1) fun w e2 => bnd (cmpL tg tt te vs xs (wipeE e2 vs)) fun ds e3 => .ok (vw w :: ds) e3 else cmpL tg tt te vs xs (wipeE e1 vs)) = _
  cases tg x e with
  | none => rfl
  | some e0 =>
    show bnd (tt e0) _ = kc1 tg tt te vs xs (tt e0)
    cases tt e0 with
    | ok b e1 =>
      cases b with
      | true =>
        show bnd (te e1) _ = kc2 tg tt te vs xs (te e1)
        cases te e1 with
        | ok w e2 => show bnd (cmpL tg tt te vs xs (wipeE e2 vs)) _ = kc3 (vw w) (cmpL tg tt te vs xs (wipeE e2 vs)); cases cmpL tg tt te vs xs (wipeE e2 vs) <;> rfl
        | ex x e2 => rfl
        | no => rfl
      | false => rfl
    | ex x e1 => rfl
    | no => rfl
theorem kc0_s {tg : Tg} {tt : MT} {te : ME} {vs : List Nat} {xs : List D} : kc0 tg tt te vs xs (some e) = kc1 tg tt te vs xs (tt e) := rfl
theorem kc1_t {tg : Tg} {tt : MT} {te : ME} {vs : List Nat} {xs : List D} : kc1 tg tt te vs xs (.ok true e) = kc2 tg tt te vs xs (te e) := rfl
theorem kc1_f {tg : Tg} {tt : MT} {te : ME} {vs : List Nat} {xs : List D} : kc1 tg tt te vs xs (.ok false e) = cmpL tg tt te vs xs (wipeE e vs) := rfl
theorem kc2_ok {tg : Tg} {tt : MT} {te : ME} {vs : List Nat} {xs : List D} {w : W} : kc2 tg tt te vs xs (.ok w e) = kc3 (vw w) (cmpL tg tt te vs xs (wipeE e vs)) := rfl
theorem wipe_n : wipeE e [] = e := rfl
theorem wipe_c {v : Nat} {vs : List Nat} : wipeE e (v :: vs) = (wipeE e vs).set v none := rfl
theorem tgN_r {j : Nat} {x : D} : tgN j x e = some (e.set j (some (.d x))) := rfl
theorem tgT_r {ts : List Tg} {xs : List D} : tgT ts (.tuple xs) e = tgL ts xs e := rfl
theorem tgL_n : tgL [] [] e = some e := rfl
theorem tgL_c {t : Tg} {ts : List Tg} {x : D} {xs : List D} : tgL (t :: ts) (x :: xs) e = (t x e).bind (tgL ts xs) := rfl
end
end Mi
namespace Mi
open PySem L2
theorem fMul_r {i j : Int} (h : j.natAbs < 18446744073709551616) : fMul (.int i) (.int j) = some (.d (.int (i * j))) := if_pos (.inr (.inl h))
theorem fMod_p {i j : Int} (h : 0 < j) : fMod (.int i) (.int j) = some (.d (.int (i % j))) := if_pos h
theorem fDiv_p {i j : Int} (h : 0 < j) (h2 : j.natAbs.log2 < 9000) : fDiv (.int i) (.int j) = some (.d (.int (i / j))) := if_pos ⟨h, h2⟩
theorem fPow_p {i j : Int} (h : 0 ≤ j ∧ j ≤ 1000000 ∧ i.natAbs < 18446744073709551616) : fPow (.int i) (.int j) = some (.d (.int (i ^ j.toNat))) := if_pos h
theorem fPow18 : fPow (.int 10) (.int 18) = some (.d (.int 1000000000000000000)) := by
  rw [fPow_p (by decide)]; rfl
theorem fPow9 : fPow (.int 10) (.int 9) = some (.d (.int 1000000000)) := by
  rw [fPow_p (by decide)]; rfl
theorem atI_int {ns : List Int} {p : Int} (h0 : 0 ≤ p) (h1 : p < ns.length) : ∃ k, atI (ns.map PyData.int) p = some (.int k) := by
  have h2 : p.toNat < ns.length := by omega
  refine ⟨ns[p.toNat], ?_⟩
  have : atI (ns.map PyData.int) ((p.toNat : Nat) : Int) = some (.int ns[p.toNat]) := atI_nat (by simp [h2])
  rwa [Int.toNat_of_nonneg h0] at this
end Mi
namespace Mi
open PySem L2
/-! ### what is wanted of a run -/
def Wp {α : Type} (r : Res α) (Q : α → Env → Prop) : Prop := ∃ a e, r = .ok a e ∧ Q a e
def WpC (r : CRes) (Q : W → List W → Prop) : Prop := ∃ w outs, r = .ok w outs ∧ Q w outs
theorem wp_ok {α : Type} {a : α} {e : Env} {Q : α → Env → Prop} : Wp (.ok a e) Q ↔ Q a e :=
  ⟨fun ⟨b, f, h, q⟩ => by cases h; exact q, fun q => ⟨a, e, rfl, q⟩⟩
theorem wpC_ok {w : W} {o : List W} {Q : W → List W → Prop} : WpC (.ok w o) Q ↔ Q w o :=
  ⟨fun ⟨b, f, h, q⟩ => by cases h; exact q, fun q => ⟨w, o, rfl, q⟩⟩
theorem wpC_run {np n : Nat} {Ps : List (List Nat)} {P : List Nat} {m : MS} {ws : List W} {Q : W → List W → Prop} (h1 : ws.length = np) (h2 : lpos ws 0 = P) (h3 : Ps.contains P = true) (h : WpC (kF P (m (ws.map some ++ List.replicate (n - np) none))) Q) : WpC (runF np n Ps m ws) Q := by
  rw [run_kF h1 h2 h3]; exact h
theorem WpC.mono {r : CRes} {Q Q' : W → List W → Prop} (h : WpC r Q) (k : ∀ w o, Q w o → Q' w o) : WpC r Q' := let ⟨w, o, e, q⟩ := h; ⟨w, o, e, k w o q⟩
theorem Wp.mono {α : Type} {r : Res α} {Q Q' : α → Env → Prop} (h : Wp r Q) (k : ∀ w o, Q w o → Q' w o) : Wp r Q' := let ⟨w, o, e, q⟩ := h; ⟨w, o, e, k w o q⟩
def ct1 : Option W → Option (List W) → Option (List W)
  | some w, some r => if isO w = true then some (w :: r) else none
  | _, _ => none
theorem cont_n {e : Env} : contO e [] = some [] := rfl
theorem cont_c {e : Env} {i : Nat} {is : List Nat} : contO e (i :: is) = ct1 (e.getD i none) (contO e is) := by
  show (match e.getD i none with | some w => if isO w = true then (match contO e is with | some r => some (w :: r) | none => none) else none | none => none) = _
  cases e.getD i none with
  | none => rfl
  | some w =>
    cases hc : contO e is with
    | none => cases w <;> rfl
    | some r => rfl
theorem ct1_s {w : W} {r : List W} : ct1 (some w) (some r) = if isO w = true then some (w :: r) else none := rfl
/-- a loop by what holds between its turns (no break, no return) -/
theorem forL_inv {tg : Tg} {b : MS} (Inv : List D → Env → Prop) {xs : List D} {e : Env} (h0 : Inv [] e)
    (step : ∀ pre x post e, xs = pre ++ x :: post → Inv pre e → ∃ e0, tg x e = some e0 ∧ Wp (b e0) fun o e1 => (o = .nx ∨ o = .ct) ∧ Inv (pre ++ [x]) e1) : ∃ e', forL tg b xs e = .ok .nx e' ∧ Inv xs e' := by
  have main : ∀ (post pre : List D) (e : Env), xs = pre ++ post → Inv pre e → ∃ e', forL tg b post e = .ok .nx e' ∧ Inv xs e' := by
    intro post
    induction post with
    | nil => intro pre e h i; rw [List.append_nil] at h; subst h; exact ⟨e, rfl, i⟩
    | cons x post ih =>
      intro pre e h i
      obtain ⟨e0, h1, o, e1, h2, ho, i1⟩ := step pre x post e h i
      obtain ⟨e', h3, i'⟩ := ih (pre ++ [x]) e1 (by rw [h]; simp) i1
      refine ⟨e', ?_, i'⟩
      rw [ev_forC, h1]
      show kFor1 tg b post (b e0) = _
      rw [h2]
      rcases ho with rfl | rfl
      · exact h3
      · exact h3
  exact main xs [] e rfl h0
end Mi
namespace Mi
open PySem L2
theorem ixN_4_0 : ixN 4 0 = some 0 := rfl
theorem ixN_4_1 : ixN 4 1 = some 1 := rfl
theorem ixN_4_2 : ixN 4 2 = some 2 := rfl
theorem ixN_4_3 : ixN 4 3 = some 3 := rfl
end Mi
namespace Mi
open PySem L2
theorem fMul_31 {i : Int} : fMul (.int i) (.int 31) = some (.d (.int (i * 31))) := fMul_r (by decide)
theorem fMul_48271 {i : Int} : fMul (.int i) (.int 48271) = some (.d (.int (i * 48271))) := fMul_r (by decide)
theorem fMul_69621 {i : Int} : fMul (.int i) (.int 69621) = some (.d (.int (i * 69621))) := fMul_r (by decide)
end Mi
namespace Mi
open PySem L2
theorem rng_len {lo : Int} {n : Nat} : (rng lo n).length = n := by simp [rng]
end Mi
namespace Mi
open PySem L2
theorem mApp_s {xs : List D} {d : D} (h : xs.length < 16777216) : mApp xs [d] = some (.d .none, xs ++ [d]) := if_pos h
end Mi
namespace Mi
open PySem L2
theorem truD_l {xs : List D} : truD (.list xs) = some (!xs.isEmpty) := rfl
theorem truD_t {xs : List D} : truD (.tuple xs) = some (!xs.isEmpty) := rfl
theorem truD_b {b : Bool} : truD (.bool b) = some b := rfl
theorem truD_n : truD .none = some false := rfl
end Mi
namespace Mi
open PySem L2
theorem ev_aug {i : Nat} {g : Int → Int → Int} {m : ME} {e : Env} : sAug i g m e = kAug i g (e.getD i none) (m e) := rfl
theorem kAug_ok {i : Nat} {g : Int → Int → Int} {x y : Int} {e : Env} : kAug i g (some (.d (.int x))) (.ok (.d (.int y)) e) = .ok .nx (e.set i (some (.d (.int (g x y))))) := rfl
def kEn : Res W → Res (List D)
  | .ok w e => (match vw w with
    | .tuple xs => .ok (enumD 0 xs) e
    | _ => .no)
  | .ex x e => .ex x e
  | .no => .no
theorem ev_en {m : ME} {e : Env} : iEnT m e = kEn (m e) := by unfold iEnT; cases m e <;> rfl
theorem kEn_t {xs : List D} {e : Env} : kEn (.ok (.d (.tuple xs)) e) = .ok (enumD 0 xs) e := rfl
theorem fIs_int {n : String} {i : Int} : fIs n (.int i) = some (.d (.bool (isTy (.int i) n))) := rfl
theorem fIs_bool {n : String} {i : Bool} : fIs n (.bool i) = some (.d (.bool (isTy (.bool i) n))) := rfl
theorem fIs_none {n : String} : fIs n .none = some (.d (.bool (isTy .none n))) := rfl
theorem fIs_str {n : String} {i : Str} : fIs n (.str i) = some (.d (.bool (isTy (.str i) n))) := rfl
theorem fIs_list {n : String} {i : List D} : fIs n (.list i) = some (.d (.bool (isTy (.list i) n))) := rfl
theorem fIs_tuple {n : String} {i : List D} : fIs n (.tuple i) = some (.d (.bool (isTy (.tuple i) n))) := rfl
theorem isTy_int_int {i : Int} : isTy (.int i) "int" = true := rfl
theorem isTy_int_bool {i : Int} : isTy (.int i) "bool" = false := rfl
theorem isTy_tuple_tuple {i : List D} : isTy (.tuple i) "tuple" = true := rfl
end Mi

namespace Mi
open PySem L2
/-! ### slices, pop, extend -/
def kP1 : Res W → Res (Option Int)
  | .ok w e => (match vw w with
    | .int i => .ok (some i) e
    | _ => .no)
  | .ex x e => .ex x e
  | .no => .no
def kSl3 (r : Nat ⊕ W) (l : Option Int) : Res (Option Int) → Res W
  | .ok u e => g1 (fSl l u) e (gv e r)
  | .ex x e => .ex x e
  | .no => .no
def kSl2 (r : Nat ⊕ W) (hi : Option ME) : Res (Option Int) → Res W
  | .ok l e => kSl3 r l (evP hi e)
  | .ex x e => .ex x e
  | .no => .no
def kSl (lo hi : Option ME) : Res (Nat ⊕ W) → Res W
  | .ok r e => kSl2 r hi (evP lo e)
  | .ex x e => .ex x e
  | .no => .no
section
variable {e : Env}
theorem ev_pN : evP none e = .ok none e := rfl
theorem ev_pS {m : ME} : evP (some m) e = kP1 (m e) := by
  show bnd (m e) _ = _
  cases m e <;> rfl
theorem kP1_i {i : Int} : kP1 (.ok (.d (.int i)) e) = .ok (some i) e := rfl
theorem ev_sl {o : Opd} {lo hi : Option ME} : eSl o lo hi e = kSl lo hi (o.run e) := by
  unfold eSl
  cases o.run e with
  | ok r e1 =>
    show bnd (evP lo e1) _ = kSl2 r hi (evP lo e1)
    cases evP lo e1 with
    | ok l e2 =>
      show bnd (evP hi e2) _ = kSl3 r l (evP hi e2)
      cases evP hi e2 with
      | ok u e3 =>
        show (match gv e3 r with | some d => ofO (fSl l u d) e3 | none => .no) = g1 (fSl l u) e3 (gv e3 r)
        cases gv e3 r <;> rfl
      | ex x e3 => rfl
      | no => rfl
    | ex x e2 => rfl
    | no => rfl
  | ex x e1 => rfl
  | no => rfl
theorem kSl_ok {lo hi : Option ME} {r : Nat ⊕ W} : kSl lo hi (.ok r e) = kSl2 r hi (evP lo e) := rfl
theorem kSl2_ok {hi : Option ME} {r : Nat ⊕ W} {l : Option Int} : kSl2 r hi (.ok l e) = kSl3 r l (evP hi e) := rfl
theorem kSl3_ok {r : Nat ⊕ W} {l u : Option Int} : kSl3 r l (.ok u e) = g1 (fSl l u) e (gv e r) := rfl
theorem fSl_l {xs : List D} {l u : Option Int} : fSl l u (.list xs) = some (.l (cutD xs l u)) := rfl
theorem fSl_t {xs : List D} {l u : Option Int} : fSl l u (.tuple xs) = some (.d (.tuple (cutD xs l u))) := rfl
theorem fRev_l {xs : List D} : fRev (.list xs) = some (.l xs.reverse) := rfl
theorem fRev_t {xs : List D} : fRev (.tuple xs) = some (.d (.tuple xs.reverse)) := rfl
theorem mExt_l {xs ys : List D} (h : xs.length + ys.length ≤ 16777216) : mExt xs [.list ys] = some (.d .none, xs ++ ys) := if_pos h
end
end Mi
namespace Mi
open PySem L2
/-- a loop over typed items, by what holds between its turns -/
theorem forT_inv {α : Type} {dat : α → D} {tg : Tg} {b : MS} {xs : List α} (Inv : List α → Env → Prop) {e : Env} (h0 : Inv [] e)
    (step : ∀ pre x post e, xs = pre ++ x :: post → Inv pre e → ∃ e0, tg (dat x) e = some e0 ∧ Wp (b e0) fun o e1 => (o = .nx ∨ o = .ct) ∧ Inv (pre ++ [x]) e1) : ∃ e', forL tg b (xs.map dat) e = .ok .nx e' ∧ Inv xs e' := by
  have main : ∀ (post pre : List α) (e : Env), xs = pre ++ post → Inv pre e → ∃ e', forL tg b (post.map dat) e = .ok .nx e' ∧ Inv xs e' := by
    intro post
    induction post with
    | nil => intro pre e h i; rw [List.append_nil] at h; subst h; exact ⟨e, rfl, i⟩
    | cons x post ih =>
      intro pre e h i
      obtain ⟨e0, h1, o, e1, h2, ho, i1⟩ := step pre x post e h i
      obtain ⟨e', h3, i'⟩ := ih (pre ++ [x]) e1 (by rw [h]; simp) i1
      refine ⟨e', ?_, i'⟩
      rw [List.map_cons, ev_forC, h1]
      show kFor1 tg b _ (b e0) = _
      rw [h2]
      rcases ho with rfl | rfl
      · exact h3
      · exact h3
  exact main xs [] e rfl h0
/-- .. where a turn may return -/
theorem forT_rt {α : Type} {dat : α → D} {tg : Tg} {b : MS} {xs : List α} (Inv : List α → Env → Prop) (R : W → Env → Prop) {e : Env} (h0 : Inv [] e)
    (step : ∀ pre x post e, xs = pre ++ x :: post → Inv pre e → ∃ e0, tg (dat x) e = some e0 ∧ Wp (b e0) fun o e1 => ((o = .nx ∨ o = .ct) ∧ Inv (pre ++ [x]) e1) ∨ ∃ w, o = .rt w ∧ R w e1) :
    (∃ e', forL tg b (xs.map dat) e = .ok .nx e' ∧ Inv xs e') ∨ ∃ w e', forL tg b (xs.map dat) e = .ok (.rt w) e' ∧ R w e' := by
  have main : ∀ (post pre : List α) (e : Env), xs = pre ++ post → Inv pre e → (∃ e', forL tg b (post.map dat) e = .ok .nx e' ∧ Inv xs e') ∨ ∃ w e', forL tg b (post.map dat) e = .ok (.rt w) e' ∧ R w e' := by
    intro post
    induction post with
    | nil => intro pre e h i; rw [List.append_nil] at h; subst h; exact .inl ⟨e, rfl, i⟩
    | cons x post ih =>
      intro pre e h i
      obtain ⟨e0, h1, o, e1, h2, ho⟩ := step pre x post e h i
      rw [List.map_cons, ev_forC, h1]
      show (∃ e', kFor1 tg b (post.map dat) (b e0) = _ ∧ _) ∨ ∃ w e', kFor1 tg b (post.map dat) (b e0) = _ ∧ _
      rw [h2]
      rcases ho with ⟨ho, i1⟩ | ⟨w, rfl, r⟩
      · have := ih (pre ++ [x]) e1 (by rw [h]; simp) i1
        rcases ho with rfl | rfl
        · exact this
        · exact this
      · exact .inr ⟨w, e1, rfl, r⟩
  exact main xs [] e rfl h0
/-- .. by a step of one's own that may return -/
inductive Stp (β γ : Type) where
  | go (s : β)
  | done (r : γ)
def runS {α β γ : Type} (step : β → α → Stp β γ) : List α → β → Stp β γ
  | [], s => .go s
  | x :: xs, s => match step s x with
    | .go s' => runS step xs s'
    | .done r => .done r
end Mi
namespace Mi
open PySem L2
/-! ### steps under a condition -/
section
variable {e : Env}
theorem kR1_c {j : Int} (h : 0 ≤ j ∧ j < 4611686018427387904) : kR1 (.ok (.d (.int j)) e) = .ok (rng 0 j.toNat) e := by
  rw [kR1_i, if_pos ⟨by omega, h.2⟩]
theorem kR1_n {n : Nat} (h : n < 4611686018427387904) : kR1 (.ok (.d (.int (n : Int))) e) = .ok (rng 0 n) e := by
  rw [kR1_c ⟨by omega, by omega⟩, Int.toNat_natCast]
theorem kR2_c {i j : Int} (h : -4611686018427387904 ≤ i ∧ i < 4611686018427387904 ∧ -4611686018427387904 ≤ j ∧ j < 4611686018427387904) : kR2' (.d (.int i)) (.ok (.d (.int j)) e) = .ok (rng i (j - i).toNat) e := by
  rw [kR2'_i, if_pos h]
theorem kLc_c {tg : Tg} {tt : MT} {te : ME} {vs : List Nat} {xs : List D} (h : xs.length < 16777216) : kLc tg tt te vs (.ok xs e) = kM W.l (cmpL tg tt te vs xs (wipeE e vs)) := by
  rw [kLc_ok, if_pos h]
theorem kRep2_c {xs : List D} {k : Int} (h : -9223372036854775808 ≤ k ∧ k < 9223372036854775808 ∧ xs.length * k.toNat ≤ 16777216) : kRep2 (.l xs) (.ok (.d (.int k)) e) = .ok (.l (List.replicate k.toNat xs).flatten) e := by
  rw [kRep2_i, if_pos h]
theorem kRep2_n {x : D} {n : Nat} (h : n ≤ 16777216) : kRep2 (.l [x]) (.ok (.d (.int (n : Int))) e) = .ok (.l (List.replicate n x)) e := by
  rw [kRep2_c ⟨by omega, by omega, by simp; omega⟩, Int.toNat_natCast]
  simp
theorem ixN_n {n i : Nat} (h : i < n) : ixN n (i : Int) = some i := by
  unfold ixN
  rw [if_pos (by omega), if_pos (by omega)]
  simp
theorem ixN_c {n : Nat} {i : Int} (h : 0 ≤ i ∧ i < n) : ixN n i = some i.toNat := by
  unfold ixN
  rw [if_pos h.1, if_pos h.2]
theorem gPut_s {i : Nat} {w : W} {k : Int} {xs : List D} {j : Nat} (h : ixN xs.length k = some j) : gPut i w (.d (.int k)) e (some (.l xs)) = .ok .nx (e.set i (some (.l (xs.set j (vw w))))) := by
  rw [gPut_l, h]
theorem gPut_n {i : Nat} {w : W} {k : Nat} {xs : List D} (h : k < xs.length) : gPut i w (.d (.int (k : Int))) e (some (.l xs)) = .ok .nx (e.set i (some (.l (xs.set k (vw w))))) := gPut_s (ixN_n h)
theorem gPut_c {i : Nat} {w : W} {k : Int} {xs : List D} (h : 0 ≤ k ∧ k < xs.length) : gPut i w (.d (.int k)) e (some (.l xs)) = .ok .nx (e.set i (some (.l (xs.set k.toNat (vw w))))) := gPut_s (ixN_c h)
theorem gMu_s {f : List D → List D → Option (W × List D)} {i : Nat} {ds xs : List D} {p : W × List D} (h : f xs ds = some p) : gMu f i ds e (some (.l xs)) = .ok p.1 (e.set i (some (.l p.2))) := by
  rw [gMu_l, h]
theorem gMu_app {i : Nat} {d : D} {xs : List D} (h : xs.length < 16777216) : gMu mApp i [d] e (some (.l xs)) = .ok (.d .none) (e.set i (some (.l (xs ++ [d])))) := gMu_s (mApp_s h)
theorem rep_n {x : D} {n : Nat} (h0 : 0 < n ∧ n ≤ 1000) : fRepT (.tuple [x]) (.int (n : Int)) = some (.d (.tuple (List.replicate n x))) := by
  show (if (n : Int) = 1 then some (W.d (PyData.tuple [x])) else if 2 ≤ (n : Int) ∧ (n : Int) ≤ 1000 ∧ [x].length ≤ 1000 ∧ [x].isEmpty = false then some (.d (.tuple (List.replicate (n : Int).toNat [x]).flatten)) else none) = _
  by_cases h : n = 1
  · subst h; rfl
  · rw [if_neg (by omega), if_pos ⟨by omega, by omega, by simp, by simp⟩, Int.toNat_natCast]
    simp
theorem rng_nat {n : Nat} : rng 0 n = (List.range n).map fun (i : Nat) => PyData.int (i : Int) := by
  unfold rng
  congr 1
  funext i
  rw [Int.zero_add]
end
end Mi
namespace Mi
open PySem L2
/-! ### loops and comprehensions over 0, 1, .. -/
theorem forN_rt {tg : Tg} {b : MS} {n : Nat} (Inv : Nat → Env → Prop) (R : W → Env → Prop) {e : Env} (h0 : Inv 0 e)
    (step : ∀ i e, i < n → Inv i e → ∃ e0, tg (.int (i : Int)) e = some e0 ∧ Wp (b e0) fun o e1 => ((o = .nx ∨ o = .ct) ∧ Inv (i + 1) e1) ∨ ∃ w, o = .rt w ∧ R w e1) :
    (∃ e', forL tg b (rng 0 n) e = .ok .nx e' ∧ Inv n e') ∨ ∃ w e', forL tg b (rng 0 n) e = .ok (.rt w) e' ∧ R w e' := by
  have := forT_rt (dat := fun i : Nat => PyData.int (i : Int)) (tg := tg) (b := b) (xs := List.range n) (fun pre e => Inv pre.length e) R (e := e) h0 fun pre x post e he hi => by
    have hl : pre.length < n := by
      have := congrArg List.length he
      rw [List.length_range, List.length_append, List.length_cons] at this
      omega
    have hx : x = pre.length := by
      have h1 : (List.range n)[pre.length]? = some pre.length := List.getElem?_range hl
      rw [he, List.getElem?_append_right (Nat.le_refl _)] at h1
      simpa using h1
    subst hx
    obtain ⟨e0, h1, h2⟩ := step pre.length e hl hi
    refine ⟨e0, h1, h2.mono fun o e1 q => ?_⟩
    rw [List.length_append]
    exact q
  rw [rng_nat]
  rw [List.length_range] at this
  exact this
theorem forN_inv {tg : Tg} {b : MS} {n : Nat} (Inv : Nat → Env → Prop) {e : Env} (h0 : Inv 0 e)
    (step : ∀ i e, i < n → Inv i e → ∃ e0, tg (.int (i : Int)) e = some e0 ∧ Wp (b e0) fun o e1 => (o = .nx ∨ o = .ct) ∧ Inv (i + 1) e1) :
    ∃ e', forL tg b (rng 0 n) e = .ok .nx e' ∧ Inv n e' := by
  rcases forN_rt (tg := tg) (b := b) (n := n) Inv (fun _ _ => False) h0 fun i e hi h => by
    obtain ⟨e0, h1, h2⟩ := step i e hi h
    exact ⟨e0, h1, h2.mono fun o e1 q => .inl q⟩ with h | ⟨w, e', _, h⟩
  · exact h
  · exact h.elim
/-- a comprehension without a test over typed items, in an environment that stays -/
theorem cmpT_map {α : Type} {dat : α → D} {tg : Tg} {te : ME} {vs : List Nat} {f : α → D} {e : Env} : ∀ {xs : List α}, (∀ x ∈ xs, ∃ e0, tg (dat x) e = some e0 ∧ Wp (te e0) fun w e2 => vw w = f x ∧ wipeE e2 vs = e) → cmpL tg mYes te vs (xs.map dat) e = .ok (xs.map f) e
  | [], _ => rfl
  | x :: xs, h => by
    obtain ⟨e0, h1, w, e2, h3, h4, h5⟩ := h x List.mem_cons_self
    rw [List.map_cons, cmpL_c, h1, kc0_s, ev_yes, kc1_t, h3, kc2_ok, h5, cmpT_map fun y hy => h y (List.mem_cons_of_mem _ hy), h4]
    rfl
/-- .. with a test -/
theorem cmpT_filter {α : Type} {dat : α → D} {tg : Tg} {tt : MT} {te : ME} {vs : List Nat} {p : α → Bool} {f : α → D} {e : Env} : ∀ {xs : List α}, (∀ x ∈ xs, ∃ e0, tg (dat x) e = some e0 ∧ Wp (tt e0) fun c e1 => c = p x ∧ (p x = false → wipeE e1 vs = e) ∧ (p x = true → Wp (te e1) fun w e2 => vw w = f x ∧ wipeE e2 vs = e)) → cmpL tg tt te vs (xs.map dat) e = .ok ((xs.filter p).map f) e
  | [], _ => rfl
  | x :: xs, h => by
    obtain ⟨e0, h1, c, e1, h2, rfl, h3, h4⟩ := h x List.mem_cons_self
    have ih := cmpT_filter fun y hy => h y (List.mem_cons_of_mem _ hy)
    rw [List.map_cons, cmpL_c, h1, kc0_s, h2]
    cases hp : p x with
    | true =>
      obtain ⟨w, e2, h5, h6, h7⟩ := h4 hp
      rw [kc1_t, h5, kc2_ok, h7, ih, h6, List.filter_cons_of_pos hp]
      rfl
    | false =>
      rw [kc1_f, h3 hp, ih, List.filter_cons_of_neg (by rw [hp]; decide)]
theorem sSeq_step {a b : MS} {e e' : Env} (h : a e = .ok .nx e') : sSeq a b e = b e' := by unfold sSeq; rw [h]; rfl
theorem kTg_2 {i j : Nat} {a b : D} {e : Env} : kTg (tgT [tgN i, tgN j]) (.ok (.d (.tuple [a, b])) e) = .ok .nx ((e.set i (some (.d a))).set j (some (.d b))) := Eq.trans rfl rfl
theorem kTg_3 {i j k : Nat} {a b c : D} {e : Env} : kTg (tgT [tgN i, tgN j, tgN k]) (.ok (.d (.tuple [a, b, c])) e) = .ok .nx (((e.set i (some (.d a))).set j (some (.d b))).set k (some (.d c))) := Eq.trans rfl rfl
def gMv (i : Nat) (e : Env) : Option W → Res W
  | some w => .ok w (e.set i none)
  | none => .no
theorem ev_mv {i : Nat} {e : Env} : eMv i e = gMv i e (e.getD i none) := by unfold eMv gMv; cases e.getD i none <;> rfl
theorem gMv_s {i : Nat} {e : Env} {w : W} : gMv i e (some w) = .ok w (e.set i none) := rfl
/-! ### Mi17: reversed, ranges as values -/
def kRvA : Res W → Res (List D)
  | .ok w e => (match vw w with
    | .list xs => .ok xs.reverse e
    | .tuple xs => .ok xs.reverse e
    | _ => .no)
  | .ex x e => .ex x e
  | .no => .no
theorem ev_rvA {m : ME} {e : Env} : iRvA m e = kRvA (m e) := by unfold iRvA; cases m e <;> rfl
theorem kRvA_t {xs : List D} {e : Env} : kRvA (.ok (.d (.tuple xs)) e) = .ok xs.reverse e := Eq.trans rfl rfl
theorem kRvA_d {xs : List D} {e : Env} : kRvA (.ok (.d (.list xs)) e) = .ok xs.reverse e := Eq.trans rfl rfl
theorem kRvA_l {xs : List D} {e : Env} : kRvA (.ok (.l xs) e) = .ok xs.reverse e := Eq.trans rfl rfl
def kg1 : Res W → Res (Int × Int)
  | .ok w e => (match vw w with
    | .int j => .ok (0, j) e
    | _ => .no)
  | .ex x e => .ex x e
  | .no => .no
theorem ev_g1 {m : ME} {e : Env} : gR1 m e = kg1 (m e) := by unfold gR1; cases m e <;> rfl
theorem kg1_i {j : Int} {e : Env} : kg1 (.ok (.d (.int j)) e) = .ok (0, j) e := Eq.trans rfl rfl
def kg2 (w : W) : Res W → Res (Int × Int)
  | .ok w2 e => (match vw w with
    | .int i => (match vw w2 with
      | .int j => .ok (i, j) e
      | _ => .no)
    | _ => .no)
  | .ex x e => .ex x e
  | .no => .no
def kg2a (b : ME) : Res W → Res (Int × Int)
  | .ok w e => kg2 w (b e)
  | .ex x e => .ex x e
  | .no => .no
theorem ev_g2 {a b : ME} {e : Env} : gR2 a b e = kg2a b (a e) := by
  unfold gR2
  cases a e with
  | ok w e1 =>
    show bnd (b e1) _ = kg2 w (b e1)
    cases b e1 <;> rfl
  | ex x e1 => rfl
  | no => rfl
theorem kg2a_i {b : ME} {w : W} {e : Env} : kg2a b (.ok w e) = kg2 w (b e) := rfl
theorem kg2_i {i j : Int} {e : Env} : kg2 (.d (.int i)) (.ok (.d (.int j)) e) = .ok (i, j) e := Eq.trans rfl rfl
def kTupR : Res (Int × Int) → Res W
  | .ok p e => if rgOk p.1 p.2 = true then .ok (.d (.tuple (rng p.1 (p.2 - p.1).toNat))) e else .no
  | .ex x e => .ex x e
  | .no => .no
def kLstR : Res (Int × Int) → Res W
  | .ok p e => if rgOk p.1 p.2 = true then .ok (.l (rng p.1 (p.2 - p.1).toNat)) e else .no
  | .ex x e => .ex x e
  | .no => .no
theorem ev_tupR {m : MR} {e : Env} : eTupR m e = kTupR (m e) := by unfold eTupR; cases m e <;> rfl
theorem ev_lstR {m : MR} {e : Env} : eLstR m e = kLstR (m e) := by unfold eLstR; cases m e <;> rfl
theorem kTupR_s {i j : Int} {e : Env} (h : -4611686018427387904 ≤ i ∧ i < 4611686018427387904 ∧ -4611686018427387904 ≤ j ∧ j < 4611686018427387904 ∧ (j - i).toNat ≤ 16777216) : kTupR (.ok (i, j) e) = .ok (.d (.tuple (rng i (j - i).toNat))) e := if_pos (decide_eq_true h)
theorem kLstR_s {i j : Int} {e : Env} (h : -4611686018427387904 ≤ i ∧ i < 4611686018427387904 ∧ -4611686018427387904 ≤ j ∧ j < 4611686018427387904 ∧ (j - i).toNat ≤ 16777216) : kLstR (.ok (i, j) e) = .ok (.l (rng i (j - i).toNat)) e := if_pos (decide_eq_true h)
def kRvR : Res (Int × Int) → Res (List D)
  | .ok p e => if -4611686018427387904 ≤ p.1 ∧ p.1 < 4611686018427387904 ∧ -4611686018427387904 ≤ p.2 ∧ p.2 < 4611686018427387904 then .ok (rng p.1 (p.2 - p.1).toNat).reverse e else .no
  | .ex x e => .ex x e
  | .no => .no
theorem ev_rvR {m : MR} {e : Env} : iRvR m e = kRvR (m e) := by unfold iRvR; cases m e <;> rfl
theorem kRvR_s {i j : Int} {e : Env} (h : -4611686018427387904 ≤ i ∧ i < 4611686018427387904 ∧ -4611686018427387904 ≤ j ∧ j < 4611686018427387904) : kRvR (.ok (i, j) e) = .ok (rng i (j - i).toNat).reverse e := if_pos h
end Mi
set_option Elab.async false
set_option linter.all false
set_option maxRecDepth 100000
set_option maxHeartbeats 4000000
namespace Mi
open PySem L2
/-! ### data that can be compared and shown -/
mutual
def nice : D → Bool
  | .none | .bool _ => true
  | .int i => decide (i.natAbs.log2 < 1000)
  | .str x => (x.cps.toList.all fun c => decide (c < 0x110000)) && decide (x.length ≤ 100)
  | .list xs | .tuple xs => niceAll xs
  | .dict _ => false
def niceAll : List D → Bool
  | [] => true
  | x :: xs => nice x && niceAll xs
end
mutual
def nodes : D → Nat
  | .list xs | .tuple xs => nodesAll xs + 1
  | _ => 1
def nodesAll : List D → Nat
  | [] => 0
  | x :: xs => nodes x + nodesAll xs
end
mutual
theorem nice_lay : ∀ d : D, nice d = true → d.canLay0 = true
  | .none, _ => rfl
  | .bool _, _ => rfl
  | .int _, _ => rfl
  | .str x, h => by
    simp only [nice, Bool.and_eq_true] at h
    simp only [PyData.canLay0, PyData.strOk]
    rw [← Array.all_toList]
    exact h.1
  | .list xs, h => by simp only [nice] at h; simp only [PyData.canLay0]; exact nice_layAll xs h
  | .tuple xs, h => by simp only [nice] at h; simp only [PyData.canLay0]; exact nice_layAll xs h
  | .dict _, h => by simp [nice] at h
theorem nice_layAll : ∀ xs : List D, niceAll xs = true → PyData.canLayAll0 xs = true
  | [], _ => rfl
  | x :: xs, h => by
    simp only [niceAll, Bool.and_eq_true] at h
    simp only [PyData.canLayAll0, Bool.and_eq_true]
    exact ⟨nice_lay x h.1, nice_layAll xs h.2⟩
end
mutual
theorem nice_show : ∀ d : D, nice d = true → d.showable = true
  | .none, _ => rfl
  | .bool _, _ => rfl
  | .int i, h => by
    simp only [nice, decide_eq_true_eq] at h
    simp only [PyData.showable, decide_eq_true_eq]
    omega
  | .str x, h => rfl
  | .list xs, h => by simp only [nice] at h; simp only [PyData.showable]; exact nice_showAll xs h
  | .tuple xs, h => by simp only [nice] at h; simp only [PyData.showable]; exact nice_showAll xs h
  | .dict _, h => by simp [nice] at h
theorem nice_showAll : ∀ xs : List D, niceAll xs = true → PyData.showableAll xs = true
  | [], _ => rfl
  | x :: xs, h => by
    simp only [niceAll, Bool.and_eq_true] at h
    simp only [PyData.showableAll, Bool.and_eq_true]
    exact ⟨nice_show x h.1, nice_showAll xs h.2⟩
end
mutual
theorem nice_len : ∀ d : D, nice d = true → d.shown.length + 2 ≤ 1007 * nodes d
  | .none, _ => by decide
  | .bool b, _ => by cases b <;> decide
  | .int i, h => by
    simp only [nice, decide_eq_true_eq] at h
    have e := int_text_length_le (k := 1000) (by decide) h
    show (Str.ofString (toString i)).length + 2 ≤ _
    rw [ofString_length]
    simp only [nodes]
    omega
  | .str x, h => by
    simp only [nice, Bool.and_eq_true, decide_eq_true_eq] at h
    have e := StrLaws.reprText_len x fun c hc => by
      have := List.all_eq_true.mp h.1 c hc
      have := of_decide_eq_true this
      omega
    simp only [PyData.shown, nodes]
    omega
  | .list xs, h => by
    simp only [nice] at h
    have e := nice_lenAll xs h
    have e2 := listText_len_le (PyData.shownAll xs)
    have e3 : (PyData.shownAll xs).length = xs.length := shownAll_len xs
    simp only [PyData.shown, nodes]
    omega
  | .tuple xs, h => by
    simp only [nice] at h
    have e := nice_lenAll xs h
    have e2 := tupleText_len_le (PyData.shownAll xs)
    have e3 : (PyData.shownAll xs).length = xs.length := shownAll_len xs
    simp only [PyData.shown, nodes]
    omega
  | .dict _, h => by simp [nice] at h
theorem nice_lenAll : ∀ xs : List D, niceAll xs = true → ((PyData.shownAll xs).map (·.length)).sum + 2 * xs.length ≤ 1007 * nodesAll xs
  | [], _ => by simp [PyData.shownAll, nodesAll]
  | x :: xs, h => by
    simp only [niceAll, Bool.and_eq_true] at h
    have e1 := nice_len x h.1
    have e2 := nice_lenAll xs h.2
    simp only [PyData.shownAll, List.map_cons, List.sum_cons, List.length_cons, nodesAll]
    omega
theorem shownAll_len : ∀ xs : List D, (PyData.shownAll xs).length = xs.length
  | [] => rfl
  | x :: xs => by simp only [PyData.shownAll, List.length_cons, shownAll_len xs]
end
mutual
theorem nice_noD : ∀ d : D, nice d = true → noD d = true
  | .none, _ => rfl
  | .bool _, _ => rfl
  | .int i, h => rfl
  | .str x, h => rfl
  | .list xs, h => by simp only [nice] at h; simp only [noD]; exact nice_noDs xs h
  | .tuple xs, h => by simp only [nice] at h; simp only [noD]; exact nice_noDs xs h
  | .dict _, h => by simp [nice] at h
theorem nice_noDs : ∀ xs : List D, niceAll xs = true → noDs xs = true
  | [], _ => rfl
  | x :: xs, h => by
    simp only [niceAll, Bool.and_eq_true] at h
    simp only [noDs, Bool.and_eq_true]
    exact ⟨nice_noD x h.1, nice_noDs xs h.2⟩
end
theorem nice_shaped {d : D} (h : nice d = true) (h2 : d.depth ≤ 64) : SeqAt.shaped d = true := by
  unfold SeqAt.shaped
  rw [nice_lay d h, decide_eq_true h2]; rfl
theorem bRepr_nice {d : D} (h : nice d = true) (hn : nodes d ≤ 16000) (h2 : d.depth ≤ 64) : bRepr [d] = some (.d (.str d.shown)) := by
  have := nice_len d h
  exact if_pos ⟨⟨nice_show d h, nice_noD d h⟩, by omega, h2⟩
end Mi
namespace Mi
open PySem L2
/-- what == may be asked of -/
structure Sh (d : D) : Prop where
  sh : SeqAt.shaped d = true
  nd : noD d = true
theorem Sh.nice {d : D} (h : nice d = true) (h2 : d.depth ≤ 64) : Sh d := ⟨nice_shaped h h2, nice_noD d h⟩
end Mi
set_option Elab.async false
set_option linter.all false
set_option maxRecDepth 100000
set_option maxHeartbeats 4000000
/-! Ev2: mirrors that may raise, run from the left -/
namespace Mi
open PySem L2
section
variable {e : Env}
def kCx (C : Orc) (k : Nat) : Res (List (Nat ⊕ D)) → Res W
  | .ok rs e => kC1 C k rs (takeA rs e)
  | _ => .no
theorem ev_callX {C : Orc} {k : Nat} {as : List Arg} : eCallX C k as e = kCx C k (evG as e) := by
  unfold eCallX
  cases h : evG as e with
  | ok rs e1 => show eCall C k as e = _; rw [ev_call, h]; rfl
  | ex x e1 => rfl
  | no => rfl
theorem kCx_ok {C : Orc} {k : Nat} {rs : List (Nat ⊕ D)} : kCx C k (.ok rs e) = kC1 C k rs (takeA rs e) := rfl
theorem kC2_ex {rs : List (Nat ⊕ D)} {x : Exn} {outs : List W} : kC2 rs e (.ex x outs) = kPx x (putO rs outs e) := rfl
theorem kPx_s {x : Exn} : kPx x (some e) = .ex x e := rfl
theorem ev_sok {m : MS} : sOk m e = cut (m e) := rfl
theorem kS_ex {b : MS} {x : Exn} : kS b (.ex x e) = .ex x e := rfl
theorem kM_ex {α β : Type} {f : α → β} {x : Exn} : kM f (.ex x e) = .ex x e := rfl
theorem kSet_ex {i : Nat} {x : Exn} : kSet i (.ex x e) = .ex x e := rfl
def kXF (m : ME) (e : Env) : Res W → Res W
  | .ex x e' => .ex x e'
  | _ => cut (m e)
theorem ev_xf {m1 m : ME} : eXF m1 m e = kXF m e (m1 e) := by
  unfold eXF kXF
  cases m1 e <;> rfl
theorem kXF_ok {m : ME} {w : W} {e' : Env} : kXF m e (.ok w e') = cut (m e) := rfl
theorem kXF_ex {m : ME} {x : Exn} {e' : Env} : kXF m e (.ex x e') = .ex x e' := rfl
def kRa (x : Str) (fs : List Str) : Res (List D) → Res Out
  | .ok ds e => .ex ⟨x, fs.zip ds⟩ e
  | _ => .no
theorem ev_raise {x : Str} {fs : List Str} {ms : List ME} : sRaise x fs ms e = kRa x fs (evT ms e) := by
  unfold sRaise kRa
  cases evT ms e <;> rfl
theorem kRa_ok {x : Str} {fs : List Str} {ds : List D} : kRa x fs (.ok ds e) = .ex ⟨x, fs.zip ds⟩ e := rfl
def kTry (i : Nat) (tb : List (Str × Bool)) (h : Exn → MS) : Res Out → Res Out
  | .ok o e1 => .ok o e1
  | .ex x e1 => (match tb.lookup x.cls with
    | some true => (match h x (e1.set i none) with
      | .ok o e2 => .ok o (e2.set i none)
      | _ => .no)
    | some false => .ex x e1
    | none => .no)
  | .no => .no
theorem ev_try {m : MS} {i : Nat} {tb : List (Str × Bool)} {h : Exn → MS} : sTry m i tb h e = kTry i tb h (m e) := by
  unfold sTry kTry
  cases m e <;> rfl
theorem kTry_ok {i : Nat} {tb : List (Str × Bool)} {h : Exn → MS} {o : Out} : kTry i tb h (.ok o e) = .ok o e := rfl
theorem zip_n {fs : List Str} : fs.zip ([] : List D) = [] := by cases fs <;> rfl
theorem zip_c {f : Str} {fs : List Str} {d : D} {ds : List D} : (f :: fs).zip (d :: ds) = (f, d) :: fs.zip ds := rfl
end
/-! ### what is wanted of a run, an exception or not -/
def WpX (r : CRes) (Q : CRes → Prop) : Prop := Q r
theorem wpX_run {np n : Nat} {Ps : List (List Nat)} {P : List Nat} {m : MS} {ws : List W} {R : CRes} (h1 : ws.length = np) (h2 : lpos ws 0 = P) (h3 : Ps.contains P = true) (h : kF P (m (ws.map some ++ List.replicate (n - np) none)) = R) : runF np n Ps m ws = R := by
  rw [run_kF h1 h2 h3]; exact h
end Mi
set_option Elab.async false
set_option linter.all false
set_option maxRecDepth 100000
set_option maxHeartbeats 4000000
namespace Mi
open PySem L2
/-! ### equality and order of data without truth values and dicts -/
mutual
def plain : D → Bool
  | .none | .int _ | .str _ => true
  | .bool _ | .dict _ => false
  | .list xs | .tuple xs => plains xs
def plains : List D → Bool
  | [] => true
  | x :: xs => plain x && plains xs
end
mutual
theorem eqv_plain : ∀ x y : D, plain x = true → plain y = true → PyData.eqv x y = true → x = y
  | .none, .none, _, _, _ => rfl
  | .int i, .int j, _, _, h => by simp only [PyData.eqv, beq_iff_eq] at h; rw [h]
  | .str i, .str j, _, _, h => by simp only [PyData.eqv, beq_iff_eq] at h; rw [h]
  | .list xs, .list ys, h1, h2, h => by
    simp only [PyData.eqv] at h
    rw [eqvAll_plain xs ys (by simpa only [plain] using h1) (by simpa only [plain] using h2) h]
  | .tuple xs, .tuple ys, h1, h2, h => by
    simp only [PyData.eqv] at h
    rw [eqvAll_plain xs ys (by simpa only [plain] using h1) (by simpa only [plain] using h2) h]
  | .none, .bool _, _, _, h | .none, .int _, _, _, h | .none, .str _, _, _, h | .none, .list _, _, _, h | .none, .tuple _, _, _, h | .none, .dict _, _, _, h => by simp [PyData.eqv] at h
  | .bool _, _, h, _, _ => by simp [plain] at h
  | .dict _, _, h, _, _ => by simp [plain] at h
  | .int _, .none, _, _, h | .int _, .str _, _, _, h | .int _, .list _, _, _, h | .int _, .tuple _, _, _, h | .int _, .dict _, _, _, h => by simp [PyData.eqv] at h
  | .int _, .bool _, _, h, _ => by simp [plain] at h
  | .str _, .none, _, _, h | .str _, .bool _, _, _, h | .str _, .int _, _, _, h | .str _, .list _, _, _, h | .str _, .tuple _, _, _, h | .str _, .dict _, _, _, h => by simp [PyData.eqv] at h
  | .list _, .none, _, _, h | .list _, .bool _, _, _, h | .list _, .int _, _, _, h | .list _, .str _, _, _, h | .list _, .tuple _, _, _, h | .list _, .dict _, _, _, h => by simp [PyData.eqv] at h
  | .tuple _, .none, _, _, h | .tuple _, .bool _, _, _, h | .tuple _, .int _, _, _, h | .tuple _, .str _, _, _, h | .tuple _, .list _, _, _, h | .tuple _, .dict _, _, _, h => by simp [PyData.eqv] at h
theorem eqvAll_plain : ∀ xs ys : List D, plains xs = true → plains ys = true → PyData.eqvAll xs ys = true → xs = ys
  | [], [], _, _, _ => rfl
  | x :: xs, y :: ys, h1, h2, h => by
    simp only [plains, Bool.and_eq_true] at h1 h2
    simp only [PyData.eqvAll, Bool.and_eq_true] at h
    rw [eqv_plain x y h1.1 h2.1 h.1, eqvAll_plain xs ys h1.2 h2.2 h.2]
  | [], _ :: _, _, _, h => by simp [PyData.eqvAll] at h
  | _ :: _, [], _, _, h => by simp [PyData.eqvAll] at h
end
mutual
theorem eqv_rfl : ∀ x : D, plain x = true → PyData.eqv x x = true
  | .none, _ => by simp [PyData.eqv]
  | .int i, _ => by simp [PyData.eqv]
  | .str i, _ => by simp [PyData.eqv]
  | .list xs, h => by simp only [plain] at h; simp only [PyData.eqv]; exact eqvAll_rfl xs h
  | .tuple xs, h => by simp only [plain] at h; simp only [PyData.eqv]; exact eqvAll_rfl xs h
  | .bool _, h => by simp [plain] at h
  | .dict _, h => by simp [plain] at h
theorem eqvAll_rfl : ∀ xs : List D, plains xs = true → PyData.eqvAll xs xs = true
  | [], _ => by simp [PyData.eqvAll]
  | x :: xs, h => by
    simp only [plains, Bool.and_eq_true] at h
    simp only [PyData.eqvAll, Bool.and_eq_true]
    exact ⟨eqv_rfl x h.1, eqvAll_rfl xs h.2⟩
end
end Mi
set_option Elab.async false
set_option linter.all false
set_option maxRecDepth 100000
set_option maxHeartbeats 4000000
namespace Mi
open PySem L2
local macro_rules | `(tactic| push_cast [$hs,*]) => `(tactic| simp -implicitDefEqProofs (disch := first | omega | (simp only [rng_len, List.length_map, List.length_append, List.length_range, List.length_replicate, List.length_cons, List.length_nil, List.length_set, List.length_reverse, List.length_zipIdx]; omega)) only [ev_seq, ev_if, ev_ifE, ev_nx, ev_bk, ev_ct, ev_E, ev_set, ev_tg, ev_ret, ev_retO, ev_retN, ev_put, ev_for, ev_C, ev_V, ev_vr, ev_ex, ev_o1, ev_o2, ev_t2, ev_tru, ev_and, ev_or, ev_not, ev_yes, ev_andE, ev_orE, ev_notE, ev_LN, ev_LC, ev_B, ev_TN, ev_TC, ev_tup, ev_lst, ev_GN, ev_GV, ev_GR, ev_call, ev_mu, ev_lc, ev_any, ev_r1, ev_r2, ev_rep, kS_nx, kS_bk, kS_ct, kS_rt, kIf_t, kIf_f, kM_ok, kSet_ok, kAnd_t, kAnd_f, kOr_t, kOr_f, kAndE_t, kAndE_f, kOrE_t, kOrE_f, kNotE_b, oVr_s, kO2_ok, kO2'_ok, g2_ss, gv_l, gv_r, kL_ok, kL'_ok, kB_ok, gB_s, gvL_n, gvL_c, kV_ss, kT_ok, kT'_ok, kG_ok, kG'_ok, gG_l, gG_t, gG_d, kC_ok, kC1_s, kC2_ok, kP_s, take_n, take_l, take_r, put_n, put_l, put_r, pt1_s, kPut1_ok, kPut2_ok, isL_l, kMu_ok, kFor_ok, kSeqI_l, kSeqI_l', kSeqI_t, kR2_ok, kRep_ok, rV_d, rV_l, cont_n, cont_c, ct1_s, wp_ok, wpC_ok, atI_0, atI_1, atI_2, atI_3, fIx_l, fIx_t, List.length_cons, List.length_nil, Nat.zero_add, Nat.reduceAdd, Int.reduceLT, Int.reduceLE, Int.reduceAdd, Int.reduceMul, Int.reduceToNat, Int.reduceNeg, Int.reduceSub, Nat.reduceLT, Nat.reduceLeDiff, Nat.reduceMul, gt_iff_lt, ge_iff_le, ixN_4_0, ixN_4_1, ixN_4_2, ixN_4_3, wipe_n, wipe_c, tgN_r, tgT_r, tgL_n, tgL_c, ofO_some, vw_d, vw_l, fAddI_int, fSub_int, fNeg_int, fMod_p, fMul_31, fMul_48271, fMul_69621, fPow18, fPow9, cCmp_int, cEq_int, cNe_int, cEq_str, cNe_str, cOrd_int, ev_aug, kAug_ok, ev_en, kEn_t, fIs_int, fIs_bool, fIs_none, fIs_str, fIs_list, fIs_tuple, isTy_int_int, isTy_int_bool, isTy_tuple_tuple, cIs_none, cIsNot_none, isNone_none, isNone_int, isNone_str, isNone_tuple, isNone_list, isNone_bool, truD_l, truD_t, truD_b, truD_n, bLen_l, bLen_t, bAbs_int, bInt_int, bMax_int, bMin_int, bList_l, bList_t, bTuple_l, bTuple_t, Option.map_some, Option.bind_some, List.getD_cons_zero, List.getD_cons_succ, List.set_cons_zero, List.set_cons_succ, if_true, if_false, lB, ↓reduceIte, Bool.not_true, Bool.not_false, kO1_ok, g1_s, kTru_ok, vf_d, vf_l, tk1_s, tkW_s, isO_l, isO_t, kF_ok, endF_r, endF_n, kF_ex, endX_s, rV_t, lpos_n, lpos_l, lpos_t, lpos_d, fAdd_int, ev_pN, ev_pS, kP1_i, ev_sl, kSl_ok, kSl2_ok, kSl3_ok, fSl_l, fSl_t, fRev_l, fRev_t, kR1_c, kR1_n, kR2_c, kLc_c, kRep2_n, gPut_n, gPut_c, gMu_app, rep_n, vw_d, List.length_map, List.length_range, rng_len, Int.toNat_natCast, beq_self_eq_true, Bool.not_true, Bool.not_false, Option.isNone_none, Option.isNone_some, decide_true, decide_false, ev_forN, List.isEmpty_nil, List.isEmpty_cons, kTg_2, kTg_3, ev_mv, gMv_s, ev_rvA, kRvA_t, kRvA_d, kRvA_l, ev_g1, kg1_i, ev_g2, kg2a_i, kg2_i, fNotT_l, fNotT_b, ev_tupR, ev_lstR, kTupR_s, kLstR_s, ev_rvR, kRvR_s, $hs,*])
local macro_rules | `(tactic| walk_at "ev") => `(tactic| simp only [ev_seq, ev_if, ev_ifE, ev_nx, ev_bk, ev_ct, ev_E, ev_set, ev_tg, ev_ret, ev_retO, ev_retN, ev_put, ev_for, ev_C, ev_V, ev_vr, ev_ex, ev_o1, ev_o2, ev_t2, ev_tru, ev_and, ev_or, ev_not, ev_yes, ev_andE, ev_orE, ev_notE, ev_LN, ev_LC, ev_B, ev_TN, ev_TC, ev_tup, ev_lst, ev_GN, ev_GV, ev_GR, ev_call, ev_mu, ev_lc, ev_any, ev_r1, ev_r2, ev_rep, kS_nx, kS_bk, kS_ct, kS_rt, kIf_t, kIf_f, kM_ok, kSet_ok, kAnd_t, kAnd_f, kOr_t, kOr_f, kAndE_t, kAndE_f, kOrE_t, kOrE_f, kNotE_b, oVr_s, kO2_ok, kO2'_ok, g2_ss, gv_l, gv_r, kL_ok, kL'_ok, kB_ok, gB_s, gvL_n, gvL_c, kV_ss, kT_ok, kT'_ok, kG_ok, kG'_ok, gG_l, gG_t, gG_d, kC_ok, kC1_s, kC2_ok, kP_s, take_n, take_l, take_r, put_n, put_l, put_r, pt1_s, kPut1_ok, kPut2_ok, gPut_l, isL_l, kMu_ok, gMu_l, kFor_ok, kLc_ok, kSeqI_l, kSeqI_l', kSeqI_t, kR1_i, kR2_ok, kR2'_i, kRep_ok, kRep2_i, rV_d, rV_l, cont_n, cont_c, ct1_s, wp_ok, wpC_ok, atI_0, atI_1, atI_2, atI_3, fIx_l, fIx_t, List.length_cons, List.length_nil, Nat.zero_add, Nat.reduceAdd, Int.reduceLT, Int.reduceLE, Int.reduceAdd, Int.reduceMul, Int.reduceToNat, Int.reduceNeg, Int.reduceSub, Nat.reduceLT, Nat.reduceLeDiff, Nat.reduceMul, gt_iff_lt, ge_iff_le, ixN_4_0, ixN_4_1, ixN_4_2, ixN_4_3, wipe_n, wipe_c, tgN_r, tgT_r, tgL_n, tgL_c, ofO_some, vw_d, vw_l, fAddI_int, fSub_int, fNeg_int, fMod_p, fMul_31, fMul_48271, fMul_69621, fPow18, fPow9, cCmp_int, cEq_int, cNe_int, cEq_str, cNe_str, cOrd_int, ev_aug, kAug_ok, ev_en, kEn_t, fIs_int, fIs_bool, fIs_none, fIs_str, fIs_list, fIs_tuple, isTy_int_int, isTy_int_bool, isTy_tuple_tuple, cIs_none, cIsNot_none, isNone_none, isNone_int, isNone_str, isNone_tuple, isNone_list, isNone_bool, truD_l, truD_t, truD_b, truD_n, bLen_l, bLen_t, bAbs_int, bInt_int, bMax_int, bMin_int, bList_l, bList_t, bTuple_l, bTuple_t, Option.map_some, Option.bind_some, List.getD_cons_zero, List.getD_cons_succ, List.set_cons_zero, List.set_cons_succ, if_true, if_false, lB, ↓reduceIte, Bool.not_true, Bool.not_false, kO1_ok, g1_s, kTru_ok, vf_d, vf_l, tk1_s, tkW_s, isO_l, isO_t, kF_ok, endF_r, endF_n, kF_ex, endX_s, rV_t, lpos_n, lpos_l, lpos_t, lpos_d, fAdd_int, ev_pN, ev_pS, kP1_i, ev_sl, kSl_ok, kSl2_ok, kSl3_ok, fSl_l, fSl_t, fRev_l, fRev_t])
def M4b0 (C : Orc) : MS :=
 (sSet 1 (eO2 fMod (.ex (eB bInt [(.ex (eO2 fAddI (.ex (eO2 fMul (.vr 1) (.ex (eC (.int 31))))) (.ex (eB bAbs [(.ex (eB bInt [(.vr 2)]))]))))])) (.ex (eC (.int 2147483647)))))
/-- _law_tape -/
def M4 (C : Orc) : MS :=
 (sSeq (sSet 1 (eC (.int 7)))
 (sSeq (sFor (iAny (eV 0)) (tgN 2)
 (M4b0 C))
 (sRetO (eLst [(eB bList [(.vr 0)]), (eC (.int 0)), (eC (.int 0)), (eV 1)]))))
def F4 (C : Orc) : List W → CRes := runF 1 3 [[]] (M4 C)
/-- _law_draw -/
def M5 (C : Orc) : MS :=
 (sSeq (sIf (tO2 cEq (.ex (eO2 fIx (.vr 0) (.ex (eC (.int 2))))) (.ex (eC (.int 0))))
 (sSeq (sSet 2 (eO2 fIx (.vr 0) (.ex (eC (.int 1)))))
 (sSeq (sSet 3 (eC (.int 0)))
 (sSeq (sIf (tO2 cLt (.vr 2) (.ex (eB bLen [(.ex (eO2 fIx (.vr 0) (.ex (eC (.int 0)))))])))
 (sSet 3 (eB bAbs [(.ex (eB bInt [(.ex (eO2 fIx (.ex (eO2 fIx (.vr 0) (.ex (eC (.int 0))))) (.vr 2)))]))]))
 (sSeq (sPut 0 (eC (.int 3)) (eO2 fMod (.ex (eB bInt [(.ex (eO2 fAddI (.ex (eO2 fAddI (.ex (eO2 fMul (.ex (eO2 fIx (.vr 0) (.ex (eC (.int 3))))) (.ex (eC (.int 48271))))) (.vr 2))) (.ex (eC (.int 1)))))])) (.ex (eC (.int 2147483647)))))
 (sSet 3 (eO2 fIx (.vr 0) (.ex (eC (.int 3)))))))
 (sSeq (sPut 0 (eC (.int 1)) (eO2 fAddI (.vr 2) (.ex (eC (.int 1)))))
 (sSeq (sIf (tO2 cLt (.vr 3) (.ex (eO2 fPow (.ex (eC (.int 10))) (.ex (eC (.int 18))))))
 (sSeq (sSet 3 (eO2 fMod (.ex (eB bInt [(.ex (eO2 fAddI (.ex (eO2 fAddI (.ex (eO2 fMul (.vr 3) (.ex (eC (.int 48271))))) (.ex (eO2 fMul (.vr 2) (.ex (eC (.int 69621))))))) (.ex (eC (.int 5)))))])) (.ex (eC (.int 2147483647)))))
 (sSeq (sSet 3 (eO2 fMod (.ex (eB bInt [(.ex (eO2 fMul (.vr 3) (.ex (eC (.int 69621)))))])) (.ex (eC (.int 2147483629)))))
 (sRet (eO2 fMod (.ex (eB bInt [(.vr 3)])) (.ex (eB bMax [(.vr 1), (.ex (eC (.int 1)))]))))))
 sNx)
 (sPut 0 (eC (.int 2)) (eV 3)))))))
 sNx)
 (sSeq (sSet 3 (eO2 fIx (.vr 0) (.ex (eC (.int 2)))))
 (sSeq (sPut 0 (eC (.int 2)) (eO2 fDiv (.vr 3) (.ex (eB bMax [(.vr 1), (.ex (eC (.int 2)))]))))
 (sRet (eO2 fMod (.ex (eB bInt [(.vr 3)])) (.ex (eB bMax [(.vr 1), (.ex (eC (.int 1)))])))))))
def F5 (C : Orc) : List W → CRes := runF 2 4 [[0]] (M5 C)
/-- _law_price -/
def M6 (C : Orc) : MS :=
 (sSeq (sIf (tO2 cEq (.ex (eCall C 5 [.rf 0, .vl (eC (.int 8))])) (.ex (eC (.int 0))))
 (sRet (eC .none))
 sNx)
 (sSeq (sSet 3 (eCall C 5 [.rf 0, .vl (eO2 fIx (.ex (eLst [(eC (.int 1)), (eC (.int 2)), (eC (.int 10)), (eO2 fAddI (.ex (eO2 fPow (.ex (eC (.int 10))) (.ex (eC (.int 9))))) (.ex (eC (.int 1))))])) (.vr 1))]))
 (sSeq (sIf (tAnd' (tO2 cEq (.vr 2) (.ex (eC (.int 1)))) (tO2 cEq (.ex (eCall C 5 [.rf 0, .vl (eC (.int 3))])) (.ex (eC (.int 0)))))
 (sSet 3 (eO1 fNeg (.vr 3)))
 sNx)
 (sRet (eV 3)))))
def F6 (C : Orc) : List W → CRes := runF 3 4 [[0]] (M6 C)
def M7b0 (C : Orc) : MS :=
 (sSeq (sSet 12 (eCall C 5 [.rf 0, .vl (eV 4)]))
 (sSeq (sIf (tO2 cEq (.vr 5) (.ex (eC (.int 0))))
 (sSet 12 (eO2 fAddI (.ex (eO2 fAddI (.vr 9) (.ex (eC (.int 1))))) (.vr 12)))
 sNx)
 (sSeq (sIf (tO2 cEq (.vr 5) (.ex (eC (.int 1))))
 (sSet 12 (eO2 fSub (.ex (eO2 fSub (.vr 9) (.ex (eC (.int 1))))) (.vr 12)))
 sNx)
 (sIf (tAnd' (tO2 cLe (.ex (eC (.int 0))) (.vr 12)) (tO2 cLt (.vr 12) (.vr 4)))
 (sE (eMu mApp 10 [(eV 12)]))
 sNx))))
def M7b1 (C : Orc) : MS :=
 (sSeq (sSet 9 (eCall C 5 [.rf 0, .vl (eV 4)]))
 (sSeq (sSet 10 (eLst []))
 (sSeq (sFor (iR1 (eO2 fIx (.ex (eLst [(eC (.int 0)), (eC (.int 1)), (eC (.int 1)), (eC (.int 2)), (eC (.int 2)), (eC (.int 3))])) (.ex (eCall C 5 [.rf 0, .vl (eC (.int 6))])))) (tgN 11)
 (M7b0 C))
 (sSeq (sSet 13 (eTup [(eV 9), (eB bTuple [(.vr 10)]), (eCall C 6 [.rf 0, .vl (eV 6), .vl (eV 3)])]))
 (sSeq (sIf (tAnd' (tTru (.vr 7)) (tO2 cEq (.ex (eCall C 5 [.rf 0, .vl (eC (.int 8))])) (.ex (eC (.int 0)))))
 (sSet 13 (eO2 fIx (.vr 7) (.ex (eCall C 5 [.rf 0, .vl (eB bLen [(.vr 7)])]))))
 sNx)
 (sE (eMu mApp 7 [(eV 13)])))))))
def M7b2 (C : Orc) : MS :=
 (sE (eMu mIns 7 [(eCall C 5 [.rf 0, .vl (eO2 fAddI (.ex (eB bLen [(.vr 7)])) (.ex (eC (.int 1))))]), (eTup [(eV 14), (eTup []), (eCall C 6 [.rf 0, .vl (eV 6), .vl (eV 3)])])]))
/-- _law_family -/
def M7 (C : Orc) : MS :=
 (sSeq (sSet 4 (eO2 fAddI (.ex (eC (.int 1))) (.ex (eCall C 5 [.rf 0, .vl (eV 1)]))))
 (sSeq (sSet 5 (eCall C 5 [.rf 0, .vl (eC (.int 8))]))
 (sSeq (sSet 6 (eCall C 5 [.rf 0, .vl (eC (.int 4))]))
 (sSeq (sSet 7 (eLst []))
 (sSeq (sFor (iR1 (eCall C 5 [.rf 0, .vl (eO2 fAddI (.vr 2) (.ex (eC (.int 1))))])) (tgN 8)
 (M7b1 C))
 (sSeq (sIf (tO2 cEq (.ex (eCall C 5 [.rf 0, .vl (eC (.int 2))])) (.ex (eC (.int 0))))
 (sFor (iR1 (eV 4)) (tgN 14)
 (M7b2 C))
 sNx)
 (sSeq (sSet 15 (eLc (iR1 (eV 4)) (tgN 14) (tO2 cGt (.ex (eCall C 5 [.rf 0, .vl (eC (.int 3))])) (.ex (eC (.int 0)))) (eV 14) [14]))
 (sSeq (sIf (tAnd' (tNot' (tTru (.vr 15))) (tO2 cGt (.ex (eCall C 5 [.rf 0, .vl (eC (.int 8))])) (.ex (eC (.int 0)))))
 (sSet 15 (eLst [(eCall C 5 [.rf 0, .vl (eV 4)])]))
 sNx)
 (sRet (eTup [(eV 4), (eB bTuple [(.vr 15)]), (eB bTuple [(.vr 7)])]))))))))))
def F7 (C : Orc) : List W → CRes := runF 4 16 [[0]] (M7 C)
/-- _law_same -/
def M8 (C : Orc) : MS :=
 (sRet (eAnd (eO2 (lB cEq) (.vr 0) (.vr 1)) (eO2 (lB cEq) (.ex (eB bRepr [(.vr 0)])) (.ex (eB bRepr [(.vr 1)])))))
def F8 (C : Orc) : List W → CRes := runF 2 2 [[]] (M8 C)
/-- a tape -/
def TapeOk (t : List D) : Prop := ∃ (ns : List Int) (p b s : Int), t = [.list (ns.map PyData.int), .int p, .int b, .int s] ∧ 0 ≤ p ∧ 0 ≤ b
theorem bMax1 (m : Int) : (0 : Int) < (if 1 > m then 1 else m) := by split <;> omega
theorem bMax2 (m : Int) : (0 : Int) < (if 2 > m then 2 else m) := by split <;> omega
theorem draw_ok (C : Orc) {t : List D} (h : TapeOk t) (m : Int) (hm : m.natAbs.log2 < 9000) : ∃ k t', F5 C [.l t, .d (.int m)] = .ok (.d (.int k)) [.l t'] ∧ TapeOk t' ∧ 0 ≤ k ∧ k < max m 1 := by
  obtain ⟨ns, p, b, s, rfl, hp, hb⟩ := h
  have hmax : (if 1 > m then 1 else m) = max m 1 := by split <;> omega
  have hm1 := bMax1 m
  have hm2 := bMax2 m
  have hlog : (if 2 > m then 2 else m).natAbs.log2 < 9000 := by
    split
    · decide
    · exact hm
  -- what is returned: a rest
  have rest : ∀ x : Int, 0 ≤ x % (if 1 > m then 1 else m) ∧ x % (if 1 > m then 1 else m) < max m 1 := fun x => by
    rw [← hmax]
    exact ⟨Int.emod_nonneg _ (by omega), Int.emod_lt_of_pos _ hm1⟩
  have run : WpC (F5 C [.l [.list (ns.map PyData.int), .int p, .int b, .int s], .d (.int m)]) fun w o => ∃ x t', w = .d (.int (x % (if 1 > m then 1 else m))) ∧ o = [.l t'] ∧ TapeOk t' := by
    refine wpC_run (m := M5 C) rfl rfl rfl ?_
    simp only [List.map_cons, List.map_nil, List.cons_append, List.nil_append, List.replicate]
    unfold M5
    walk_at "ev"
    -- the end: from a number x ≥ 0
    have tail : ∀ (q x : Int) (e2 : Option W), 0 ≤ q → 0 ≤ x → TapeOk [.list (ns.map PyData.int), .int q, .int (x / (if 2 > m then 2 else m)), .int s] := fun q x e2 hq hx => ⟨ns, q, _, s, rfl, hq, Int.ediv_nonneg hx (by omega)⟩
    cases hb0 : (b == 0) with
    | false =>
      walk_at "ev"
      rw [fDiv_p hm2 hlog]
      walk_at "ev"
      rw [fMod_p hm1]
      walk_at "ev"
      exact ⟨b, _, rfl, rfl, tail p b none hp hb⟩
    | true =>
      walk_at "ev"
      cases hpl : decide (p < ((ns.map PyData.int).length : Int)) with
      | true =>
        have hp2 : p < ns.length := by simpa using of_decide_eq_true hpl
        obtain ⟨k, hk⟩ := atI_int hp hp2
        walk_at "ev"
        rw [hk]
        walk_at "ev"
        have hx : 0 ≤ (if k < 0 then -k else k) := by split <;> omega
        generalize (if k < 0 then -k else k) = x at hx ⊢
        cases hx0 : decide (x < 1000000000000000000) with
        | true =>
          walk_at "ev"
          rw [fMod_p hm1]
          walk_at "ev"
          exact ⟨_, _, rfl, rfl, ns, p + 1, b, _, rfl, by omega, hb⟩
        | false =>
          walk_at "ev"
          rw [fDiv_p hm2 hlog]
          walk_at "ev"
          rw [fMod_p hm1]
          walk_at "ev"
          exact ⟨x, _, rfl, rfl, ns, p + 1, _, _, rfl, by omega, Int.ediv_nonneg hx (by omega)⟩
      | false =>
        walk_at "ev"
        have hx : 0 ≤ (s * 48271 + p + 1) % 2147483647 := Int.emod_nonneg _ (by decide)
        generalize (s * 48271 + p + 1) % 2147483647 = x at hx ⊢
        cases hx0 : decide (x < 1000000000000000000) with
        | true =>
          walk_at "ev"
          rw [fMod_p hm1]
          walk_at "ev"
          exact ⟨_, _, rfl, rfl, ns, p + 1, b, _, rfl, by omega, hb⟩
        | false =>
          walk_at "ev"
          rw [fDiv_p hm2 hlog]
          walk_at "ev"
          rw [fMod_p hm1]
          walk_at "ev"
          exact ⟨x, _, rfl, rfl, ns, p + 1, _, _, rfl, by omega, Int.ediv_nonneg hx (by omega)⟩
  obtain ⟨w, o, h1, x, t', rfl, rfl, ht⟩ := run
  exact ⟨_, t', h1, ht, (rest x).1, (rest x).2⟩
def DrawS (C : Orc) : Prop := ∀ t, TapeOk t → ∀ m : Int, m.natAbs.log2 < 9000 → ∃ (k : Int) (t' : List D), C 5 [.l t, .d (.int m)] = .ok (.d (.int k)) [.l t'] ∧ TapeOk t' ∧ 0 ≤ k ∧ k < max m 1
theorem log_small {m : Int} (h : m.natAbs < 2 ^ 64) : m.natAbs.log2 < 9000 := by
  by_cases h0 : m.natAbs = 0
  · rw [h0]; decide
  · exact Nat.lt_trans ((Nat.log2_lt h0).mpr h) (by decide)
/-! ### the tape's beginning -/
theorem forAll_ints {tg : Tg} {b : MS} {ns : List Int} {e : Env} (Inv : Env → Prop) (h0 : Inv e) (step : ∀ (n : Int) (e : Env), Inv e → ∃ e0, tg (.int n) e = some e0 ∧ Wp (b e0) fun o e1 => (o = .nx ∨ o = .ct) ∧ Inv e1) : ∃ e', forL tg b (ns.map PyData.int) e = .ok .nx e' ∧ Inv e' := by
  refine forL_inv (fun _ e => Inv e) h0 fun pre x post e he hi => ?_
  have hx : x ∈ ns.map PyData.int := by rw [he]; simp
  obtain ⟨n, _, rfl⟩ := List.mem_map.mp hx
  exact step n e hi
theorem tape_ok (C : Orc) (ns : List Int) : ∃ t, F4 C [.d (.list (ns.map PyData.int))] = .ok (.l t) [] ∧ TapeOk t := by
  have run : WpC (F4 C [.d (.list (ns.map PyData.int))]) fun w o => o = [] ∧ ∃ t, w = .l t ∧ TapeOk t := by
    refine wpC_run (m := M4 C) rfl rfl rfl ?_
    simp only [List.map_cons, List.map_nil, List.cons_append, List.nil_append, List.replicate]
    unfold M4
    walk_at "ev"
    obtain ⟨e', h, s, x, rfl⟩ := forAll_ints (ns := ns) (e := [some (W.d (PyData.list (List.map PyData.int ns))), some (W.d (PyData.int 7)), none]) (tg := tgN 2) (b := M4b0 C)
      (fun e => ∃ (s : Int) (x : Option W), e = [some (.d (.list (ns.map PyData.int))), some (.d (.int s)), x]) ⟨7, none, rfl⟩ (fun n e hi => by
        obtain ⟨s, x, rfl⟩ := hi
        refine ⟨_, rfl, ?_⟩
        unfold M4b0
        walk_at "ev"
        exact ⟨by simp, _, _, rfl⟩)
    rw [h]
    walk_at "ev"
    refine ⟨by trivial, _, rfl, ns, 0, 0, s, rfl, by decide, by decide⟩
  obtain ⟨w, o, h, rfl, t, rfl, ht⟩ := run
  exact ⟨t, h, ht⟩
/-! ### prices -/
def priceD : Option Int → D
  | none => .none
  | some i => .int i
/-! ### families -/
structure Var where
  plug : Nat
  slots : List Nat
  price : Option Int
def natD (n : Nat) : D := .int (n : Int)
def Var.dat (v : Var) : D := .tuple [natD v.plug, .tuple (v.slots.map natD), priceD v.price]
structure Fam where
  count : Nat
  roots : List Nat
  vars : List Var
def Fam.dat (f : Fam) : D := .tuple [natD f.count, .tuple (f.roots.map natD), .tuple (f.vars.map Var.dat)]
structure Var.Ok (count : Nat) (low : Int) (v : Var) : Prop where
  plug : v.plug < count
  slots : ∀ s ∈ v.slots, s < count
  len : v.slots.length ≤ 3
  price : ∀ i, v.price = some i → -1000000000 ≤ i ∧ i ≤ 1000000000 ∧ (low ≠ 1 → 0 ≤ i)
structure Fam.Ok (states variants : Nat) (low : Int) (f : Fam) : Prop where
  pos : 0 < f.count
  count : f.count ≤ states
  roots : ∀ r ∈ f.roots, r < f.count
  asc : f.roots.Pairwise (· < ·)
  vars : ∀ v ∈ f.vars, v.Ok f.count low
  len : f.vars.length ≤ variants + states
structure Var.Shp (count : Nat) (v : Var) : Prop where
  plug : v.plug < count
  slots : ∀ s ∈ v.slots, s < count
  len : v.slots.length ≤ 3
structure Fam.Shp (states variants : Nat) (f : Fam) : Prop where
  pos : 0 < f.count
  count : f.count ≤ states
  roots : ∀ r ∈ f.roots, r < f.count
  asc : f.roots.Pairwise (· < ·)
  vars : ∀ v ∈ f.vars, v.Shp f.count
  len : f.vars.length ≤ variants + states
def PriceS (C : Orc) : Prop := ∀ t, TapeOk t → ∀ mode low : Int, 0 ≤ mode → mode < 4 → ∃ (p : Option Int) (t' : List D), C 6 [.l t, .d (.int mode), .d (.int low)] = .ok (.d (priceD p)) [.l t'] ∧ TapeOk t' ∧ ∀ i, p = some i → -1000000000 ≤ i ∧ i ≤ 1000000000 ∧ (low ≠ 1 → 0 ≤ i)
/-! ### the comparison of what is told with what is due -/
end Mi
set_option Elab.async false
set_option linter.all false
set_option maxRecDepth 100000
set_option maxHeartbeats 4000000
namespace Mi
open PySem L2
local macro_rules | `(tactic| push_cast [$hs,*]) => `(tactic| simp -implicitDefEqProofs (disch := first | omega | (simp only [rng_len, List.length_map, List.length_append, List.length_range, List.length_replicate, List.length_cons, List.length_nil, List.length_set, List.length_reverse, List.length_zipIdx]; omega)) only [ev_seq, ev_if, ev_ifE, ev_nx, ev_bk, ev_ct, ev_E, ev_set, ev_tg, ev_ret, ev_retO, ev_retN, ev_put, ev_for, ev_C, ev_V, ev_vr, ev_ex, ev_o1, ev_o2, ev_t2, ev_tru, ev_and, ev_or, ev_not, ev_yes, ev_andE, ev_orE, ev_notE, ev_LN, ev_LC, ev_B, ev_TN, ev_TC, ev_tup, ev_lst, ev_GN, ev_GV, ev_GR, ev_call, ev_mu, ev_lc, ev_any, ev_r1, ev_r2, ev_rep, kS_nx, kS_bk, kS_ct, kS_rt, kIf_t, kIf_f, kM_ok, kSet_ok, kAnd_t, kAnd_f, kOr_t, kOr_f, kAndE_t, kAndE_f, kOrE_t, kOrE_f, kNotE_b, oVr_s, kO2_ok, kO2'_ok, g2_ss, gv_l, gv_r, kL_ok, kL'_ok, kB_ok, gB_s, gvL_n, gvL_c, kV_ss, kT_ok, kT'_ok, kG_ok, kG'_ok, gG_l, gG_t, gG_d, kC_ok, kC1_s, kC2_ok, kP_s, take_n, take_l, take_r, put_n, put_l, put_r, pt1_s, kPut1_ok, kPut2_ok, isL_l, kMu_ok, kFor_ok, kSeqI_l, kSeqI_l', kSeqI_t, kR2_ok, kRep_ok, rV_d, rV_l, cont_n, cont_c, ct1_s, wp_ok, wpC_ok, atI_0, atI_1, atI_2, atI_3, fIx_l, fIx_t, List.length_cons, List.length_nil, Nat.zero_add, Nat.reduceAdd, Int.reduceLT, Int.reduceLE, Int.reduceAdd, Int.reduceMul, Int.reduceToNat, Int.reduceNeg, Int.reduceSub, Nat.reduceLT, Nat.reduceLeDiff, Nat.reduceMul, gt_iff_lt, ge_iff_le, ixN_4_0, ixN_4_1, ixN_4_2, ixN_4_3, wipe_n, wipe_c, tgN_r, tgT_r, tgL_n, tgL_c, ofO_some, vw_d, vw_l, fAddI_int, fSub_int, fNeg_int, fMod_p, fMul_31, fMul_48271, fMul_69621, fPow18, fPow9, cCmp_int, cEq_int, cNe_int, cEq_str, cNe_str, cOrd_int, ev_aug, kAug_ok, ev_en, kEn_t, fIs_int, fIs_bool, fIs_none, fIs_str, fIs_list, fIs_tuple, isTy_int_int, isTy_int_bool, isTy_tuple_tuple, cIs_none, cIsNot_none, isNone_none, isNone_int, isNone_str, isNone_tuple, isNone_list, isNone_bool, truD_l, truD_t, truD_b, truD_n, bLen_l, bLen_t, bAbs_int, bInt_int, bMax_int, bMin_int, bList_l, bList_t, bTuple_l, bTuple_t, Option.map_some, Option.bind_some, List.getD_cons_zero, List.getD_cons_succ, List.set_cons_zero, List.set_cons_succ, if_true, if_false, lB, ↓reduceIte, Bool.not_true, Bool.not_false, kO1_ok, g1_s, kTru_ok, vf_d, vf_l, tk1_s, tkW_s, isO_l, isO_t, kF_ok, endF_r, endF_n, kF_ex, endX_s, rV_t, lpos_n, lpos_l, lpos_t, lpos_d, fAdd_int, ev_pN, ev_pS, kP1_i, ev_sl, kSl_ok, kSl2_ok, kSl3_ok, fSl_l, fSl_t, fRev_l, fRev_t, kR1_c, kR1_n, kR2_c, kLc_c, kRep2_n, gPut_n, gPut_c, gMu_app, rep_n, vw_d, List.length_map, List.length_range, rng_len, Int.toNat_natCast, beq_self_eq_true, Bool.not_true, Bool.not_false, Option.isNone_none, Option.isNone_some, decide_true, decide_false, ev_forN, List.isEmpty_nil, List.isEmpty_cons, kTg_2, kTg_3, ev_mv, gMv_s, ev_rvA, kRvA_t, kRvA_d, kRvA_l, ev_g1, kg1_i, ev_g2, kg2a_i, kg2_i, fNotT_l, fNotT_b, ev_tupR, ev_lstR, kTupR_s, kLstR_s, ev_rvR, kRvR_s, $hs,*])
local macro_rules | `(tactic| walk_at "ev") => `(tactic| simp only [ev_seq, ev_if, ev_ifE, ev_nx, ev_bk, ev_ct, ev_E, ev_set, ev_tg, ev_ret, ev_retO, ev_retN, ev_put, ev_for, ev_C, ev_V, ev_vr, ev_ex, ev_o1, ev_o2, ev_t2, ev_tru, ev_and, ev_or, ev_not, ev_yes, ev_andE, ev_orE, ev_notE, ev_LN, ev_LC, ev_B, ev_TN, ev_TC, ev_tup, ev_lst, ev_GN, ev_GV, ev_GR, ev_call, ev_mu, ev_lc, ev_any, ev_r1, ev_r2, ev_rep, kS_nx, kS_bk, kS_ct, kS_rt, kIf_t, kIf_f, kM_ok, kSet_ok, kAnd_t, kAnd_f, kOr_t, kOr_f, kAndE_t, kAndE_f, kOrE_t, kOrE_f, kNotE_b, oVr_s, kO2_ok, kO2'_ok, g2_ss, gv_l, gv_r, kL_ok, kL'_ok, kB_ok, gB_s, gvL_n, gvL_c, kV_ss, kT_ok, kT'_ok, kG_ok, kG'_ok, gG_l, gG_t, gG_d, kC_ok, kC1_s, kC2_ok, kP_s, take_n, take_l, take_r, put_n, put_l, put_r, pt1_s, kPut1_ok, kPut2_ok, gPut_l, isL_l, kMu_ok, gMu_l, kFor_ok, kLc_ok, kSeqI_l, kSeqI_l', kSeqI_t, kR1_i, kR2_ok, kR2'_i, kRep_ok, kRep2_i, rV_d, rV_l, cont_n, cont_c, ct1_s, wp_ok, wpC_ok, atI_0, atI_1, atI_2, atI_3, fIx_l, fIx_t, List.length_cons, List.length_nil, Nat.zero_add, Nat.reduceAdd, Int.reduceLT, Int.reduceLE, Int.reduceAdd, Int.reduceMul, Int.reduceToNat, Int.reduceNeg, Int.reduceSub, Nat.reduceLT, Nat.reduceLeDiff, Nat.reduceMul, gt_iff_lt, ge_iff_le, ixN_4_0, ixN_4_1, ixN_4_2, ixN_4_3, wipe_n, wipe_c, tgN_r, tgT_r, tgL_n, tgL_c, ofO_some, vw_d, vw_l, fAddI_int, fSub_int, fNeg_int, fMod_p, fMul_31, fMul_48271, fMul_69621, fPow18, fPow9, cCmp_int, cEq_int, cNe_int, cEq_str, cNe_str, cOrd_int, ev_aug, kAug_ok, ev_en, kEn_t, fIs_int, fIs_bool, fIs_none, fIs_str, fIs_list, fIs_tuple, isTy_int_int, isTy_int_bool, isTy_tuple_tuple, cIs_none, cIsNot_none, isNone_none, isNone_int, isNone_str, isNone_tuple, isNone_list, isNone_bool, truD_l, truD_t, truD_b, truD_n, bLen_l, bLen_t, bAbs_int, bInt_int, bMax_int, bMin_int, bList_l, bList_t, bTuple_l, bTuple_t, Option.map_some, Option.bind_some, List.getD_cons_zero, List.getD_cons_succ, List.set_cons_zero, List.set_cons_succ, if_true, if_false, lB, ↓reduceIte, Bool.not_true, Bool.not_false, kO1_ok, g1_s, kTru_ok, vf_d, vf_l, tk1_s, tkW_s, isO_l, isO_t, kF_ok, endF_r, endF_n, kF_ex, endX_s, rV_t, lpos_n, lpos_l, lpos_t, lpos_d, fAdd_int, ev_pN, ev_pS, kP1_i, ev_sl, kSl_ok, kSl2_ok, kSl3_ok, fSl_l, fSl_t, fRev_l, fRev_t])
def M17b0 (C : Orc) : MS :=
 (sSeq (sSet 6 (eCall C 5 [.rf 0, .vl (eO2 fIx (.ex (eLst [(eC (.int 1)), (eC (.int 2)), (eC (.int 10)), (eO2 fAddI (.ex (eO2 fPow (.ex (eC (.int 10))) (.ex (eC (.int 9))))) (.ex (eC (.int 1))))])) (.vr 3))]))
 (sSeq (sIf (tAnd' (tO2 cEq (.vr 2) (.ex (eC (.int 1)))) (tO2 cEq (.ex (eCall C 5 [.rf 0, .vl (eC (.int 3))])) (.ex (eC (.int 0)))))
 (sSet 6 (eO1 fNeg (.vr 6)))
 sNx)
 (sSeq (sIf (tO2 cIs (.ex (eO2 fIx (.vr 5) (.ex (eC (.int 2))))) (.ex (eC .none)))
 (sSet 6 (eC .none))
 sNx)
 (sE (eMu mApp 4 [(eTup [(eO2 fIx (.vr 5) (.ex (eC (.int 0)))), (eO2 fIx (.vr 5) (.ex (eC (.int 1)))), (eV 6)])])))))
/-- _law_repriced -/
def M17 (C : Orc) : MS :=
 (sSeq (sSet 3 (eCall C 5 [.rf 0, .vl (eC (.int 4))]))
 (sSeq (sSet 4 (eLst []))
 (sSeq (sFor (iAny (eO2 fIx (.vr 1) (.ex (eC (.int 2))))) (tgN 5)
 (M17b0 C))
 (sRet (eTup [(eO2 fIx (.vr 1) (.ex (eC (.int 0)))), (eO2 fIx (.vr 1) (.ex (eC (.int 1)))), (eB bTuple [(.vr 4)])])))))
def F17 (C : Orc) : List W → CRes := runF 3 7 [[0]] (M17 C)
def M18b0 (C : Orc) : MS :=
 (sSeq (sSet 4 (eO2 fRepT (.ex (eTup [(eO2 fAddI (.vr 3) (.ex (eC (.int 1))))])) (.ex (eO2 fAddI (.ex (eC (.int 1))) (.ex (eCall C 5 [.rf 0, .vl (eO2 fIx (.ex (eLst [(eC (.int 1)), (eC (.int 3))])) (.ex (eCall C 5 [.rf 0, .vl (eC (.int 2))])))]))))))
 (sSeq (sIf (tO2 cEq (.vr 3) (.ex (eO2 fSub (.vr 1) (.ex (eC (.int 1))))))
 (sSet 4 (eTup []))
 sNx)
 (sE (eMu mIns 2 [(eCall C 5 [.rf 0, .vl (eO2 fAddI (.ex (eB bLen [(.vr 2)])) (.ex (eC (.int 1))))]), (eTup [(eV 3), (eV 4), (eCall C 5 [.rf 0, .vl (eC (.int 4))])])]))))
/-- _law_tower -/
def M18 (C : Orc) : MS :=
 (sSeq (sSet 1 (eO2 fIx (.ex (eLst [(eC (.int 1)), (eC (.int 2)), (eC (.int 4)), (eC (.int 5)), (eC (.int 6)), (eC (.int 7)), (eC (.int 40))])) (.ex (eCall C 5 [.rf 0, .vl (eC (.int 7))]))))
 (sSeq (sSet 2 (eLst []))
 (sSeq (sFor (iR1 (eV 1)) (tgN 3)
 (M18b0 C))
 (sRet (eTup [(eV 1), (eTup [(eC (.int 0))]), (eB bTuple [(.vr 2)])])))))
def F18 (C : Orc) : List W → CRes := runF 1 5 [[0]] (M18 C)
def M19b0 (C : Orc) : MS :=
 (sE (eMu mIns 4 [(eCall C 5 [.rf 0, .vl (eO2 fAddI (.ex (eB bLen [(.vr 4)])) (.ex (eC (.int 1))))]), (eTup [(eV 5), (eTup [(eO2 fAddI (.vr 5) (.ex (eC (.int 1))))]), (eCall C 5 [.rf 0, .vl (eC (.int 3))])])]))
/-- _law_tall -/
def M19 (C : Orc) : MS :=
 (sSeq (sSet 1 (eO2 fAddI (.ex (eC (.int 1))) (.ex (eCall C 5 [.rf 0, .vl (eC (.int 8))]))))
 (sSeq (sSet 2 (eO2 fAddI (.ex (eC (.int 1))) (.ex (eCall C 5 [.rf 0, .vl (eC (.int 8))]))))
 (sSeq (sSet 3 (eO2 fSub (.ex (eO2 fSub (.ex (eO2 fAddI (.ex (eC (.int 18))) (.ex (eCall C 5 [.rf 0, .vl (eC (.int 6))])))) (.vr 1))) (.vr 2)))
 (sSeq (sSet 4 (eLst [(eTup [(eC (.int 0)), (eTup [(eV 1), (eV 2), (eV 3)]), (eCall C 5 [.rf 0, .vl (eC (.int 3))])]), (eTup [(eC (.int 39)), (eTup []), (eCall C 5 [.rf 0, .vl (eC (.int 3))])])]))
 (sSeq (sFor (iR2 (eC (.int 1)) (eC (.int 39))) (tgN 5)
 (M19b0 C))
 (sRet (eTup [(eC (.int 40)), (eTup [(eC (.int 0))]), (eB bTuple [(.vr 4)])])))))))
def F19 (C : Orc) : List W → CRes := runF 1 6 [[0]] (M19 C)
/-- _law_any_family -/
def M20 (C : Orc) : MS :=
 (sSeq (sSet 1 (eCall C 5 [.rf 0, .vl (eC (.int 8))]))
 (sSeq (sIf (tO2 cEq (.vr 1) (.ex (eC (.int 0))))
 (sRet (eCall C 18 [.rf 0]))
 sNx)
 (sSeq (sIf (tO2 cEq (.vr 1) (.ex (eC (.int 1))))
 (sRet (eCall C 19 [.rf 0]))
 sNx)
 (sRet (eCall C 7 [.rf 0, .vl (eC (.int 6)), .vl (eC (.int 10)), .vl (eC (.int 0))])))))
def F20 (C : Orc) : List W → CRes := runF 1 2 [[0]] (M20 C)
/-! ### families that grow fast, repriced families -/
theorem Fam.Ok.mono {a b a' b' : Nat} {low : Int} {f : Fam} (h : f.Ok a b low) (h1 : a ≤ a') (h2 : b + a ≤ b' + a') : f.Ok a' b' low :=
  ⟨h.pos, by have := h.count; omega, h.roots, h.asc, h.vars, by have := h.len; omega⟩
/-- slots lie above -/
def Var.Up (v : Var) : Prop := ∀ s ∈ v.slots, v.plug < s
def Fam.Lev (f : Fam) : Prop := ∀ v ∈ f.vars, v.Up
/-! ### the same family with other prices -/
/-- the same families but for their prices; missing where the other is -/
def Var.sh (u : Var) : Nat × List Nat × Bool := (u.plug, u.slots, u.price.isNone)
structure Fam.like (g f : Fam) : Prop where
  count : g.count = f.count
  roots : g.roots = f.roots
  vars : g.vars.map Var.sh = f.vars.map Var.sh
end Mi
set_option Elab.async false
set_option linter.all false
set_option maxRecDepth 100000
set_option maxHeartbeats 4000000
namespace Mi
open PySem L2
local macro_rules | `(tactic| push_cast [$hs,*]) => `(tactic| simp -implicitDefEqProofs (disch := first | omega | (simp only [rng_len, List.length_map, List.length_append, List.length_range, List.length_replicate, List.length_cons, List.length_nil, List.length_set, List.length_reverse, List.length_zipIdx]; omega)) only [ev_seq, ev_if, ev_ifE, ev_nx, ev_bk, ev_ct, ev_E, ev_set, ev_tg, ev_ret, ev_retO, ev_retN, ev_put, ev_for, ev_C, ev_V, ev_vr, ev_ex, ev_o1, ev_o2, ev_t2, ev_tru, ev_and, ev_or, ev_not, ev_yes, ev_andE, ev_orE, ev_notE, ev_LN, ev_LC, ev_B, ev_TN, ev_TC, ev_tup, ev_lst, ev_GN, ev_GV, ev_GR, ev_call, ev_mu, ev_lc, ev_any, ev_r1, ev_r2, ev_rep, kS_nx, kS_bk, kS_ct, kS_rt, kIf_t, kIf_f, kM_ok, kSet_ok, kAnd_t, kAnd_f, kOr_t, kOr_f, kAndE_t, kAndE_f, kOrE_t, kOrE_f, kNotE_b, oVr_s, kO2_ok, kO2'_ok, g2_ss, gv_l, gv_r, kL_ok, kL'_ok, kB_ok, gB_s, gvL_n, gvL_c, kV_ss, kT_ok, kT'_ok, kG_ok, kG'_ok, gG_l, gG_t, gG_d, kC_ok, kC1_s, kC2_ok, kP_s, take_n, take_l, take_r, put_n, put_l, put_r, pt1_s, kPut1_ok, kPut2_ok, isL_l, kMu_ok, kFor_ok, kSeqI_l, kSeqI_l', kSeqI_t, kR2_ok, kRep_ok, rV_d, rV_l, cont_n, cont_c, ct1_s, wp_ok, wpC_ok, atI_0, atI_1, atI_2, atI_3, fIx_l, fIx_t, List.length_cons, List.length_nil, Nat.zero_add, Nat.reduceAdd, Int.reduceLT, Int.reduceLE, Int.reduceAdd, Int.reduceMul, Int.reduceToNat, Int.reduceNeg, Int.reduceSub, Nat.reduceLT, Nat.reduceLeDiff, Nat.reduceMul, gt_iff_lt, ge_iff_le, ixN_4_0, ixN_4_1, ixN_4_2, ixN_4_3, wipe_n, wipe_c, tgN_r, tgT_r, tgL_n, tgL_c, ofO_some, vw_d, vw_l, fAddI_int, fSub_int, fNeg_int, fMod_p, fMul_31, fMul_48271, fMul_69621, fPow18, fPow9, cCmp_int, cEq_int, cNe_int, cEq_str, cNe_str, cOrd_int, ev_aug, kAug_ok, ev_en, kEn_t, fIs_int, fIs_bool, fIs_none, fIs_str, fIs_list, fIs_tuple, isTy_int_int, isTy_int_bool, isTy_tuple_tuple, cIs_none, cIsNot_none, isNone_none, isNone_int, isNone_str, isNone_tuple, isNone_list, isNone_bool, truD_l, truD_t, truD_b, truD_n, bLen_l, bLen_t, bAbs_int, bInt_int, bMax_int, bMin_int, bList_l, bList_t, bTuple_l, bTuple_t, Option.map_some, Option.bind_some, List.getD_cons_zero, List.getD_cons_succ, List.set_cons_zero, List.set_cons_succ, if_true, if_false, lB, ↓reduceIte, Bool.not_true, Bool.not_false, kO1_ok, g1_s, kTru_ok, vf_d, vf_l, tk1_s, tkW_s, isO_l, isO_t, kF_ok, endF_r, endF_n, kF_ex, endX_s, rV_t, lpos_n, lpos_l, lpos_t, lpos_d, fAdd_int, ev_pN, ev_pS, kP1_i, ev_sl, kSl_ok, kSl2_ok, kSl3_ok, fSl_l, fSl_t, fRev_l, fRev_t, kR1_c, kR1_n, kR2_c, kLc_c, kRep2_n, gPut_n, gPut_c, gMu_app, rep_n, vw_d, List.length_map, List.length_range, rng_len, Int.toNat_natCast, beq_self_eq_true, Bool.not_true, Bool.not_false, Option.isNone_none, Option.isNone_some, decide_true, decide_false, ev_forN, List.isEmpty_nil, List.isEmpty_cons, kTg_2, kTg_3, ev_mv, gMv_s, ev_rvA, kRvA_t, kRvA_d, kRvA_l, ev_g1, kg1_i, ev_g2, kg2a_i, kg2_i, fNotT_l, fNotT_b, ev_tupR, ev_lstR, kTupR_s, kLstR_s, ev_rvR, kRvR_s, $hs,*])
local macro_rules | `(tactic| walk_at "ev") => `(tactic| simp only [ev_seq, ev_if, ev_ifE, ev_nx, ev_bk, ev_ct, ev_E, ev_set, ev_tg, ev_ret, ev_retO, ev_retN, ev_put, ev_for, ev_C, ev_V, ev_vr, ev_ex, ev_o1, ev_o2, ev_t2, ev_tru, ev_and, ev_or, ev_not, ev_yes, ev_andE, ev_orE, ev_notE, ev_LN, ev_LC, ev_B, ev_TN, ev_TC, ev_tup, ev_lst, ev_GN, ev_GV, ev_GR, ev_call, ev_mu, ev_lc, ev_any, ev_r1, ev_r2, ev_rep, kS_nx, kS_bk, kS_ct, kS_rt, kIf_t, kIf_f, kM_ok, kSet_ok, kAnd_t, kAnd_f, kOr_t, kOr_f, kAndE_t, kAndE_f, kOrE_t, kOrE_f, kNotE_b, oVr_s, kO2_ok, kO2'_ok, g2_ss, gv_l, gv_r, kL_ok, kL'_ok, kB_ok, gB_s, gvL_n, gvL_c, kV_ss, kT_ok, kT'_ok, kG_ok, kG'_ok, gG_l, gG_t, gG_d, kC_ok, kC1_s, kC2_ok, kP_s, take_n, take_l, take_r, put_n, put_l, put_r, pt1_s, kPut1_ok, kPut2_ok, gPut_l, isL_l, kMu_ok, gMu_l, kFor_ok, kLc_ok, kSeqI_l, kSeqI_l', kSeqI_t, kR1_i, kR2_ok, kR2'_i, kRep_ok, kRep2_i, rV_d, rV_l, cont_n, cont_c, ct1_s, wp_ok, wpC_ok, atI_0, atI_1, atI_2, atI_3, fIx_l, fIx_t, List.length_cons, List.length_nil, Nat.zero_add, Nat.reduceAdd, Int.reduceLT, Int.reduceLE, Int.reduceAdd, Int.reduceMul, Int.reduceToNat, Int.reduceNeg, Int.reduceSub, Nat.reduceLT, Nat.reduceLeDiff, Nat.reduceMul, gt_iff_lt, ge_iff_le, ixN_4_0, ixN_4_1, ixN_4_2, ixN_4_3, wipe_n, wipe_c, tgN_r, tgT_r, tgL_n, tgL_c, ofO_some, vw_d, vw_l, fAddI_int, fSub_int, fNeg_int, fMod_p, fMul_31, fMul_48271, fMul_69621, fPow18, fPow9, cCmp_int, cEq_int, cNe_int, cEq_str, cNe_str, cOrd_int, ev_aug, kAug_ok, ev_en, kEn_t, fIs_int, fIs_bool, fIs_none, fIs_str, fIs_list, fIs_tuple, isTy_int_int, isTy_int_bool, isTy_tuple_tuple, cIs_none, cIsNot_none, isNone_none, isNone_int, isNone_str, isNone_tuple, isNone_list, isNone_bool, truD_l, truD_t, truD_b, truD_n, bLen_l, bLen_t, bAbs_int, bInt_int, bMax_int, bMin_int, bList_l, bList_t, bTuple_l, bTuple_t, Option.map_some, Option.bind_some, List.getD_cons_zero, List.getD_cons_succ, List.set_cons_zero, List.set_cons_succ, if_true, if_false, lB, ↓reduceIte, Bool.not_true, Bool.not_false, kO1_ok, g1_s, kTru_ok, vf_d, vf_l, tk1_s, tkW_s, isO_l, isO_t, kF_ok, endF_r, endF_n, kF_ex, endX_s, rV_t, lpos_n, lpos_l, lpos_t, lpos_d, fAdd_int, ev_pN, ev_pS, kP1_i, ev_sl, kSl_ok, kSl2_ok, kSl3_ok, fSl_l, fSl_t, fRev_l, fRev_t])
def M14b0 (C : Orc) : MS :=
 (sSeq (sIf (tO2 cIs (.ex (eO2 fIx (.vr 1) (.vr 6))) (.ex (eC .none)))
 (sRet (eC .none))
 sNx)
 (sSeq (sAug 4 (fun i j => i + j) (eO2 fIx (.ex (eO2 fIx (.vr 1) (.vr 6))) (.ex (eC (.int 0)))))
 (sAug 5 (fun i j => i + j) (eO2 fIx (.ex (eO2 fIx (.vr 1) (.vr 6))) (.ex (eC (.int 1)))))))
/-- weight_of -/
def M14 (C : Orc) : MS :=
 (sSeq (sTg (tgT [(tgN 2), (tgN 3), (tgN 4)]) (eV 0))
 (sSeq (sIf (tO2 cIs (.vr 4) (.ex (eC .none)))
 (sRet (eC .none))
 sNx)
 (sSeq (sSet 5 (eC (.int 1)))
 (sSeq (sFor (iAny (eV 3)) (tgN 6)
 (M14b0 C))
 (sRet (eTup [(eV 4), (eV 5)]))))))
def F14 (C : Orc) : List W → CRes := runF 2 7 [[]] (M14 C)
def M15b0 (C : Orc) : MS :=
 (sSeq (sSet 7 (eO2 fIx (.vr 6) (.ex (eC (.int 0)))))
 (sSeq (sSet 8 (eCall C 14 [.vl (eV 6), .vl (eV 1)]))
 (sIf (tAnd' (tO2 cIsNot (.vr 8) (.ex (eC .none))) (tOr' (tO2 cIs (.ex (eO2 fIx (.vr 5) (.vr 7))) (.ex (eC .none))) (tO2 dLt (.vr 8) (.ex (eO2 fIx (.vr 5) (.vr 7))))))
 (sPut 5 (eV 7) (eV 8))
 sNx)))
/-- least_round -/
def M15 (C : Orc) : MS :=
 (sSeq (sTg (tgT [(tgN 2), (tgN 3), (tgN 4)]) (eV 0))
 (sSeq (sSet 5 (eRep (eLst [(eC .none)]) (eV 2)))
 (sSeq (sFor (iAny (eV 4)) (tgN 6)
 (M15b0 C))
 (sRet (eB bTuple [(.vr 5)])))))
def F15 (C : Orc) : List W → CRes := runF 2 9 [[]] (M15 C)
def M16b0 (C : Orc) : MS :=
 (sSeq (sIf (tO2 cIs (.ex (eO2 fIx (.vr 1) (.vr 4))) (.ex (eC .none)))
 (sRet (eC .none))
 sNx)
 (sSeq (sSet 2 (eO2 fAdd (.vr 2) (.ex (eO2 fIx (.ex (eO2 fIx (.vr 1) (.vr 4))) (.ex (eC (.int 0)))))))
 (sSet 3 (eO2 fAdd (.vr 3) (.ex (eO2 fIx (.ex (eO2 fIx (.vr 1) (.vr 4))) (.ex (eC (.int 1)))))))))
/-- _law_weight -/
def M16 (C : Orc) : MS :=
 (sSeq (sIf (tO2 cIs (.ex (eO2 fIx (.vr 0) (.ex (eC (.int 2))))) (.ex (eC .none)))
 (sRet (eC .none))
 sNx)
 (sSeq (sSet 2 (eO2 fIx (.vr 0) (.ex (eC (.int 2)))))
 (sSeq (sSet 3 (eC (.int 1)))
 (sSeq (sFor (iAny (eO2 fIx (.vr 0) (.ex (eC (.int 1))))) (tgN 4)
 (M16b0 C))
 (sRet (eTup [(eV 2), (eV 3)]))))))
def F16 (C : Orc) : List W → CRes := runF 2 5 [[], [1]] (M16 C)
def M21b0 (C : Orc) : MS :=
 (sSeq (sSet 4 (eCall C 16 [.vl (eV 3), .vl (eV 1)]))
 (sIf (tAnd' (tO2 cIsNot (.vr 4) (.ex (eC .none))) (tOr' (tO2 cIs (.ex (eO2 fIx (.vr 2) (.ex (eO2 fIx (.vr 3) (.ex (eC (.int 0))))))) (.ex (eC .none))) (tO2 dLt (.vr 4) (.ex (eO2 fIx (.vr 2) (.ex (eO2 fIx (.vr 3) (.ex (eC (.int 0))))))))))
 (sPut 2 (eO2 fIx (.vr 3) (.ex (eC (.int 0)))) (eV 4))
 sNx))
/-- _law_rounded -/
def M21 (C : Orc) : MS :=
 (sSeq (sSet 2 (eLc (iR1 (eO2 fIx (.vr 0) (.ex (eC (.int 0))))) (tgN 5) mYes (eC .none) [5]))
 (sSeq (sFor (iAny (eO2 fIx (.vr 0) (.ex (eC (.int 2))))) (tgN 3)
 (M21b0 C))
 (sRet (eB bTuple [(.vr 2)]))))
def F21 (C : Orc) : List W → CRes := runF 2 6 [[]] (M21 C)
/-! ### weights -/
abbrev Wt := Option (Int × Int)
def wD : Wt → D
  | none => .none
  | some p => .tuple [.int p.1, .int p.2]
def wsum (ws : List Wt) : List Nat → Int → Int → Wt
  | [], p, n => some (p, n)
  | s :: ss, p, n => match ws.getD s none with
    | none => none
    | some q => wsum ws ss (p + q.1) (n + q.2)
def weight (v : Var) (ws : List Wt) : Wt := match v.price with
  | none => none
  | some p => wsum ws v.slots p 1
/-! ### a round -/
def wless (a b : Int × Int) : Bool := PySem.W.dataLt (wD (some a)) (wD (some b))
def wtake : Wt → Wt → Bool
  | none, _ => false
  | some _, none => true
  | some a, some b => wless a b
def wStep (ws row : List Wt) (v : Var) : List Wt := if wtake (weight v ws) (row.getD v.plug none) = true then row.set v.plug (weight v ws) else row
def wRound (f : Fam) (ws : List Wt) : List Wt := f.vars.foldl (wStep ws) (List.replicate f.count none)
structure WtFor (f : Fam) (ws : List Wt) : Prop where
  len : ws.length = f.count
  plug : ∀ v ∈ f.vars, v.plug < f.count
  slots : ∀ v ∈ f.vars, ∀ s ∈ v.slots, s < f.count
  small : f.count ≤ 1000
end Mi
set_option Elab.async false
set_option linter.all false
set_option maxRecDepth 100000
set_option maxHeartbeats 4000000
namespace Mi
open PySem L2
/-! ### the order of weights -/
def wlt (x y : Wt) : Prop := wtake x y = true
def wle (x y : Wt) : Prop := ¬ wlt y x
/-! ### sums of weights -/
def rowLe (ws us : List Wt) : Prop := ∀ s, wle (ws.getD s none) (us.getD s none)
/-- weights of trees: no price below 0, a part at least -/
def Pos (ws : List Wt) : Prop := ∀ s q, ws.getD s none = some q → 0 ≤ q.1 ∧ 1 ≤ q.2
/-! ### a round tells the least weights -/
/-! ### the rounds settle -/
def wIt (f : Fam) : Nat → List Wt
  | 0 => List.replicate f.count none
  | k + 1 => wRound f (wIt f k)
/-- no price below 0, plugs and slots are states -/
structure Fam.Plain (f : Fam) : Prop where
  plug : ∀ v ∈ f.vars, v.plug < f.count
  slots : ∀ v ∈ f.vars, ∀ s ∈ v.slots, s < f.count
  price : ∀ v ∈ f.vars, ∀ p, v.price = some p → 0 ≤ p
section
variable {f : Fam} (hf : f.Plain)
include hf
end
/-- the least weights -/
def Fam.lw (f : Fam) : List Wt := wIt f f.count
end Mi
set_option Elab.async false
set_option linter.all false
set_option maxRecDepth 100000
set_option maxHeartbeats 4000000
namespace Mi
open PySem L2
local macro_rules | `(tactic| push_cast [$hs,*]) => `(tactic| simp -implicitDefEqProofs (disch := first | omega | (simp only [rng_len, List.length_map, List.length_append, List.length_range, List.length_replicate, List.length_cons, List.length_nil, List.length_set, List.length_reverse, List.length_zipIdx]; omega)) only [ev_seq, ev_if, ev_ifE, ev_nx, ev_bk, ev_ct, ev_E, ev_set, ev_tg, ev_ret, ev_retO, ev_retN, ev_put, ev_for, ev_C, ev_V, ev_vr, ev_ex, ev_o1, ev_o2, ev_t2, ev_tru, ev_and, ev_or, ev_not, ev_yes, ev_andE, ev_orE, ev_notE, ev_LN, ev_LC, ev_B, ev_TN, ev_TC, ev_tup, ev_lst, ev_GN, ev_GV, ev_GR, ev_call, ev_mu, ev_lc, ev_any, ev_r1, ev_r2, ev_rep, kS_nx, kS_bk, kS_ct, kS_rt, kIf_t, kIf_f, kM_ok, kSet_ok, kAnd_t, kAnd_f, kOr_t, kOr_f, kAndE_t, kAndE_f, kOrE_t, kOrE_f, kNotE_b, oVr_s, kO2_ok, kO2'_ok, g2_ss, gv_l, gv_r, kL_ok, kL'_ok, kB_ok, gB_s, gvL_n, gvL_c, kV_ss, kT_ok, kT'_ok, kG_ok, kG'_ok, gG_l, gG_t, gG_d, kC_ok, kC1_s, kC2_ok, kP_s, take_n, take_l, take_r, put_n, put_l, put_r, pt1_s, kPut1_ok, kPut2_ok, isL_l, kMu_ok, kFor_ok, kSeqI_l, kSeqI_l', kSeqI_t, kR2_ok, kRep_ok, rV_d, rV_l, cont_n, cont_c, ct1_s, wp_ok, wpC_ok, atI_0, atI_1, atI_2, atI_3, fIx_l, fIx_t, List.length_cons, List.length_nil, Nat.zero_add, Nat.reduceAdd, Int.reduceLT, Int.reduceLE, Int.reduceAdd, Int.reduceMul, Int.reduceToNat, Int.reduceNeg, Int.reduceSub, Nat.reduceLT, Nat.reduceLeDiff, Nat.reduceMul, gt_iff_lt, ge_iff_le, ixN_4_0, ixN_4_1, ixN_4_2, ixN_4_3, wipe_n, wipe_c, tgN_r, tgT_r, tgL_n, tgL_c, ofO_some, vw_d, vw_l, fAddI_int, fSub_int, fNeg_int, fMod_p, fMul_31, fMul_48271, fMul_69621, fPow18, fPow9, cCmp_int, cEq_int, cNe_int, cEq_str, cNe_str, cOrd_int, ev_aug, kAug_ok, ev_en, kEn_t, fIs_int, fIs_bool, fIs_none, fIs_str, fIs_list, fIs_tuple, isTy_int_int, isTy_int_bool, isTy_tuple_tuple, cIs_none, cIsNot_none, isNone_none, isNone_int, isNone_str, isNone_tuple, isNone_list, isNone_bool, truD_l, truD_t, truD_b, truD_n, bLen_l, bLen_t, bAbs_int, bInt_int, bMax_int, bMin_int, bList_l, bList_t, bTuple_l, bTuple_t, Option.map_some, Option.bind_some, List.getD_cons_zero, List.getD_cons_succ, List.set_cons_zero, List.set_cons_succ, if_true, if_false, lB, ↓reduceIte, Bool.not_true, Bool.not_false, kO1_ok, g1_s, kTru_ok, vf_d, vf_l, tk1_s, tkW_s, isO_l, isO_t, kF_ok, endF_r, endF_n, kF_ex, endX_s, rV_t, lpos_n, lpos_l, lpos_t, lpos_d, fAdd_int, ev_pN, ev_pS, kP1_i, ev_sl, kSl_ok, kSl2_ok, kSl3_ok, fSl_l, fSl_t, fRev_l, fRev_t, kR1_c, kR1_n, kR2_c, kLc_c, kRep2_n, gPut_n, gPut_c, gMu_app, rep_n, vw_d, List.length_map, List.length_range, rng_len, Int.toNat_natCast, beq_self_eq_true, Bool.not_true, Bool.not_false, Option.isNone_none, Option.isNone_some, decide_true, decide_false, ev_forN, List.isEmpty_nil, List.isEmpty_cons, kTg_2, kTg_3, ev_mv, gMv_s, ev_rvA, kRvA_t, kRvA_d, kRvA_l, ev_g1, kg1_i, ev_g2, kg2a_i, kg2_i, fNotT_l, fNotT_b, ev_tupR, ev_lstR, kTupR_s, kLstR_s, ev_rvR, kRvR_s, $hs,*])
def M55b0 (C : Orc) : MS :=
 (sSeq (sIf (tO2 cIs (.ex (eO2 fIx (.vr 1) (.vr 6))) (.ex (eC .none)))
 (sRet (eC .none))
 sNx)
 (sAug 5 (fun i j => i + j) (eO2 fIx (.vr 1) (.vr 6))))
/-- cost_of -/
def M55 (C : Orc) : MS :=
 (sSeq (sTg (tgT [(tgN 3), (tgN 4), (tgN 5)]) (eO2 fIx (.ex (eO2 fIx (.vr 0) (.ex (eC (.int 2))))) (.vr 2)))
 (sSeq (sIf (tO2 cIs (.vr 5) (.ex (eC .none)))
 (sRet (eC .none))
 sNx)
 (sSeq (sFor (iAny (eV 4)) (tgN 6)
 (M55b0 C))
 (sRet (eV 5)))))
def F55 (C : Orc) : List W → CRes := runF 3 7 [[], [1]] (M55 C)
def M56b0 (C : Orc) : MS :=
 (sSeq (sSet 4 (eCall C 55 [.vl (eV 0), .vl (eV 1), .vl (eV 2)]))
 (sSeq (sSet 5 (eO2 fIx (.vr 1) (.ex (eO2 fIx (.vr 3) (.ex (eC (.int 0)))))))
 (sIf (tAnd' (tO2 cIsNot (.vr 4) (.ex (eC .none))) (tOr' (tO2 cIs (.vr 5) (.ex (eC .none))) (tO2 cGt (.vr 5) (.vr 4))))
 (sRet (eC (.bool false)))
 sNx)))
/-- is_floor -/
def M56 (C : Orc) : MS :=
 (sSeq (sFor (iEnT (eO2 fIx (.vr 0) (.ex (eC (.int 2))))) (tgT [(tgN 2), (tgN 3)])
 (M56b0 C))
 (sRet (eC (.bool true))))
def F56 (C : Orc) : List W → CRes := runF 2 6 [[]] (M56 C)
def M57b0 (C : Orc) : MS :=
 (sSeq (sSet 4 (eCall C 55 [.vl (eV 0), .vl (eV 1), .vl (eV 2)]))
 (sSeq (sSet 5 (eO2 fIx (.vr 1) (.ex (eO2 fIx (.vr 3) (.ex (eC (.int 0)))))))
 (sIf (tAnd' (tO2 cIsNot (.vr 4) (.ex (eC .none))) (tOr' (tO2 cIs (.vr 5) (.ex (eC .none))) (tO2 cLt (.vr 5) (.vr 4))))
 (sRet (eC (.bool false)))
 sNx)))
/-- is_ceiling -/
def M57 (C : Orc) : MS :=
 (sSeq (sFor (iEnT (eO2 fIx (.vr 0) (.ex (eC (.int 2))))) (tgT [(tgN 2), (tgN 3)])
 (M57b0 C))
 (sRet (eC (.bool true))))
def F57 (C : Orc) : List W → CRes := runF 2 6 [[]] (M57 C)
def M58b0 (C : Orc) : MS :=
 (sSeq (sIf (tOr' (tO2 cIs (.vr 2) (.ex (eC .none))) (tO2 cIs (.ex (eO2 fIx (.vr 1) (.vr 3))) (.ex (eC .none))))
 (sRet (eC .none))
 sNx)
 (sSet 2 (eO2 fAdd (.vr 2) (.ex (eO2 fIx (.vr 1) (.vr 3))))))
/-- _law_cost -/
def M58 (C : Orc) : MS :=
 (sSeq (sSet 2 (eO2 fIx (.vr 0) (.ex (eC (.int 2)))))
 (sSeq (sFor (iAny (eO2 fIx (.vr 0) (.ex (eC (.int 1))))) (tgN 3)
 (M58b0 C))
 (sRet (eV 2))))
def F58 (C : Orc) : List W → CRes := runF 2 4 [[], [1]] (M58 C)
def M59b0 (C : Orc) : MS :=
 (sSeq (sSet 4 (eCall C 58 [.vl (eV 3), .vl (eV 1)]))
 (sIf (tAnd' (tO2 cIsNot (.vr 4) (.ex (eC .none))) (tOr' (tO2 cIs (.ex (eO2 fIx (.vr 1) (.ex (eO2 fIx (.vr 3) (.ex (eC (.int 0))))))) (.ex (eC .none))) (tO2 cLt (.ex (eO2 fMul (.ex (eO2 fSub (.vr 4) (.ex (eO2 fIx (.vr 1) (.ex (eO2 fIx (.vr 3) (.ex (eC (.int 0))))))))) (.vr 2))) (.ex (eC (.int 0))))))
 (sRet (eC (.bool false)))
 sNx))
/-- _law_judged -/
def M59 (C : Orc) : MS :=
 (sSeq (sFor (iAny (eO2 fIx (.vr 0) (.ex (eC (.int 2))))) (tgN 3)
 (M59b0 C))
 (sRet (eC (.bool true))))
def F59 (C : Orc) : List W → CRes := runF 3 5 [[]] (M59 C)
def M60b0 (C : Orc) : MS :=
 (sSeq (sSet 6 (eCall C 58 [.vl (eV 5), .rf 2]))
 (sIf (tAnd' (tO2 cIsNot (.vr 6) (.ex (eC .none))) (tOr' (tO2 cIs (.ex (eO2 fIx (.vr 2) (.ex (eO2 fIx (.vr 5) (.ex (eC (.int 0))))))) (.ex (eC .none))) (tO2 cLt (.ex (eO2 fMul (.ex (eO2 fSub (.vr 6) (.ex (eO2 fIx (.vr 2) (.ex (eO2 fIx (.vr 5) (.ex (eC (.int 0))))))))) (.vr 1))) (.ex (eC (.int 0))))))
 (sSeq (sPut 2 (eO2 fIx (.vr 5) (.ex (eC (.int 0)))) (eV 6))
 (sSet 4 (eC (.bool true))))
 sNx))
def M60b1 (C : Orc) : MS :=
 (sSeq (sSet 4 (eC (.bool false)))
 (sSeq (sFor (iAny (eO2 fIx (.vr 0) (.ex (eC (.int 2))))) (tgN 5)
 (M60b0 C))
 (sIf (tNot' (tTru (.vr 4)))
 (sRetO (eMv 2))
 sNx)))
/-- _law_extreme -/
def M60 (C : Orc) : MS :=
 (sSeq (sSet 2 (eLc (iR1 (eO2 fIx (.vr 0) (.ex (eC (.int 0))))) (tgN 7) mYes (eC .none) [7]))
 (sSeq (sFor (iR1 (eO2 fAddI (.ex (eO2 fIx (.vr 0) (.ex (eC (.int 0))))) (.ex (eC (.int 1))))) (tgN 3)
 (M60b1 C))
 (sRetO (eC .none))))
def F60 (C : Orc) : List W → CRes := runF 2 8 [[]] (M60 C)
def M61b0 (C : Orc) : MS :=
 (sSeq (sSet 6 (eO2 fIx (.vr 5) (.ex (eC (.int 2)))))
 (sSeq (sIf (tAnd' (tO2 cIsNot (.vr 6) (.ex (eC .none))) (tO2 cEq (.ex (eCall C 5 [.rf 0, .vl (eV 4)])) (.ex (eC (.int 0)))))
 (sSeq (sSet 7 (eCall C 5 [.rf 0, .vl (eO2 fIx (.ex (eLst [(eC (.int 2)), (eC (.int 10)), (eO2 fPow (.ex (eC (.int 10))) (.ex (eC (.int 9))))])) (.ex (eCall C 5 [.rf 0, .vl (eC (.int 3))])))]))
 (sSeq (sIf (tAnd' (tO2 cGe (.vr 6) (.ex (eC (.int 0)))) (tO2 cEq (.vr 2) (.ex (eC (.int 1)))))
 (sSet 7 (eB bMin [(.vr 7), (.vr 6)]))
 sNx)
 (sSet 6 (eO2 fSub (.vr 6) (.ex (eO2 fMul (.vr 2) (.vr 7)))))))
 sNx)
 (sE (eMu mApp 3 [(eTup [(eO2 fIx (.vr 5) (.ex (eC (.int 0)))), (eO2 fIx (.vr 5) (.ex (eC (.int 1)))), (eV 6)])]))))
/-- _law_moved -/
def M61 (C : Orc) : MS :=
 (sSeq (sSet 3 (eLst []))
 (sSeq (sSet 4 (eO2 fIx (.ex (eLst [(eC (.int 1)), (eC (.int 2)), (eC (.int 4))])) (.ex (eCall C 5 [.rf 0, .vl (eC (.int 3))]))))
 (sSeq (sFor (iAny (eO2 fIx (.vr 1) (.ex (eC (.int 2))))) (tgN 5)
 (M61b0 C))
 (sRet (eTup [(eO2 fIx (.vr 1) (.ex (eC (.int 0)))), (eO2 fIx (.vr 1) (.ex (eC (.int 1)))), (eB bTuple [(.vr 3)])])))))
def F61 (C : Orc) : List W → CRes := runF 3 8 [[0]] (M61 C)
def M62b0 (C : Orc) : MS :=
 (sSeq (sSet 8 (eO2 fMul (.ex (eO2 fSub (.ex (eCall C 5 [.rf 0, .vl (eV 4)])) (.ex (eCall C 5 [.rf 0, .vl (eV 4)])))) (.vr 5)))
 (sE (eMu mApp 6 [(eO2 fIx (.ex (eLst [(eV 8), (eV 8), (eV 8), (eC .none)])) (.ex (eCall C 5 [.rf 0, .vl (eC (.int 4))])))])))
/-- _law_price_table -/
def M62 (C : Orc) : MS :=
 (sSeq (sSet 3 (eCall C 5 [.rf 0, .vl (eC (.int 3))]))
 (sSeq (sSet 4 (eO2 fIx (.ex (eLst [(eC (.int 3)), (eC (.int 10)), (eO2 fPow (.ex (eC (.int 10))) (.ex (eC (.int 9))))])) (.ex (eCall C 5 [.rf 0, .vl (eC (.int 3))]))))
 (sSeq (sSet 5 (eO2 fIx (.ex (eLst [(eC (.int 1)), (eC (.int 1)), (eC (.int 1)), (eO2 fMul (.ex (eO2 fPow (.ex (eC (.int 10))) (.ex (eC (.int 60))))) (.ex (eO2 fPow (.ex (eC (.int 10))) (.ex (eC (.int 29))))))])) (.ex (eCall C 5 [.rf 0, .vl (eC (.int 4))]))))
 (sSeq (sSet 6 (eC .none))
 (sSeq (sIf (tO2 cLt (.vr 3) (.ex (eC (.int 2))))
 (sSet 6 (eCall C 60 [.vl (eCall C 61 [.rf 0, .vl (eV 1), .vl (eV 2)]), .vl (eV 2)]))
 sNx)
 (sSeq (sIf (tO2 cIs (.vr 6) (.ex (eC .none)))
 (sSeq (sSet 6 (eLst []))
 (sFor (iR1 (eO2 fIx (.vr 1) (.ex (eC (.int 0))))) (tgN 7)
 (M62b0 C)))
 sNx)
 (sSeq (sIf (tO2 cEq (.vr 3) (.ex (eC (.int 1))))
 (sSeq (sSet 9 (eCall C 5 [.rf 0, .vl (eO2 fIx (.vr 1) (.ex (eC (.int 0))))]))
 (sIf (tO2 cIs (.ex (eO2 fIx (.vr 6) (.vr 9))) (.ex (eC .none)))
 (sPut 6 (eV 9) (eCall C 5 [.rf 0, .vl (eV 4)]))
 (sPut 6 (eV 9) (eO2 fIx (.ex (eLst [(eO2 fAddI (.ex (eO2 fIx (.vr 6) (.vr 9))) (.ex (eC (.int 1)))), (eO2 fSub (.ex (eO2 fIx (.vr 6) (.vr 9))) (.ex (eC (.int 1)))), (eO2 fAdd (.ex (eO2 fIx (.vr 6) (.vr 9))) (.ex (eO2 fMul (.vr 2) (.vr 4)))), (eC .none)])) (.ex (eCall C 5 [.rf 0, .vl (eC (.int 4))]))))))
 sNx)
 (sRet (eB bTuple [(.vr 6)])))))))))
def F62 (C : Orc) : List W → CRes := runF 3 10 [[0]] (M62 C)
/-! ### costs by a table -/
abbrev Row := List (Option Int)
def tabD (k : Bool) (ts : Row) : D := if k then .list (ts.map priceD) else .tuple (ts.map priceD)
def cst (ts : Row) : Option Int → List Nat → Option Int
  | none, _ => none
  | some p, [] => some p
  | some p, s :: sl => match ts.getD s none with
    | none => none
    | some q => cst ts (some (p + q)) sl
def Var.cost (v : Var) (ts : Row) : Option Int := cst ts v.price v.slots
/-! ### floors and ceilings -/
def Var.fits (v : Var) (ts : Row) (sign : Int) : Bool := match v.cost ts with
  | none => true
  | some c => match ts.getD v.plug none with
    | none => false
    | some w => !decide ((c - w) * sign < 0)
def Fam.fits (f : Fam) (ts : Row) (sign : Int) : Bool := f.vars.all (·.fits ts sign)
/-- plugs and slots are states of the table -/
structure Fam.In (f : Fam) (n : Nat) : Prop where
  plug : ∀ v ∈ f.vars, v.plug < n
  slots : ∀ v ∈ f.vars, ∀ s ∈ v.slots, s < n
def LawCostS (C : Orc) : Prop := ∀ (v : Var) (ts : Row) (k : Bool), (∀ s ∈ v.slots, s < ts.length) → C 58 [.d v.dat, .d (tabD k ts)] = .ok (.d (priceD (v.cost ts))) []
def LawCostL (C : Orc) : Prop := ∀ (v : Var) (ts : Row), (∀ s ∈ v.slots, s < ts.length) → C 58 [.d v.dat, .l (ts.map priceD)] = .ok (.d (priceD (v.cost ts))) [.l (ts.map priceD)]
def CostOfS (C : Orc) : Prop := ∀ (f : Fam) (ts : Row) (k : Bool) (i : Nat) (v : Var), f.vars[i]? = some v → (∀ s ∈ v.slots, s < ts.length) → C 55 [.d f.dat, .d (tabD k ts), .d (.int (i : Int))] = .ok (.d (priceD (v.cost ts))) []
def enD {α : Type} (dat : α → D) (p : α × Nat) : D := .tuple [.int (p.2 : Int), dat p.1]
/-! ### the extreme table, with a bound -/
structure Fam.Grow (f : Fam) (B : Nat → Nat → Nat) : Prop where
  mono : ∀ i s, B i s ≤ B (i + 1) s
  step : ∀ v ∈ f.vars, ∀ p, v.price = some p → ∀ i, p.natAbs + (v.slots.map (B i)).sum ≤ B (i + 1) v.plug
def RowB (B : Nat → Nat) (ts : Row) : Prop := ∀ s x, ts.getD s none = some x → x.natAbs ≤ B s
theorem RowB.mono {B B' : Nat → Nat} {ts : Row} (h : RowB B ts) (hb : ∀ s, B s ≤ B' s) : RowB B' ts := fun s x hx => Nat.le_trans (h s x hx) (hb s)
theorem RowB.set {B : Nat → Nat} {ts : Row} (h : RowB B ts) {i : Nat} {c : Int} (hc : c.natAbs ≤ B i) : RowB B (ts.set i (some c)) := fun s x hx => by
  rw [List.getD_eq_getElem?_getD, List.getElem?_set] at hx
  split at hx
  · rename_i e
    subst e
    split at hx
    · cases hx; exact hc
    · cases hx
  · exact h s x (by rw [List.getD_eq_getElem?_getD]; exact hx)
theorem RowB.nil {B : Nat → Nat} {n : Nat} : RowB B (List.replicate n none) := fun s x hx => by
  rw [List.getD_eq_getElem?_getD, List.getElem?_replicate] at hx
  split at hx <;> cases hx
def rowW : Option Row → W
  | none => .d .none
  | some ts => .l (ts.map priceD)
/-! ### prices moved -/
def Fam.Pr (f : Fam) (m : Nat) : Prop := ∀ v ∈ f.vars, ∀ p, v.price = some p → p.natAbs ≤ m
/-! ### drawn tables -/
def RowM (m : Nat) (ts : Row) : Prop := ∀ x : Int, some x ∈ ts → x.natAbs ≤ m
def bigT : Nat := 2 ^ 200 * 2 ^ 200 * 2 ^ 200 * 2 ^ 200 * 2 ^ 100
theorem RowM.of {m : Nat} {B : Nat → Nat} {ts : Row} (h : RowB B ts) (hb : ∀ s, s < ts.length → B s ≤ m) : RowM m ts := fun x hx => by
  obtain ⟨i, hi, he⟩ := List.getElem_of_mem hx
  refine Nat.le_trans (h i x ?_) (hb i hi)
  rw [List.getD_eq_getElem?_getD, List.getElem?_eq_getElem hi, he]; rfl
theorem RowM.mono {m n : Nat} {ts : Row} (h : RowM m ts) (hl : m ≤ n) : RowM n ts := fun x hx => Nat.le_trans (h x hx) hl
theorem RowM.set {m : Nat} {ts : Row} (h : RowM m ts) {i : Nat} {z : Option Int} (hz : ∀ x, z = some x → x.natAbs ≤ m) : RowM m (ts.set i z) := fun x hx => by
  rcases List.mem_or_eq_of_mem_set hx with hx | hx
  · exact h x hx
  · exact hz x hx.symm
theorem RowM.app {m : Nat} {ts : Row} (h : RowM m ts) {z : Option Int} (hz : ∀ x, z = some x → x.natAbs ≤ m) : RowM m (ts ++ [z]) := fun x hx => by
  rcases List.mem_append.mp hx with hx | hx
  · exact h x hx
  · exact hz x (List.mem_singleton.mp hx).symm
theorem RowM.nil {m : Nat} : RowM m [] := fun x hx => by cases hx
/-- the factor of a drawn price -/
def Fac (z : Int) : Prop := z = 1 ∨ z = 10 ^ 89
def M62t2 (C : Orc) : MS :=
 (sSeq (sIf (tO2 cEq (.vr 3) (.ex (eC (.int 1))))
 (sSeq (sSet 9 (eCall C 5 [.rf 0, .vl (eO2 fIx (.vr 1) (.ex (eC (.int 0))))]))
 (sIf (tO2 cIs (.ex (eO2 fIx (.vr 6) (.vr 9))) (.ex (eC .none)))
 (sPut 6 (eV 9) (eCall C 5 [.rf 0, .vl (eV 4)]))
 (sPut 6 (eV 9) (eO2 fIx (.ex (eLst [(eO2 fAddI (.ex (eO2 fIx (.vr 6) (.vr 9))) (.ex (eC (.int 1)))), (eO2 fSub (.ex (eO2 fIx (.vr 6) (.vr 9))) (.ex (eC (.int 1)))), (eO2 fAdd (.ex (eO2 fIx (.vr 6) (.vr 9))) (.ex (eO2 fMul (.vr 2) (.vr 4)))), (eC .none)])) (.ex (eCall C 5 [.rf 0, .vl (eC (.int 4))]))))))
 sNx)
 (sRet (eB bTuple [(.vr 6)])))
def M62t1 (C : Orc) : MS :=
 (sSeq (sIf (tO2 cIs (.vr 6) (.ex (eC .none)))
 (sSeq (sSet 6 (eLst []))
 (sFor (iR1 (eO2 fIx (.vr 1) (.ex (eC (.int 0))))) (tgN 7)
 (M62b0 C)))
 sNx)
 (M62t2 C))
/-! ### families whose extreme tables stay small -/
/-- a bound for all families of this shape -/
structure Fam.Tame (f : Fam) : Prop where
  pos : 0 < f.count
  count : f.count ≤ 1000
  inn : f.In f.count
  len : f.vars.length ≤ 1000
  grow : ∀ g : Fam, g.like f → g.Pr 2000000000 → ∃ B, g.Grow B ∧ ∀ s, s < f.count → B ((f.count + 1) * f.vars.length) s ≤ bigT
end Mi
set_option Elab.async false
set_option linter.all false
set_option maxRecDepth 100000
set_option maxHeartbeats 4000000
namespace Mi
open PySem L2
local macro_rules | `(tactic| push_cast [$hs,*]) => `(tactic| simp -implicitDefEqProofs (disch := first | omega | (simp only [rng_len, List.length_map, List.length_append, List.length_range, List.length_replicate, List.length_cons, List.length_nil, List.length_set]; omega)) only [ev_seq, ev_if, ev_ifE, ev_nx, ev_bk, ev_ct, ev_E, ev_set, ev_tg, ev_ret, ev_retO, ev_retN, ev_put, ev_for, ev_C, ev_V, ev_vr, ev_ex, ev_o1, ev_o2, ev_t2, ev_tru, ev_and, ev_or, ev_not, ev_yes, ev_andE, ev_orE, ev_notE, ev_LN, ev_LC, ev_B, ev_TN, ev_TC, ev_tup, ev_lst, ev_GN, ev_GV, ev_GR, ev_call, ev_mu, ev_lc, ev_any, ev_r1, ev_r2, ev_rep, kS_nx, kS_bk, kS_ct, kS_rt, kIf_t, kIf_f, kM_ok, kSet_ok, kAnd_t, kAnd_f, kOr_t, kOr_f, kAndE_t, kAndE_f, kOrE_t, kOrE_f, kNotE_b, oVr_s, kO2_ok, kO2'_ok, g2_ss, gv_l, gv_r, kL_ok, kL'_ok, kB_ok, gB_s, gvL_n, gvL_c, kV_ss, kT_ok, kT'_ok, kG_ok, kG'_ok, gG_l, gG_t, gG_d, kC_ok, kC1_s, kC2_ok, kP_s, take_n, take_l, take_r, put_n, put_l, put_r, pt1_s, kPut1_ok, kPut2_ok, isL_l, kMu_ok, kFor_ok, kSeqI_l, kSeqI_l', kSeqI_t, kR2_ok, kRep_ok, rV_d, rV_l, cont_n, cont_c, ct1_s, wp_ok, wpC_ok, atI_0, atI_1, atI_2, atI_3, fIx_l, fIx_t, List.length_cons, List.length_nil, Nat.zero_add, Nat.reduceAdd, Int.reduceLT, Int.reduceLE, Int.reduceAdd, Int.reduceMul, Int.reduceToNat, Int.reduceNeg, Int.reduceSub, Nat.reduceLT, Nat.reduceLeDiff, Nat.reduceMul, gt_iff_lt, ge_iff_le, ixN_4_0, ixN_4_1, ixN_4_2, ixN_4_3, wipe_n, wipe_c, tgN_r, tgT_r, tgL_n, tgL_c, ofO_some, vw_d, vw_l, fAddI_int, fSub_int, fNeg_int, fMod_p, fMul_31, fMul_48271, fMul_69621, fPow18, fPow9, cCmp_int, cEq_int, cNe_int, cEq_str, cNe_str, cOrd_int, ev_aug, kAug_ok, ev_en, kEn_t, fIs_int, fIs_bool, fIs_none, fIs_str, fIs_list, fIs_tuple, isTy_int_int, isTy_int_bool, isTy_tuple_tuple, cIs_none, cIsNot_none, isNone_none, isNone_int, isNone_str, isNone_tuple, isNone_list, isNone_bool, truD_l, truD_t, truD_b, truD_n, bLen_l, bLen_t, bAbs_int, bInt_int, bMax_int, bMin_int, bList_l, bList_t, bTuple_l, bTuple_t, Option.map_some, Option.bind_some, List.getD_cons_zero, List.getD_cons_succ, List.set_cons_zero, List.set_cons_succ, if_true, if_false, lB, ↓reduceIte, Bool.not_true, Bool.not_false, kO1_ok, g1_s, kTru_ok, vf_d, vf_l, tk1_s, tkW_s, isO_l, isO_t, kF_ok, endF_r, endF_n, kF_ex, endX_s, rV_t, lpos_n, lpos_l, lpos_t, lpos_d, fAdd_int, ev_pN, ev_pS, kP1_i, ev_sl, kSl_ok, kSl2_ok, kSl3_ok, fSl_l, fSl_t, fRev_l, fRev_t, kR1_c, kR1_n, kR2_c, kLc_c, kRep2_n, gPut_n, gPut_c, gMu_app, rep_n, vw_d, List.length_map, List.length_range, rng_len, Int.toNat_natCast, beq_self_eq_true, Bool.not_true, Bool.not_false, Option.isNone_none, Option.isNone_some, decide_true, decide_false, ev_forN, kTg_2, kTg_3, ev_mv, gMv_s, ev_rvA, kRvA_t, kRvA_d, kRvA_l, ev_g1, kg1_i, ev_g2, kg2a_i, kg2_i, ev_tupR, ev_lstR, kTupR_s, kLstR_s, ev_rvR, kRvR_s, $hs,*])
/-! ### least prices by rounds in place -/
def ole : Option Int → Option Int → Prop
  | _, none => True
  | none, some _ => False
  | some a, some b => a ≤ b
def oleR (S T : Row) : Prop := ∀ s, ole (S.getD s none) (T.getD s none)
/-- the prices of weights -/
def prs (ws : List Wt) : Row := ws.map (·.map Prod.fst)
/-- one variant of a round -/
def stepE (ts : Row) (v : Var) : Row := match v.cost ts with
  | none => ts
  | some c => match ts.getD v.plug none with
    | none => ts.set v.plug (some c)
    | some w => if c < w then ts.set v.plug (some c) else ts
/-- a floor of the family -/
def Fam.Flo (f : Fam) (L : Row) : Prop := ∀ v ∈ f.vars, ole (L.getD v.plug none) (v.cost L)
def turnE (f : Fam) (ts : Row) : Row := f.vars.foldl stepE ts
def SE (f : Fam) : Nat → Row
  | 0 => List.replicate f.count none
  | k + 1 => turnE f (SE f k)
def Fam.lp (f : Fam) : Row := prs f.lw
section
variable {f : Fam} (hf : f.Plain)
include hf
end
end Mi
set_option Elab.async false
set_option linter.all false
set_option maxRecDepth 100000
set_option maxHeartbeats 4000000
namespace Mi
open PySem L2
local macro_rules | `(tactic| push_cast [$hs,*]) => `(tactic| simp -implicitDefEqProofs (disch := first | omega | (simp only [rng_len, List.length_map, List.length_append, List.length_range, List.length_replicate, List.length_cons, List.length_nil, List.length_set, List.length_reverse, List.length_zipIdx]; omega)) only [ev_seq, ev_if, ev_ifE, ev_nx, ev_bk, ev_ct, ev_E, ev_set, ev_tg, ev_ret, ev_retO, ev_retN, ev_put, ev_for, ev_C, ev_V, ev_vr, ev_ex, ev_o1, ev_o2, ev_t2, ev_tru, ev_and, ev_or, ev_not, ev_yes, ev_andE, ev_orE, ev_notE, ev_LN, ev_LC, ev_B, ev_TN, ev_TC, ev_tup, ev_lst, ev_GN, ev_GV, ev_GR, ev_call, ev_mu, ev_lc, ev_any, ev_r1, ev_r2, ev_rep, kS_nx, kS_bk, kS_ct, kS_rt, kIf_t, kIf_f, kM_ok, kSet_ok, kAnd_t, kAnd_f, kOr_t, kOr_f, kAndE_t, kAndE_f, kOrE_t, kOrE_f, kNotE_b, oVr_s, kO2_ok, kO2'_ok, g2_ss, gv_l, gv_r, kL_ok, kL'_ok, kB_ok, gB_s, gvL_n, gvL_c, kV_ss, kT_ok, kT'_ok, kG_ok, kG'_ok, gG_l, gG_t, gG_d, kC_ok, kC1_s, kC2_ok, kP_s, take_n, take_l, take_r, put_n, put_l, put_r, pt1_s, kPut1_ok, kPut2_ok, isL_l, kMu_ok, kFor_ok, kSeqI_l, kSeqI_l', kSeqI_t, kR2_ok, kRep_ok, rV_d, rV_l, cont_n, cont_c, ct1_s, wp_ok, wpC_ok, atI_0, atI_1, atI_2, atI_3, fIx_l, fIx_t, List.length_cons, List.length_nil, Nat.zero_add, Nat.reduceAdd, Int.reduceLT, Int.reduceLE, Int.reduceAdd, Int.reduceMul, Int.reduceToNat, Int.reduceNeg, Int.reduceSub, Nat.reduceLT, Nat.reduceLeDiff, Nat.reduceMul, gt_iff_lt, ge_iff_le, ixN_4_0, ixN_4_1, ixN_4_2, ixN_4_3, wipe_n, wipe_c, tgN_r, tgT_r, tgL_n, tgL_c, ofO_some, vw_d, vw_l, fAddI_int, fSub_int, fNeg_int, fMod_p, fMul_31, fMul_48271, fMul_69621, fPow18, fPow9, cCmp_int, cEq_int, cNe_int, cEq_str, cNe_str, cOrd_int, ev_aug, kAug_ok, ev_en, kEn_t, fIs_int, fIs_bool, fIs_none, fIs_str, fIs_list, fIs_tuple, isTy_int_int, isTy_int_bool, isTy_tuple_tuple, cIs_none, cIsNot_none, isNone_none, isNone_int, isNone_str, isNone_tuple, isNone_list, isNone_bool, truD_l, truD_t, truD_b, truD_n, bLen_l, bLen_t, bAbs_int, bInt_int, bMax_int, bMin_int, bList_l, bList_t, bTuple_l, bTuple_t, Option.map_some, Option.bind_some, List.getD_cons_zero, List.getD_cons_succ, List.set_cons_zero, List.set_cons_succ, if_true, if_false, lB, ↓reduceIte, Bool.not_true, Bool.not_false, kO1_ok, g1_s, kTru_ok, vf_d, vf_l, tk1_s, tkW_s, isO_l, isO_t, kF_ok, endF_r, endF_n, kF_ex, endX_s, rV_t, lpos_n, lpos_l, lpos_t, lpos_d, fAdd_int, ev_pN, ev_pS, kP1_i, ev_sl, kSl_ok, kSl2_ok, kSl3_ok, fSl_l, fSl_t, fRev_l, fRev_t, kR1_c, kR1_n, kR2_c, kLc_c, kRep2_n, gPut_n, gPut_c, gMu_app, rep_n, vw_d, List.length_map, List.length_range, rng_len, Int.toNat_natCast, beq_self_eq_true, Bool.not_true, Bool.not_false, Option.isNone_none, Option.isNone_some, decide_true, decide_false, ev_forN, List.isEmpty_nil, List.isEmpty_cons, kTg_2, kTg_3, ev_mv, gMv_s, ev_rvA, kRvA_t, kRvA_d, kRvA_l, ev_g1, kg1_i, ev_g2, kg2a_i, kg2_i, fNotT_l, fNotT_b, ev_tupR, ev_lstR, kTupR_s, kLstR_s, ev_rvR, kRvR_s, $hs,*])
def M27b0 (C : Orc) : MS :=
 (sSeq (sIf (tO2 cIs (.ex (eO2 fIx (.vr 1) (.vr 3))) (.ex (eC .none)))
 (sRet (eC .none))
 sNx)
 (sSet 2 (eO2 fAdd (.vr 2) (.ex (eO2 fIx (.vr 1) (.vr 3))))))
/-- _law_size -/
def M27 (C : Orc) : MS :=
 (sSeq (sIf (tO2 cIs (.ex (eO2 fIx (.vr 0) (.ex (eC (.int 2))))) (.ex (eC .none)))
 (sRet (eC .none))
 sNx)
 (sSeq (sSet 2 (eC (.int 1)))
 (sSeq (sFor (iAny (eO2 fIx (.vr 0) (.ex (eC (.int 1))))) (tgN 3)
 (M27b0 C))
 (sRet (eV 2)))))
def F27 (C : Orc) : List W → CRes := runF 2 4 [[], [1]] (M27 C)
def M28b0 (C : Orc) : MS :=
 (sSeq (sSet 5 (eCall C 27 [.vl (eV 4), .rf 1]))
 (sIf (tAnd' (tO2 cIsNot (.vr 5) (.ex (eC .none))) (tOr' (tO2 cIs (.ex (eO2 fIx (.vr 1) (.ex (eO2 fIx (.vr 4) (.ex (eC (.int 0))))))) (.ex (eC .none))) (tO2 cLt (.vr 5) (.ex (eO2 fIx (.vr 1) (.ex (eO2 fIx (.vr 4) (.ex (eC (.int 0))))))))))
 (sSeq (sPut 1 (eO2 fIx (.vr 4) (.ex (eC (.int 0)))) (eV 5))
 (sSet 3 (eC (.bool true))))
 sNx))
def M28b1 (C : Orc) : MS :=
 (sSeq (sSet 3 (eC (.bool false)))
 (sSeq (sFor (iAny (eO2 fIx (.vr 0) (.ex (eC (.int 2))))) (tgN 4)
 (M28b0 C))
 (sIf (tNot' (tTru (.vr 3)))
 sBk
 sNx)))
/-- _law_sizes -/
def M28 (C : Orc) : MS :=
 (sSeq (sSet 1 (eLc (iR1 (eO2 fIx (.vr 0) (.ex (eC (.int 0))))) (tgN 6) mYes (eC .none) [6]))
 (sSeq (sFor (iR1 (eO2 fAddI (.ex (eO2 fIx (.vr 0) (.ex (eC (.int 0))))) (.ex (eC (.int 1))))) (tgN 2)
 (M28b1 C))
 (sRet (eV 1))))
def F28 (C : Orc) : List W → CRes := runF 1 7 [[]] (M28 C)
def M30b0 (C : Orc) : MS :=
 (sSeq (sSet 12 (eCall C 27 [.vl (eO2 fIx (.ex (eO2 fIx (.vr 1) (.ex (eC (.int 2))))) (.vr 11)), .vl (eV 2)]))
 (sIf (tAnd' (tO2 cEq (.ex (eO2 fIx (.ex (eO2 fIx (.ex (eO2 fIx (.vr 1) (.ex (eC (.int 2))))) (.vr 11))) (.ex (eC (.int 0))))) (.vr 9)) (tO2 cIsNot (.vr 12) (.ex (eC .none))))
 (sIf (tOr' (tO2 cEq (.vr 12) (.ex (eO2 fIx (.vr 2) (.vr 9)))) (tO2 cLe (.ex (eO2 fAddI (.ex (eO2 fAddI (.ex (eB bLen [(.vr 7)])) (.vr 6))) (.vr 12))) (.vr 4)))
 (sE (eMu mApp 10 [(eV 11)]))
 sNx)
 sNx))
def M30b1 (C : Orc) : MS :=
 (sE (eMu mApp 5 [(eV 13)]))
def M30b2 (C : Orc) : MS :=
 (sSeq (sIf (tNot' (tTru (.vr 5)))
 sBk
 sNx)
 (sSeq (sSet 9 (eMu mPop 5 []))
 (sSeq (sSet 6 (eO2 fSub (.vr 6) (.ex (eO2 fIx (.vr 2) (.vr 9)))))
 (sSeq (sSet 10 (eLst []))
 (sSeq (sFor (iR1 (eB bLen [(.ex (eO2 fIx (.vr 1) (.ex (eC (.int 2)))))])) (tgN 11)
 (M30b0 C))
 (sSeq (sSet 11 (eO2 fIx (.vr 10) (.ex (eCall C 5 [.rf 0, .vl (eB bLen [(.vr 10)])]))))
 (sSeq (sE (eMu mApp 7 [(eV 11)]))
 (sSeq (sSet 6 (eO2 fSub (.ex (eO2 fAdd (.vr 6) (.ex (eCall C 27 [.vl (eO2 fIx (.ex (eO2 fIx (.vr 1) (.ex (eC (.int 2))))) (.vr 11)), .vl (eV 2)])))) (.ex (eC (.int 1)))))
 (sFor (iRvA (eO2 fIx (.ex (eO2 fIx (.ex (eO2 fIx (.vr 1) (.ex (eC (.int 2))))) (.vr 11))) (.ex (eC (.int 1))))) (tgN 13)
 (M30b1 C))))))))))
/-- _law_tree -/
def M30 (C : Orc) : MS :=
 (sSeq (sSet 5 (eLst [(eV 3)]))
 (sSeq (sSet 6 (eO2 fIx (.vr 2) (.vr 3)))
 (sSeq (sSet 7 (eLst []))
 (sSeq (sFor (iR1 (eB bMax [(.vr 4), (.ex (eO2 fIx (.vr 2) (.vr 3)))])) (tgN 8)
 (M30b2 C))
 (sRet (eB bTuple [(.vr 7)]))))))
def F30 (C : Orc) : List W → CRes := runF 5 14 [[0]] (M30 C)
/-- _law_filled -/
def M31 (C : Orc) : MS :=
 (sSeq (sSet 1 (eCall C 28 [.vl (eV 0)]))
 (sRet (eLc (iR1 (eO2 fIx (.vr 0) (.ex (eC (.int 0))))) (tgN 2) (tO2 cIsNot (.ex (eO2 fIx (.vr 1) (.vr 2))) (.ex (eC .none))) (eV 2) [2])))
def F31 (C : Orc) : List W → CRes := runF 1 3 [[]] (M31 C)
/-- _law_some_tree -/
def M32 (C : Orc) : MS :=
 (sSeq (sSet 3 (eCall C 28 [.vl (eV 1)]))
 (sSeq (sSet 4 (eLc (iR1 (eO2 fIx (.vr 1) (.ex (eC (.int 0))))) (tgN 5) (tAnd' (tO2 cIsNot (.ex (eO2 fIx (.vr 3) (.vr 5))) (.ex (eC .none))) (tO2 cLe (.ex (eO2 fIx (.vr 3) (.vr 5))) (.ex (eC (.int 100))))) (eV 5) [5]))
 (sSeq (sIf (tNot' (tTru (.vr 4)))
 (sRet (eTup [(eC (.int 0)), (eTup [])]))
 sNx)
 (sSeq (sSet 5 (eO2 fIx (.vr 4) (.ex (eCall C 5 [.rf 0, .vl (eB bLen [(.vr 4)])]))))
 (sRet (eTup [(eV 5), (eCall C 30 [.rf 0, .vl (eV 1), .vl (eV 3), .vl (eV 5), .vl (eV 2)])]))))))
def F32 (C : Orc) : List W → CRes := runF 3 6 [[0]] (M32 C)
/-! ### loops that may be broken off -/
/-! ### sizes -/
def Var.one (v : Var) : Var := ⟨v.plug, v.slots, v.price.map fun _ => 1⟩
def Fam.one (f : Fam) : Fam := ⟨f.count, f.roots, f.vars.map Var.one⟩
def Var.size (v : Var) (ts : Row) : Option Int := v.one.cost ts
def Fam.sz (f : Fam) : Row := f.one.lp
def SizeS (C : Orc) : Prop := ∀ (v : Var) (ts : Row) (k : Bool), (∀ s ∈ v.slots, s < ts.length) → C 27 [.d v.dat, .d (tabD k ts)] = .ok (.d (priceD (v.size ts))) []
def SizeL (C : Orc) : Prop := ∀ (v : Var) (ts : Row), (∀ s ∈ v.slots, s < ts.length) → C 27 [.d v.dat, .l (ts.map priceD)] = .ok (.d (priceD (v.size ts))) [.l (ts.map priceD)]
/-! ### drawn trees -/
def valS (ts : Row) (s : Nat) : Int := (ts.getD s none).getD 0
def sumS (ts : Row) : List Nat → Int
  | [] => 0
  | s :: sl => valS ts s + sumS ts sl
section
variable {f : Fam} (hf : f.In f.count)
include hf
end
/-- the numbers of a row of trees in preorder at the states of a stack -/
inductive Fills (f : Fam) : List Nat → List Nat → Prop
  | nil : Fills f [] []
  | cons {g : Nat} {st : List Nat} {n : Nat} {tr : List Nat} {v : Var} : f.vars[n]? = some v → v.price ≠ none → v.plug = g → Fills f (v.slots ++ st) tr → Fills f (g :: st) (n :: tr)
theorem Fills.ok {f : Fam} {st tr : List Nat} (h : Fills f st tr) : ∀ n ∈ tr, ∃ v p, f.vars[n]? = some v ∧ v.price = some p := by
  induction h with
  | nil => intro n hn; cases hn
  | cons h1 h2 _ _ ih =>
    intro n hn
    rcases List.mem_cons.mp hn with rfl | hn
    · obtain ⟨p, hp⟩ := Option.ne_none_iff_exists'.mp h2
      exact ⟨_, p, h1, hp⟩
    · exact ih n hn
/-- a fitting variant -/
def fitP (f : Fam) (len : Nat) (need room : Int) (g n : Nat) : Bool := match f.vars[n]? with
  | none => false
  | some v => decide (v.plug = g) && match v.size f.sz with
    | none => false
    | some c => decide (c = valS f.sz g) || decide ((len : Int) + need + c ≤ room)
structure TreeSt (f : Fam) (s : Nat) (R : Int) (st tr : List Nat) (need : Int) : Prop where
  sizes : ∀ x ∈ st, ∃ m, f.sz.getD x none = some m
  needE : need = sumS f.sz st
  bound : (tr.length : Int) + need ≤ R
  fills : ∀ rest, Fills f st rest → Fills f [s] (tr ++ rest)
/-- a drawn tree, or none where there is none -/
structure SomeTree (f : Fam) (room : Int) (s : Nat) (tr : List Nat) : Prop where
  ok : (tr = [] ∧ s = 0 ∧ ∀ x, f.sz.getD x none = none) ∨ (tr ≠ [] ∧ s < f.count ∧ Fills f [s] tr ∧ (tr.length : Int) ≤ max room 100)
end Mi
set_option Elab.async false
set_option linter.all false
set_option maxRecDepth 100000
set_option maxHeartbeats 4000000
namespace Mi
open PySem L2
local macro_rules | `(tactic| push_cast [$hs,*]) => `(tactic| simp -implicitDefEqProofs (disch := first | omega | (simp only [rng_len, List.length_map, List.length_append, List.length_range, List.length_replicate, List.length_cons, List.length_nil, List.length_set, List.length_reverse, List.length_zipIdx]; omega)) only [ev_seq, ev_if, ev_ifE, ev_nx, ev_bk, ev_ct, ev_E, ev_set, ev_tg, ev_ret, ev_retO, ev_retN, ev_put, ev_for, ev_C, ev_V, ev_vr, ev_ex, ev_o1, ev_o2, ev_t2, ev_tru, ev_and, ev_or, ev_not, ev_yes, ev_andE, ev_orE, ev_notE, ev_LN, ev_LC, ev_B, ev_TN, ev_TC, ev_tup, ev_lst, ev_GN, ev_GV, ev_GR, ev_call, ev_mu, ev_lc, ev_any, ev_r1, ev_r2, ev_rep, kS_nx, kS_bk, kS_ct, kS_rt, kIf_t, kIf_f, kM_ok, kSet_ok, kAnd_t, kAnd_f, kOr_t, kOr_f, kAndE_t, kAndE_f, kOrE_t, kOrE_f, kNotE_b, oVr_s, kO2_ok, kO2'_ok, g2_ss, gv_l, gv_r, kL_ok, kL'_ok, kB_ok, gB_s, gvL_n, gvL_c, kV_ss, kT_ok, kT'_ok, kG_ok, kG'_ok, gG_l, gG_t, gG_d, kC_ok, kC1_s, kC2_ok, kP_s, take_n, take_l, take_r, put_n, put_l, put_r, pt1_s, kPut1_ok, kPut2_ok, isL_l, kMu_ok, kFor_ok, kSeqI_l, kSeqI_l', kSeqI_t, kR2_ok, kRep_ok, rV_d, rV_l, cont_n, cont_c, ct1_s, wp_ok, wpC_ok, atI_0, atI_1, atI_2, atI_3, fIx_l, fIx_t, List.length_cons, List.length_nil, Nat.zero_add, Nat.reduceAdd, Int.reduceLT, Int.reduceLE, Int.reduceAdd, Int.reduceMul, Int.reduceToNat, Int.reduceNeg, Int.reduceSub, Nat.reduceLT, Nat.reduceLeDiff, Nat.reduceMul, gt_iff_lt, ge_iff_le, ixN_4_0, ixN_4_1, ixN_4_2, ixN_4_3, wipe_n, wipe_c, tgN_r, tgT_r, tgL_n, tgL_c, ofO_some, vw_d, vw_l, fAddI_int, fSub_int, fNeg_int, fMod_p, fMul_31, fMul_48271, fMul_69621, fPow18, fPow9, cCmp_int, cEq_int, cNe_int, cEq_str, cNe_str, cOrd_int, ev_aug, kAug_ok, ev_en, kEn_t, fIs_int, fIs_bool, fIs_none, fIs_str, fIs_list, fIs_tuple, isTy_int_int, isTy_int_bool, isTy_tuple_tuple, cIs_none, cIsNot_none, isNone_none, isNone_int, isNone_str, isNone_tuple, isNone_list, isNone_bool, truD_l, truD_t, truD_b, truD_n, bLen_l, bLen_t, bAbs_int, bInt_int, bMax_int, bMin_int, bList_l, bList_t, bTuple_l, bTuple_t, Option.map_some, Option.bind_some, List.getD_cons_zero, List.getD_cons_succ, List.set_cons_zero, List.set_cons_succ, if_true, if_false, lB, ↓reduceIte, Bool.not_true, Bool.not_false, kO1_ok, g1_s, kTru_ok, vf_d, vf_l, tk1_s, tkW_s, isO_l, isO_t, kF_ok, endF_r, endF_n, kF_ex, endX_s, rV_t, lpos_n, lpos_l, lpos_t, lpos_d, fAdd_int, ev_pN, ev_pS, kP1_i, ev_sl, kSl_ok, kSl2_ok, kSl3_ok, fSl_l, fSl_t, fRev_l, fRev_t, kR1_c, kR1_n, kR2_c, kLc_c, kRep2_n, gPut_n, gPut_c, gMu_app, rep_n, vw_d, List.length_map, List.length_range, rng_len, Int.toNat_natCast, beq_self_eq_true, Bool.not_true, Bool.not_false, Option.isNone_none, Option.isNone_some, decide_true, decide_false, ev_forN, List.isEmpty_nil, List.isEmpty_cons, kTg_2, kTg_3, ev_mv, gMv_s, ev_rvA, kRvA_t, kRvA_d, kRvA_l, ev_g1, kg1_i, ev_g2, kg2a_i, kg2_i, fNotT_l, fNotT_b, ev_tupR, ev_lstR, kTupR_s, kLstR_s, ev_rvR, kRvR_s, $hs,*])
/-- price_of -/
def M24 (C : Orc) : MS :=
 (sRet (eB bSum [(.ex (eLc (iAny (eV 1)) (tgN 2) mYes (eO2 fIx (.ex (eO2 fIx (.ex (eO2 fIx (.vr 0) (.ex (eC (.int 2))))) (.vr 2))) (.ex (eC (.int 2)))) [2]))]))
def F24 (C : Orc) : List W → CRes := runF 2 3 [[]] (M24 C)
def M94b0 (C : Orc) : MS :=
 (sSeq (sSet 3 (eCall C 15 [.vl (eV 0), .vl (eV 1)]))
 (sSeq (sIf (tO2 cEq (.vr 3) (.vr 1))
 (sRet (eV 1))
 sNx)
 (sSet 1 (eV 3))))
/-- least_weights -/
def M94 (C : Orc) : MS :=
 (sSeq (sSet 1 (eO2 fRepT (.ex (eTup [(eC .none)])) (.ex (eO2 fIx (.vr 0) (.ex (eC (.int 0)))))))
 (sSeq (sFor (iR1 (eO2 fIx (.vr 0) (.ex (eC (.int 0))))) (tgN 2)
 (M94b0 C))
 (sRet (eV 1))))
def F94 (C : Orc) : List W → CRes := runF 1 4 [[]] (M94 C)
def M96b0 (C : Orc) : MS :=
 (sSeq (sSet 5 (eCall C 55 [.vl (eV 0), .vl (eV 1), .vl (eV 3)]))
 (sSeq (sSet 6 (eO2 fIx (.vr 1) (.ex (eO2 fIx (.vr 4) (.ex (eC (.int 0)))))))
 (sE (eMu mApp 2 [(eIf (tOr' (tO2 cIs (.vr 5) (.ex (eC .none))) (tO2 cIs (.vr 6) (.ex (eC .none)))) (eC .none) (eO2 fSub (.vr 5) (.vr 6)))]))))
/-- margins_of -/
def M96 (C : Orc) : MS :=
 (sSeq (sSet 2 (eLst []))
 (sSeq (sFor (iEnT (eO2 fIx (.vr 0) (.ex (eC (.int 2))))) (tgT [(tgN 3), (tgN 4)])
 (M96b0 C))
 (sRet (eB bTuple [(.vr 2)]))))
def F96 (C : Orc) : List W → CRes := runF 2 7 [[]] (M96 C)
/-- least_prices -/
def M298 (C : Orc) : MS :=
 (sRet (eB bTuple [(.ex (eLc (iAny (eCall C 94 [.vl (eV 0)])) (tgN 1) mYes (eIf (tO2 cIs (.vr 1) (.ex (eC .none))) (eC .none) (eO2 fIx (.vr 1) (.ex (eC (.int 0))))) [1]))]))
def F298 (C : Orc) : List W → CRes := runF 1 2 [[]] (M298 C)
def M299b0 (C : Orc) : MS :=
 (sSeq (sIf (tO2 cIs (.ex (eO2 fIx (.vr 1) (.vr 4))) (.ex (eC .none)))
 (sRet (eC .none))
 sNx)
 (sSeq (sSet 2 (eO2 fAdd (.vr 2) (.ex (eO2 fIx (.ex (eO2 fIx (.vr 1) (.vr 4))) (.ex (eC (.int 0)))))))
 (sSet 3 (eO2 fAdd (.vr 3) (.ex (eO2 fIx (.ex (eO2 fIx (.vr 1) (.vr 4))) (.ex (eC (.int 1)))))))))
/-- _law_weight -/
def M299 (C : Orc) : MS :=
 (sSeq (sIf (tO2 cIs (.ex (eO2 fIx (.vr 0) (.ex (eC (.int 2))))) (.ex (eC .none)))
 (sRet (eC .none))
 sNx)
 (sSeq (sSet 2 (eO2 fIx (.vr 0) (.ex (eC (.int 2)))))
 (sSeq (sSet 3 (eC (.int 1)))
 (sSeq (sFor (iAny (eO2 fIx (.vr 0) (.ex (eC (.int 1))))) (tgN 4)
 (M299b0 C))
 (sRet (eTup [(eV 2), (eV 3)]))))))
def F299 (C : Orc) : List W → CRes := runF 2 5 [[], [1]] (M299 C)
def M300b0 (C : Orc) : MS :=
 (sSeq (sSet 5 (eCall C 299 [.vl (eV 4), .rf 1]))
 (sIf (tAnd' (tO2 cIsNot (.vr 5) (.ex (eC .none))) (tOr' (tO2 cIs (.ex (eO2 fIx (.vr 1) (.ex (eO2 fIx (.vr 4) (.ex (eC (.int 0))))))) (.ex (eC .none))) (tO2 dLt (.vr 5) (.ex (eO2 fIx (.vr 1) (.ex (eO2 fIx (.vr 4) (.ex (eC (.int 0))))))))))
 (sSeq (sPut 1 (eO2 fIx (.vr 4) (.ex (eC (.int 0)))) (eV 5))
 (sSet 3 (eC (.bool true))))
 sNx))
def M300b1 (C : Orc) : MS :=
 (sSeq (sSet 3 (eC (.bool false)))
 (sSeq (sFor (iAny (eO2 fIx (.vr 0) (.ex (eC (.int 2))))) (tgN 4)
 (M300b0 C))
 (sIf (tNot' (tTru (.vr 3)))
 sBk
 sNx)))
/-- _law_weights -/
def M300 (C : Orc) : MS :=
 (sSeq (sSet 1 (eLc (iR1 (eO2 fIx (.vr 0) (.ex (eC (.int 0))))) (tgN 6) mYes (eC .none) [6]))
 (sSeq (sFor (iR1 (eO2 fAddI (.ex (eO2 fIx (.vr 0) (.ex (eC (.int 0))))) (.ex (eC (.int 1))))) (tgN 2)
 (M300b1 C))
 (sRet (eV 1))))
def F300 (C : Orc) : List W → CRes := runF 1 7 [[]] (M300 C)
/-- _law_priced -/
def M29 (C : Orc) : MS :=
 (sRet (eB bSum [(.ex (eLc (iAny (eV 1)) (tgN 2) mYes (eO2 fIx (.ex (eO2 fIx (.ex (eO2 fIx (.vr 0) (.ex (eC (.int 2))))) (.vr 2))) (.ex (eC (.int 2)))) [2]))]))
def F29 (C : Orc) : List W → CRes := runF 2 3 [[]] (M29 C)
/-- what is known of a family in every one of these laws -/
structure Fam.Sz (f : Fam) : Prop where
  pos : 0 < f.count
  count : f.count ≤ 1000
  plain : f.Plain
def RoundS (C : Orc) (k : Nat) : Prop := ∀ (f : Fam) (ws : List Wt), f.Sz → ws.length = f.count → C k [.d f.dat, .d (.tuple (ws.map wD))] = .ok (.d (.tuple ((wRound f ws).map wD))) []
def prN (f : Fam) (n : Nat) : Int := ((f.vars[n]?.bind Var.price).getD 0)
def prT (f : Fam) (tr : List Nat) : Int := (tr.map (prN f)).sum
/-- numbers of variants that have a price -/
def TrOk (f : Fam) (tr : List Nat) : Prop := (∀ n ∈ tr, ∃ v p, f.vars[n]? = some v ∧ v.price = some p) ∧ tr.length ≤ 1000
theorem RowM.b {m : Nat} {ts : Row} (h : RowM m ts) : RowB (fun _ => m) ts := fun s x hx => h x (by
  rw [List.getD_eq_getElem?_getD] at hx
  cases hq : ts[s]? with
  | none => rw [hq] at hx; cases hx
  | some z =>
    rw [hq] at hx
    rw [← show z = some x from hx]
    exact List.mem_of_getElem? hq)
def Var.margin (v : Var) (ts : Row) : Option Int := match v.cost ts, ts.getD v.plug none with
  | some c, some w => some (c - w)
  | _, _ => none
/-! ### weights in place -/
def foldW (vs : List Var) (ts : List Wt) : List Wt := vs.foldl (fun ts v => wStep ts ts v) ts
def turnW (f : Fam) (ts : List Wt) : List Wt := foldW f.vars ts
def SW (f : Fam) : Nat → List Wt
  | 0 => List.replicate f.count none
  | k + 1 => turnW f (SW f k)
section
variable {f : Fam} (hf : f.Plain)
include hf
end
def wtD (k : Bool) (ws : List Wt) : D := if k then .list (ws.map wD) else .tuple (ws.map wD)
def LWeightL (C : Orc) : Prop := ∀ (v : Var) (ws : List Wt), (∀ s ∈ v.slots, s < ws.length) → C 299 [.d v.dat, .l (ws.map wD)] = .ok (.d (wD (weight v ws))) [.l (ws.map wD)]
end Mi
set_option Elab.async false
set_option linter.all false
set_option maxRecDepth 100000
set_option maxHeartbeats 4000000
namespace Mi
open PySem L2
local macro_rules | `(tactic| push_cast [$hs,*]) => `(tactic| simp -implicitDefEqProofs (disch := first | omega | (simp only [rng_len, List.length_map, List.length_append, List.length_range, List.length_replicate, List.length_cons, List.length_nil, List.length_set, List.length_reverse, List.length_zipIdx]; omega)) only [ev_seq, ev_if, ev_ifE, ev_nx, ev_bk, ev_ct, ev_E, ev_set, ev_tg, ev_ret, ev_retO, ev_retN, ev_put, ev_for, ev_C, ev_V, ev_vr, ev_ex, ev_o1, ev_o2, ev_t2, ev_tru, ev_and, ev_or, ev_not, ev_yes, ev_andE, ev_orE, ev_notE, ev_LN, ev_LC, ev_B, ev_TN, ev_TC, ev_tup, ev_lst, ev_GN, ev_GV, ev_GR, ev_call, ev_mu, ev_lc, ev_any, ev_r1, ev_r2, ev_rep, kS_nx, kS_bk, kS_ct, kS_rt, kIf_t, kIf_f, kM_ok, kSet_ok, kAnd_t, kAnd_f, kOr_t, kOr_f, kAndE_t, kAndE_f, kOrE_t, kOrE_f, kNotE_b, oVr_s, kO2_ok, kO2'_ok, g2_ss, gv_l, gv_r, kL_ok, kL'_ok, kB_ok, gB_s, gvL_n, gvL_c, kV_ss, kT_ok, kT'_ok, kG_ok, kG'_ok, gG_l, gG_t, gG_d, kC_ok, kC1_s, kC2_ok, kP_s, take_n, take_l, take_r, put_n, put_l, put_r, pt1_s, kPut1_ok, kPut2_ok, isL_l, kMu_ok, kFor_ok, kSeqI_l, kSeqI_l', kSeqI_t, kR2_ok, kRep_ok, rV_d, rV_l, cont_n, cont_c, ct1_s, wp_ok, wpC_ok, atI_0, atI_1, atI_2, atI_3, fIx_l, fIx_t, List.length_cons, List.length_nil, Nat.zero_add, Nat.reduceAdd, Int.reduceLT, Int.reduceLE, Int.reduceAdd, Int.reduceMul, Int.reduceToNat, Int.reduceNeg, Int.reduceSub, Nat.reduceLT, Nat.reduceLeDiff, Nat.reduceMul, gt_iff_lt, ge_iff_le, ixN_4_0, ixN_4_1, ixN_4_2, ixN_4_3, wipe_n, wipe_c, tgN_r, tgT_r, tgL_n, tgL_c, ofO_some, vw_d, vw_l, fAddI_int, fSub_int, fNeg_int, fMod_p, fMul_31, fMul_48271, fMul_69621, fPow18, fPow9, cCmp_int, cEq_int, cNe_int, cEq_str, cNe_str, cOrd_int, ev_aug, kAug_ok, ev_en, kEn_t, fIs_int, fIs_bool, fIs_none, fIs_str, fIs_list, fIs_tuple, isTy_int_int, isTy_int_bool, isTy_tuple_tuple, cIs_none, cIsNot_none, isNone_none, isNone_int, isNone_str, isNone_tuple, isNone_list, isNone_bool, truD_l, truD_t, truD_b, truD_n, bLen_l, bLen_t, bAbs_int, bInt_int, bMax_int, bMin_int, bList_l, bList_t, bTuple_l, bTuple_t, Option.map_some, Option.bind_some, List.getD_cons_zero, List.getD_cons_succ, List.set_cons_zero, List.set_cons_succ, if_true, if_false, lB, ↓reduceIte, Bool.not_true, Bool.not_false, kO1_ok, g1_s, kTru_ok, vf_d, vf_l, tk1_s, tkW_s, isO_l, isO_t, kF_ok, endF_r, endF_n, kF_ex, endX_s, rV_t, lpos_n, lpos_l, lpos_t, lpos_d, fAdd_int, ev_pN, ev_pS, kP1_i, ev_sl, kSl_ok, kSl2_ok, kSl3_ok, fSl_l, fSl_t, fRev_l, fRev_t, kR1_c, kR1_n, kR2_c, kLc_c, kRep2_n, gPut_n, gPut_c, gMu_app, rep_n, vw_d, List.length_map, List.length_range, rng_len, Int.toNat_natCast, beq_self_eq_true, Bool.not_true, Bool.not_false, Option.isNone_none, Option.isNone_some, decide_true, decide_false, ev_forN, List.isEmpty_nil, List.isEmpty_cons, kTg_2, kTg_3, ev_mv, gMv_s, ev_rvA, kRvA_t, kRvA_d, kRvA_l, ev_g1, kg1_i, ev_g2, kg2a_i, kg2_i, fNotT_l, fNotT_b, ev_tupR, ev_lstR, kTupR_s, kLstR_s, ev_rvR, kRvR_s, $hs,*])
def M89b0 (C : Orc) : MS :=
 (sSeq (sIf (tOr' (tNot' (tTru (.vr 4))) (tOr' (tO2 cLt (.vr 5) (.ex (eC (.int 0)))) (tO2 cGe (.vr 5) (.ex (eB bLen [(.vr 3)])))))
 (sRet (eC (.bool false)))
 sNx)
 (sSeq (sTg (tgT [(tgN 6), (tgN 7), (tgN 8)]) (eO2 fIx (.vr 3) (.vr 5)))
 (sSeq (sIf (tOr' (tO2 cIs (.vr 8) (.ex (eC .none))) (tO2 cNe (.vr 6) (.ex (eMu mPop 4 []))))
 (sRet (eC (.bool false)))
 sNx)
 (sE (eMu mExt 4 [(eO1 fRev (.vr 7))])))))
/-- is_tree -/
def M89 (C : Orc) : MS :=
 (sSeq (sSet 3 (eO2 fIx (.vr 0) (.ex (eC (.int 2)))))
 (sSeq (sSet 4 (eLst [(eV 1)]))
 (sSeq (sFor (iAny (eV 2)) (tgN 5)
 (M89b0 C))
 (sRet (eO2 (lB cEq) (.vr 4) (.ex (eLst [])))))))
def F89 (C : Orc) : List W → CRes := runF 3 9 [[]] (M89 C)
/-- is_product -/
def M90 (C : Orc) : MS :=
 (sRet (eB bAny [(.ex (eLc (iAny (eO2 fIx (.vr 0) (.ex (eC (.int 1))))) (tgN 2) mYes (eCall C 89 [.vl (eV 0), .vl (eV 2), .vl (eV 1)]) [2]))]))
def F90 (C : Orc) : List W → CRes := runF 2 3 [[]] (M90 C)
def M91b0 (C : Orc) : MS :=
 (sE (eMu mApp 3 [(eV 7)]))
def M91b1 (C : Orc) : MS :=
 (sSeq (sIf (tOr' (tNot' (tTru (.vr 3))) (tOr' (tO2 cLt (.vr 4) (.ex (eC (.int 0)))) (tO2 cGe (.vr 4) (.ex (eB bLen [(.ex (eO2 fIx (.vr 0) (.ex (eC (.int 2)))))])))))
 (sRet (eC (.bool false)))
 sNx)
 (sSeq (sSet 5 (eO2 fIx (.ex (eO2 fIx (.vr 0) (.ex (eC (.int 2))))) (.vr 4)))
 (sSeq (sSet 6 (eMu mPop 3 []))
 (sSeq (sIf (tOr' (tO2 cIs (.ex (eO2 fIx (.vr 5) (.ex (eC (.int 2))))) (.ex (eC .none))) (tO2 cNe (.ex (eO2 fIx (.vr 5) (.ex (eC (.int 0))))) (.vr 6)))
 (sRet (eC (.bool false)))
 sNx)
 (sFor (iRvA (eO2 fIx (.vr 5) (.ex (eC (.int 1))))) (tgN 7)
 (M91b0 C))))))
/-- _law_fits -/
def M91 (C : Orc) : MS :=
 (sSeq (sSet 3 (eLst [(eV 1)]))
 (sSeq (sFor (iAny (eV 2)) (tgN 4)
 (M91b1 C))
 (sRet (eO1 fNotT (.vr 3)))))
def F91 (C : Orc) : List W → CRes := runF 3 8 [[]] (M91 C)
def runT (f : Fam) : List Nat → List Int → Bool
  | st, [] => st.isEmpty
  | [], _ :: _ => false
  | g :: st, n :: ns => if n < 0 then false else match f.vars[n.toNat]? with
    | none => false
    | some v => if v.price.isNone = true ∨ v.plug ≠ g then false else runT f (v.slots ++ st) ns
def isT (f : Fam) (s : Nat) (ns : List Int) : Bool := runT f [s] ns
/-- numbers as data, in a tuple or a list -/
def numD (k : Bool) (ns : List Int) : D := if k then .list (ns.map PyData.int) else .tuple (ns.map PyData.int)
/-! ### prices of trees by a table -/
def tgt (T : Row) (s : Nat) : Int := (T.getD s none).getD 0
def mgN (f : Fam) (T : Row) (n : Nat) : Int := ((f.vars[n]?.bind (·.margin T)).getD 0)
/-- a variant whose slots have prices has one for its plug -/
def Clo (f : Fam) (T : Row) : Prop := ∀ v ∈ f.vars, v.price ≠ none → (∀ s ∈ v.slots, ∃ x, T.getD s none = some x) → ∃ x, T.getD v.plug none = some x
end Mi
set_option Elab.async false
set_option linter.all false
set_option maxRecDepth 100000
set_option maxHeartbeats 4000000
namespace Mi
open PySem L2
local macro_rules | `(tactic| push_cast [$hs,*]) => `(tactic| simp -implicitDefEqProofs (disch := first | omega | (simp only [rng_len, List.length_map, List.length_append, List.length_range, List.length_replicate, List.length_cons, List.length_nil, List.length_set, List.length_reverse, List.length_zipIdx]; omega)) only [ev_seq, ev_if, ev_ifE, ev_nx, ev_bk, ev_ct, ev_E, ev_set, ev_tg, ev_ret, ev_retO, ev_retN, ev_put, ev_for, ev_C, ev_V, ev_vr, ev_ex, ev_o1, ev_o2, ev_t2, ev_tru, ev_and, ev_or, ev_not, ev_yes, ev_andE, ev_orE, ev_notE, ev_LN, ev_LC, ev_B, ev_TN, ev_TC, ev_tup, ev_lst, ev_GN, ev_GV, ev_GR, ev_call, ev_mu, ev_lc, ev_any, ev_r1, ev_r2, ev_rep, kS_nx, kS_bk, kS_ct, kS_rt, kIf_t, kIf_f, kM_ok, kSet_ok, kAnd_t, kAnd_f, kOr_t, kOr_f, kAndE_t, kAndE_f, kOrE_t, kOrE_f, kNotE_b, oVr_s, kO2_ok, kO2'_ok, g2_ss, gv_l, gv_r, kL_ok, kL'_ok, kB_ok, gB_s, gvL_n, gvL_c, kV_ss, kT_ok, kT'_ok, kG_ok, kG'_ok, gG_l, gG_t, gG_d, kC_ok, kC1_s, kC2_ok, kP_s, take_n, take_l, take_r, put_n, put_l, put_r, pt1_s, kPut1_ok, kPut2_ok, isL_l, kMu_ok, kFor_ok, kSeqI_l, kSeqI_l', kSeqI_t, kR2_ok, kRep_ok, rV_d, rV_l, cont_n, cont_c, ct1_s, wp_ok, wpC_ok, atI_0, atI_1, atI_2, atI_3, fIx_l, fIx_t, List.length_cons, List.length_nil, Nat.zero_add, Nat.reduceAdd, Int.reduceLT, Int.reduceLE, Int.reduceAdd, Int.reduceMul, Int.reduceToNat, Int.reduceNeg, Int.reduceSub, Nat.reduceLT, Nat.reduceLeDiff, Nat.reduceMul, gt_iff_lt, ge_iff_le, ixN_4_0, ixN_4_1, ixN_4_2, ixN_4_3, wipe_n, wipe_c, tgN_r, tgT_r, tgL_n, tgL_c, ofO_some, vw_d, vw_l, fAddI_int, fSub_int, fNeg_int, fMod_p, fMul_31, fMul_48271, fMul_69621, fPow18, fPow9, cCmp_int, cEq_int, cNe_int, cEq_str, cNe_str, cOrd_int, ev_aug, kAug_ok, ev_en, kEn_t, fIs_int, fIs_bool, fIs_none, fIs_str, fIs_list, fIs_tuple, isTy_int_int, isTy_int_bool, isTy_tuple_tuple, cIs_none, cIsNot_none, isNone_none, isNone_int, isNone_str, isNone_tuple, isNone_list, isNone_bool, truD_l, truD_t, truD_b, truD_n, bLen_l, bLen_t, bAbs_int, bInt_int, bMax_int, bMin_int, bList_l, bList_t, bTuple_l, bTuple_t, Option.map_some, Option.bind_some, List.getD_cons_zero, List.getD_cons_succ, List.set_cons_zero, List.set_cons_succ, if_true, if_false, lB, ↓reduceIte, Bool.not_true, Bool.not_false, kO1_ok, g1_s, kTru_ok, vf_d, vf_l, tk1_s, tkW_s, isO_l, isO_t, kF_ok, endF_r, endF_n, kF_ex, endX_s, rV_t, lpos_n, lpos_l, lpos_t, lpos_d, fAdd_int, ev_pN, ev_pS, kP1_i, ev_sl, kSl_ok, kSl2_ok, kSl3_ok, fSl_l, fSl_t, fRev_l, fRev_t, kR1_c, kR1_n, kR2_c, kLc_c, kRep2_n, gPut_n, gPut_c, gMu_app, rep_n, vw_d, List.length_map, List.length_range, rng_len, Int.toNat_natCast, beq_self_eq_true, Bool.not_true, Bool.not_false, Option.isNone_none, Option.isNone_some, decide_true, decide_false, ev_forN, List.isEmpty_nil, List.isEmpty_cons, kTg_2, kTg_3, ev_mv, gMv_s, ev_rvA, kRvA_t, kRvA_d, kRvA_l, ev_g1, kg1_i, ev_g2, kg2a_i, kg2_i, fNotT_l, fNotT_b, ev_tupR, ev_lstR, kTupR_s, kLstR_s, ev_rvR, kRvR_s, $hs,*])
/-- cost_with -/
def M0 (C : Orc) : MS :=
 (sSeq (sIf (tOr' (tO2 cIs (.vr 0) (.ex (eC .none))) (tO2 cIn (.ex (eC .none)) (.vr 1)))
 (sRet (eC .none))
 sNx)
 (sSeq (sIf (tO2 cIn (.ex (eC (.str "unbounded"))) (.vr 1))
 (sRet (eC (.str "unbounded")))
 sNx)
 (sRet (eO2 fAddI (.vr 0) (.ex (eB bSum [(.vr 1)]))))))
def F0 (C : Orc) : List W → CRes := runF 2 2 [[]] (M0 C)
/-- cost_by -/
def M1 (C : Orc) : MS :=
 (sRet (eCall C 0 [.vl (eO2 fIx (.vr 0) (.ex (eC (.int 2)))), .vl (eLc (iAny (eO2 fIx (.vr 0) (.ex (eC (.int 1))))) (tgN 2) mYes (eO2 fIx (.vr 1) (.vr 2)) [2])]))
def F1 (C : Orc) : List W → CRes := runF 2 3 [[]] (M1 C)
/-- is_greater -/
def M2 (C : Orc) : MS :=
 (sSeq (sIf (tOr' (tO2 cIs (.vr 0) (.ex (eC .none))) (tO2 cEq (.vr 1) (.ex (eC (.str "unbounded")))))
 (sRet (eC (.bool false)))
 sNx)
 (sSeq (sIf (tOr' (tO2 cIs (.vr 1) (.ex (eC .none))) (tO2 cEq (.vr 0) (.ex (eC (.str "unbounded")))))
 (sRet (eC (.bool true)))
 sNx)
 (sRet (eO2 (lB cGt) (.vr 0) (.vr 1)))))
def F2 (C : Orc) : List W → CRes := runF 2 2 [[]] (M2 C)
def M3b0 (C : Orc) : MS :=
 (sSeq (sSet 4 (eCall C 1 [.vl (eV 3), .vl (eV 1)]))
 (sIf (tTru (.ex (eCall C 2 [.vl (eV 4), .vl (eO2 fIx (.vr 2) (.ex (eO2 fIx (.vr 3) (.ex (eC (.int 0))))))])))
 (sPut 2 (eO2 fIx (.vr 3) (.ex (eC (.int 0)))) (eV 4))
 sNx))
/-- greatest_round -/
def M3 (C : Orc) : MS :=
 (sSeq (sSet 2 (eRep (eLst [(eC .none)]) (eO2 fIx (.vr 0) (.ex (eC (.int 0))))))
 (sSeq (sFor (iAny (eO2 fIx (.vr 0) (.ex (eC (.int 2))))) (tgN 3)
 (M3b0 C))
 (sRet (eB bTuple [(.vr 2)]))))
def F3 (C : Orc) : List W → CRes := runF 2 5 [[]] (M3 C)
/-- joined -/
def M64 (C : Orc) : MS :=
 (sSeq (sSet 2 (eB bZipL [(.vr 0), (.vr 1)]))
 (sRet (eB bTuple [(.ex (eLc (iAny (eV 2)) (tgT [(tgN 3), (tgN 4)]) mYes (eIf (tTru (.ex (eCall C 2 [.vl (eV 3), .vl (eV 4)]))) (eV 3) (eV 4)) [3, 4]))])))
def F64 (C : Orc) : List W → CRes := runF 2 5 [[]] (M64 C)
def M65b0 (C : Orc) : MS :=
 (sSeq (sSet 1 (eV 2))
 (sSet 2 (eCall C 64 [.vl (eV 1), .vl (eCall C 3 [.vl (eV 0), .vl (eV 1)])])))
/-- with_unbounded -/
def M65 (C : Orc) : MS :=
 (sSeq (sSet 2 (eCall C 64 [.vl (eV 1), .vl (eCall C 3 [.vl (eV 0), .vl (eV 1)])]))
 (sSeq (sWh 1048576 (tO2 cNe (.vr 2) (.vr 1))
 (M65b0 C))
 (sRet (eV 1))))
def F65 (C : Orc) : List W → CRes := runF 2 3 [[]] (M65 C)
def M66b0 (C : Orc) : MS :=
 (sSeq (sSet 3 (eCall C 3 [.vl (eV 0), .vl (eV 1)]))
 (sSeq (sIf (tO2 cEq (.vr 3) (.vr 1))
 (sRet (eV 1))
 sNx)
 (sSet 1 (eV 3))))
/-- greatest_prices -/
def M66 (C : Orc) : MS :=
 (sSeq (sSet 1 (eO2 fRepT (.ex (eTup [(eC .none)])) (.ex (eO2 fIx (.vr 0) (.ex (eC (.int 0)))))))
 (sSeq (sFor (iR1 (eO2 fIx (.vr 0) (.ex (eC (.int 0))))) (tgN 2)
 (M66b0 C))
 (sSeq (sSet 4 (eB bZipL [(.vr 1), (.ex (eCall C 3 [.vl (eV 0), .vl (eV 1)]))]))
 (sRet (eCall C 65 [.vl (eV 0), .vl (eB bTuple [(.ex (eLc (iAny (eV 4)) (tgT [(tgN 5), (tgN 3)]) mYes (eIf (tO2 cEq (.vr 5) (.vr 3)) (eV 5) (eC (.str "unbounded"))) [5, 3]))])])))))
def F66 (C : Orc) : List W → CRes := runF 1 6 [[]] (M66 C)
/-- _law_dear -/
def M69 (C : Orc) : MS :=
 (sSeq (sSet 2 (eLc (iAny (eO2 fIx (.vr 0) (.ex (eC (.int 1))))) (tgN 3) mYes (eO2 fIx (.vr 1) (.vr 3)) [3]))
 (sSeq (sIf (tOr' (tO2 cIs (.ex (eO2 fIx (.vr 0) (.ex (eC (.int 2))))) (.ex (eC .none))) (tO2 cIn (.ex (eC .none)) (.vr 2)))
 (sRet (eC .none))
 sNx)
 (sSeq (sIf (tO2 cIn (.ex (eC (.str "unbounded"))) (.vr 2))
 (sRet (eC (.str "unbounded")))
 sNx)
 (sRet (eO2 fAddI (.ex (eO2 fIx (.vr 0) (.ex (eC (.int 2))))) (.ex (eB bSum [(.vr 2)])))))))
def F69 (C : Orc) : List W → CRes := runF 2 4 [[]] (M69 C)
/-- _law_above -/
def M10 (C : Orc) : MS :=
 (sSeq (sIf (tOr' (tO2 cIs (.vr 0) (.ex (eC .none))) (tO2 cEq (.vr 1) (.ex (eC (.str "unbounded")))))
 (sRet (eC (.bool false)))
 sNx)
 (sRet (eOr (eO2 (lB cIs) (.vr 1) (.ex (eC .none))) (eOr (eO2 (lB cEq) (.vr 0) (.ex (eC (.str "unbounded")))) (eO2 (lB cGt) (.vr 0) (.vr 1))))))
def F10 (C : Orc) : List W → CRes := runF 2 2 [[]] (M10 C)
def M70b0 (C : Orc) : MS :=
 (sSeq (sSet 4 (eCall C 69 [.vl (eV 3), .vl (eV 1)]))
 (sIf (tTru (.ex (eCall C 10 [.vl (eV 4), .vl (eO2 fIx (.vr 2) (.ex (eO2 fIx (.vr 3) (.ex (eC (.int 0))))))])))
 (sPut 2 (eO2 fIx (.vr 3) (.ex (eC (.int 0)))) (eV 4))
 sNx))
/-- _law_dears -/
def M70 (C : Orc) : MS :=
 (sSeq (sSet 2 (eLc (iR1 (eO2 fIx (.vr 0) (.ex (eC (.int 0))))) (tgN 5) mYes (eC .none) [5]))
 (sSeq (sFor (iAny (eO2 fIx (.vr 0) (.ex (eC (.int 2))))) (tgN 3)
 (M70b0 C))
 (sRet (eB bTuple [(.vr 2)]))))
def F70 (C : Orc) : List W → CRes := runF 2 6 [[]] (M70 C)
def M71b0 (C : Orc) : MS :=
 (sSeq (sSet 3 (eCall C 70 [.vl (eV 0), .vl (eV 1)]))
 (sSeq (sIf (tO2 cEq (.vr 3) (.vr 1))
 (sRet (eV 1))
 sNx)
 (sSet 1 (eV 3))))
def M71b1 (C : Orc) : MS :=
 (sIf (tAnd' (tNot' (tTru (.ex (eO2 fIx (.vr 4) (.ex (eO2 fIx (.vr 5) (.ex (eC (.int 0))))))))) (tO2 cIsNot (.ex (eCall C 69 [.vl (eV 5), .vl (eV 1)])) (.ex (eC .none))))
 (sPut 4 (eO2 fIx (.vr 5) (.ex (eC (.int 0)))) (eO2 (lB cIn) (.ex (eC (.bool true))) (.ex (eLc (iAny (eO2 fIx (.vr 5) (.ex (eC (.int 1))))) (tgN 6) mYes (eO2 fIx (.vr 4) (.vr 6)) [6]))))
 sNx)
def M71b2 (C : Orc) : MS :=
 (sFor (iAny (eO2 fIx (.vr 0) (.ex (eC (.int 2))))) (tgN 5)
 (M71b1 C))
/-- _law_greatest -/
def M71 (C : Orc) : MS :=
 (sSeq (sSet 1 (eB bTuple [(.ex (eLc (iR1 (eO2 fIx (.vr 0) (.ex (eC (.int 0))))) (tgN 6) mYes (eC .none) [6]))]))
 (sSeq (sFor (iR1 (eO2 fIx (.vr 0) (.ex (eC (.int 0))))) (tgN 2)
 (M71b0 C))
 (sSeq (sSet 3 (eCall C 70 [.vl (eV 0), .vl (eV 1)]))
 (sSeq (sSet 4 (eLc (iR1 (eO2 fIx (.vr 0) (.ex (eC (.int 0))))) (tgN 6) mYes (eO2 (lB cNe) (.ex (eO2 fIx (.vr 3) (.vr 6))) (.ex (eO2 fIx (.vr 1) (.vr 6)))) [6]))
 (sSeq (sFor (iR1 (eO2 fIx (.vr 0) (.ex (eC (.int 0))))) (tgN 2)
 (M71b2 C))
 (sRet (eB bTuple [(.ex (eLc (iR1 (eO2 fIx (.vr 0) (.ex (eC (.int 0))))) (tgN 6) mYes (eIf (tTru (.ex (eO2 fIx (.vr 4) (.vr 6)))) (eC (.str "unbounded")) (eO2 fIx (.vr 1) (.vr 6))) [6]))])))))))
def F71 (C : Orc) : List W → CRes := runF 1 7 [[]] (M71 C)
/-! ### prices that may be missing or unbounded -/
abbrev P3 := Option (Option Int)
def uStr : Str := "unbounded"
def p3D : P3 → D
  | none => .none
  | some none => .str uStr
  | some (some i) => .int i
def hasN (fs : List P3) : Bool := fs.any fun z => z == none
def hasU (fs : List P3) : Bool := fs.any fun z => z == some none
def valsI (fs : List P3) : List Int := fs.filterMap fun z => z.bind id
def dear (p : Option Int) (fs : List P3) : P3 := match p with
  | none => none
  | some i => if hasN fs then none else if hasU fs then some none else some (some (i + (valsI fs).sum))
def above : P3 → P3 → Bool
  | none, _ => false
  | some _, some none => false
  | some _, none => true
  | some none, some (some _) => true
  | some (some i), some (some j) => decide (j < i)
def dearV (v : Var) (ts : List P3) : P3 := dear v.price (v.slots.map fun s => ts.getD s none)
/-! ### a round -/
def gStep (ts : List P3) (row : List P3) (v : Var) : List P3 := if above (dearV v ts) (row.getD v.plug none) = true then row.set v.plug (dearV v ts) else row
def gRound (f : Fam) (ts : List P3) : List P3 := f.vars.foldl (gStep ts) (List.replicate f.count none)
structure TabFor (f : Fam) (ts : List P3) : Prop where
  len : ts.length = f.count
  inn : f.In f.count
  few : ∀ v ∈ f.vars, v.slots.length ≤ 1000
  small : f.count ≤ 1000
/-! ### plain: the order, a round -/
def plt (a b : P3) : Prop := above b a = true
def ple (a b : P3) : Prop := ¬ plt b a
section
variable {f : Fam} (hin : f.In f.count)
include hin
end
def gIt (f : Fam) : Nat → List P3
  | 0 => List.replicate f.count none
  | k + 1 => gRound f (gIt f k)
def pat (ts : List P3) (ws : List Wt) : Prop := ∀ s, ts.getD s none = none ↔ ws.getD s none = none
section
variable {f : Fam} (hin : f.In f.count)
include hin
end
/-! ### rows of these, compared -/
/-! ### sets of states, as rows of truth values -/
def cnt : List Bool → Nat
  | [] => 0
  | b :: bs => (if b = true then 1 else 0) + cnt bs
/-! ### what still rises -/
abbrev gP (f : Fam) : List P3 := gIt f f.count
inductive Ris (f : Fam) : Nat → Prop
  | base {s : Nat} : s < f.count → (gIt f (f.count + 1)).getD s none ≠ (gP f).getD s none → Ris f s
  | step {v : Var} {t : Nat} : v ∈ f.vars → dearV v (gP f) ≠ none → t ∈ v.slots → Ris f t → Ris f v.plug
structure RB (f : Fam) (bs : List Bool) : Prop where
  len : bs.length = f.count
  sound : ∀ s, bs.getD s false = true → Ris f s
  base : ∀ s, s < f.count → (gIt f (f.count + 1)).getD s none ≠ (gP f).getD s none → bs.getD s false = true
def ClB (f : Fam) (bs : List Bool) : Prop := ∀ v ∈ f.vars, dearV v (gP f) ≠ none → (∃ t ∈ v.slots, bs.getD t false = true) → bs.getD v.plug false = true
open Classical in
noncomputable def gp (f : Fam) : List P3 := (List.range f.count).map fun s => if Ris f s then some none else (gP f).getD s none
def qrow (f : Fam) (bs : List Bool) : List P3 := (List.range f.count).map fun s => if bs.getD s false = true then some none else (gP f).getD s none
section
variable {f : Fam} (hin : f.In f.count)
include hin
def spreadB (f : Fam) (bs : List Bool) : List Bool := (List.range f.count).map fun s => bs.getD s false || f.vars.any fun v => decide (v.plug = s) && (dearV v (gP f) != none) && v.slots.any fun t => bs.getD t false
omit hin in
omit hin in
omit hin in
def jn (a b : P3) : P3 := if above a b = true then a else b
def jnR (as bs : List P3) : List P3 := (as.zip bs).map fun p => jn p.1 p.2
omit hin in
omit hin in
omit hin in
omit hin in
omit hin in
/-- the first mark -/
def mark0 (f : Fam) : List Bool := (List.range f.count).map fun s => decide (¬ (gP f).getD s none = (gIt f (f.count + 1)).getD s none)
omit hin in
end
/-! ### the program's and the oracle's greatest prices -/
def p3t (ts : List P3) : D := .tuple (ts.map p3D)
def AboveS (C : Orc) (k : Nat) : Prop := ∀ a b : P3, C k [.d (p3D a), .d (p3D b)] = .ok (.d (.bool (above a b))) []
def GRoundS (C : Orc) (k : Nat) : Prop := ∀ (f : Fam) (ts : List P3), TabFor f ts → C k [.d f.dat, .d (p3t ts)] = .ok (.d (p3t (gRound f ts))) []
structure Fam.Ge (f : Fam) : Prop where
  pos : 0 < f.count
  small : f.count ≤ 1000
  inn : f.In f.count
  few : ∀ v ∈ f.vars, v.slots.length ≤ 1000
theorem Fam.Ge.tab {f : Fam} (h : f.Ge) {ts : List P3} (hl : ts.length = f.count) : TabFor f ts := ⟨hl, h.inn, h.few, h.small⟩
/-! ### the oracle: in place -/
open Classical in
noncomputable def stepB (f : Fam) (bs : List Bool) (v : Var) : List Bool := if bs.getD v.plug false = false ∧ dearV v (gP f) ≠ none then bs.set v.plug (v.slots.any fun t => bs.getD t false) else bs
noncomputable def passB (f : Fam) (vs : List Var) (bs : List Bool) : List Bool := vs.foldl (stepB f) bs
end Mi
set_option Elab.async false
set_option linter.all false
set_option maxRecDepth 100000
set_option maxHeartbeats 4000000
namespace Mi
open PySem L2
local macro_rules | `(tactic| push_cast [$hs,*]) => `(tactic| simp -implicitDefEqProofs (disch := first | omega | (simp only [rng_len, List.length_map, List.length_append, List.length_range, List.length_replicate, List.length_cons, List.length_nil, List.length_set, List.length_reverse, List.length_zipIdx]; omega)) only [ev_seq, ev_if, ev_ifE, ev_nx, ev_bk, ev_ct, ev_E, ev_set, ev_tg, ev_ret, ev_retO, ev_retN, ev_put, ev_for, ev_C, ev_V, ev_vr, ev_ex, ev_o1, ev_o2, ev_t2, ev_tru, ev_and, ev_or, ev_not, ev_yes, ev_andE, ev_orE, ev_notE, ev_LN, ev_LC, ev_B, ev_TN, ev_TC, ev_tup, ev_lst, ev_GN, ev_GV, ev_GR, ev_call, ev_mu, ev_lc, ev_any, ev_r1, ev_r2, ev_rep, kS_nx, kS_bk, kS_ct, kS_rt, kIf_t, kIf_f, kM_ok, kSet_ok, kAnd_t, kAnd_f, kOr_t, kOr_f, kAndE_t, kAndE_f, kOrE_t, kOrE_f, kNotE_b, oVr_s, kO2_ok, kO2'_ok, g2_ss, gv_l, gv_r, kL_ok, kL'_ok, kB_ok, gB_s, gvL_n, gvL_c, kV_ss, kT_ok, kT'_ok, kG_ok, kG'_ok, gG_l, gG_t, gG_d, kC_ok, kC1_s, kC2_ok, kP_s, take_n, take_l, take_r, put_n, put_l, put_r, pt1_s, kPut1_ok, kPut2_ok, isL_l, kMu_ok, kFor_ok, kSeqI_l, kSeqI_l', kSeqI_t, kR2_ok, kRep_ok, rV_d, rV_l, cont_n, cont_c, ct1_s, wp_ok, wpC_ok, atI_0, atI_1, atI_2, atI_3, fIx_l, fIx_t, List.length_cons, List.length_nil, Nat.zero_add, Nat.reduceAdd, Int.reduceLT, Int.reduceLE, Int.reduceAdd, Int.reduceMul, Int.reduceToNat, Int.reduceNeg, Int.reduceSub, Nat.reduceLT, Nat.reduceLeDiff, Nat.reduceMul, gt_iff_lt, ge_iff_le, ixN_4_0, ixN_4_1, ixN_4_2, ixN_4_3, wipe_n, wipe_c, tgN_r, tgT_r, tgL_n, tgL_c, ofO_some, vw_d, vw_l, fAddI_int, fSub_int, fNeg_int, fMod_p, fMul_31, fMul_48271, fMul_69621, fPow18, fPow9, cCmp_int, cEq_int, cNe_int, cEq_str, cNe_str, cOrd_int, ev_aug, kAug_ok, ev_en, kEn_t, fIs_int, fIs_bool, fIs_none, fIs_str, fIs_list, fIs_tuple, isTy_int_int, isTy_int_bool, isTy_tuple_tuple, cIs_none, cIsNot_none, isNone_none, isNone_int, isNone_str, isNone_tuple, isNone_list, isNone_bool, truD_l, truD_t, truD_b, truD_n, bLen_l, bLen_t, bAbs_int, bInt_int, bMax_int, bMin_int, bList_l, bList_t, bTuple_l, bTuple_t, Option.map_some, Option.bind_some, List.getD_cons_zero, List.getD_cons_succ, List.set_cons_zero, List.set_cons_succ, if_true, if_false, lB, ↓reduceIte, Bool.not_true, Bool.not_false, kO1_ok, g1_s, kTru_ok, vf_d, vf_l, tk1_s, tkW_s, isO_l, isO_t, kF_ok, endF_r, endF_n, kF_ex, endX_s, rV_t, lpos_n, lpos_l, lpos_t, lpos_d, fAdd_int, ev_pN, ev_pS, kP1_i, ev_sl, kSl_ok, kSl2_ok, kSl3_ok, fSl_l, fSl_t, fRev_l, fRev_t, kR1_c, kR1_n, kR2_c, kLc_c, kRep2_n, gPut_n, gPut_c, gMu_app, rep_n, vw_d, List.length_map, List.length_range, rng_len, Int.toNat_natCast, beq_self_eq_true, Bool.not_true, Bool.not_false, Option.isNone_none, Option.isNone_some, decide_true, decide_false, ev_forN, List.isEmpty_nil, List.isEmpty_cons, kTg_2, kTg_3, ev_mv, gMv_s, ev_rvA, kRvA_t, kRvA_d, kRvA_l, ev_g1, kg1_i, ev_g2, kg2a_i, kg2_i, fNotT_l, fNotT_b, ev_tupR, ev_lstR, kTupR_s, kLstR_s, ev_rvR, kRvR_s, $hs,*])
/-- _law_integer -/
def M36 (C : Orc) : MS :=
 (sRet (eAnd (eO1 (fIs "int") (.vr 0)) (eNot (eO1 (fIs "bool") (.vr 0)))))
def F36 (C : Orc) : List W → CRes := runF 1 1 [[]] (M36 C)
def M37b0 (C : Orc) : MS :=
 (sIf (tNot' (tTru (.ex (eCall C 36 [.vl (eV 2)]))))
 (sRet (eC (.bool false)))
 sNx)
/-- _law_integers -/
def M37 (C : Orc) : MS :=
 (sSeq (sIf (tOr' (tNot' (tTru (.ex (eO1 (fIs "tuple") (.vr 0))))) (tO2 cNe (.ex (eB bLen [(.vr 0)])) (.vr 1)))
 (sRet (eC (.bool false)))
 sNx)
 (sSeq (sFor (iAny (eV 0)) (tgN 2)
 (M37b0 C))
 (sRet (eC (.bool true)))))
def F37 (C : Orc) : List W → CRes := runF 2 3 [[]] (M37 C)
def M38b0 (C : Orc) : MS :=
 (sSet 3 (eO2 fAdd (.vr 3) (.ex (eO2 fIx (.vr 2) (.ex (eCall C 5 [.rf 0, .vl (eC (.int 62))]))))))
/-- _law_word -/
def M38 (C : Orc) : MS :=
 (sSeq (sSet 2 (eC (.str "abcdefghijklmnopqrstuvwxyzABCDEFGHIJKLMNOPQRSTUVWXYZ0123456789")))
 (sSeq (sSet 3 (eO2 fAdd (.vr 1) (.ex (eO2 fIx (.vr 2) (.ex (eCall C 5 [.rf 0, .vl (eC (.int 52))]))))))
 (sSeq (sFor (iR1 (eO2 fIx (.ex (eLst [(eC (.int 0)), (eC (.int 0)), (eC (.int 1)), (eC (.int 3)), (eC (.int 0)), (eC (.int 14))])) (.ex (eCall C 5 [.rf 0, .vl (eC (.int 6))])))) (tgN 4)
 (M38b0 C))
 (sSeq (sIf (tO2 cInT (.vr 3) (.ex (eLst [(eC (.str "and")), (eC (.str "or")), (eC (.str "not")), (eC (.str "implies")), (eC (.str "true")), (eC (.str "false")), (eC (.str "plug")), (eC (.str "component"))])))
 (sSet 3 (eO2 fAddS (.vr 3) (.ex (eC (.str "0")))))
 sNx)
 (sRet (eV 3))))))
def F38 (C : Orc) : List W → CRes := runF 2 5 [[0]] (M38 C)
def M39b0 (C : Orc) : MS :=
 (sSeq (sSet 5 (eCall C 38 [.rf 0, .vl (eV 2)]))
 (sIf (tO2 cNotInT (.vr 5) (.vr 3))
 (sE (eMu mApp 3 [(eV 5)]))
 sNx))
/-- _law_words -/
def M39 (C : Orc) : MS :=
 (sSeq (sSet 2 (eO2 fIx (.ex (eLst [(eC (.str "")), (eC (.str "")), (eC (.str "")), (eC (.str "notch")), (eC (.str "or")), (eC (.str "plug")), (eC (.str "trueA")), (eC (.str "b"))])) (.ex (eCall C 5 [.rf 0, .vl (eC (.int 8))]))))
 (sSeq (sSet 3 (eLst []))
 (sSeq (sFor (iR1 (eV 1)) (tgN 4)
 (M39b0 C))
 (sRet (eV 3)))))
def F39 (C : Orc) : List W → CRes := runF 2 6 [[0]] (M39 C)
def M40b0 (C : Orc) : MS :=
 (sSeq (sSet 5 (eV 4))
 (sSeq (sSet 6 (eCall C 5 [.rf 0, .vl (eC (.int 6))]))
 (sSeq (sIf (tO2 cEq (.vr 6) (.ex (eC (.int 0))))
 (sSet 5 (eO2 fAddS (.ex (eC (.str "plug."))) (.vr 4)))
 sNx)
 (sSeq (sIf (tO2 cEq (.vr 6) (.ex (eC (.int 1))))
 (sSet 5 (eO2 fAddS (.ex (eO2 fAddS (.vr 4) (.ex (eC (.str "."))))) (.ex (eO2 fIx (.vr 2) (.ex (eC (.int 0)))))))
 sNx)
 (sSeq (sIf (tO2 cEq (.vr 6) (.ex (eC (.int 2))))
 (sSet 5 (eO2 fAddS (.ex (eO2 fAddS (.ex (eO2 fIx (.ex (eLst [(eC (.str "not")), (eC (.str "or")), (eC (.str "true"))])) (.ex (eCall C 5 [.rf 0, .vl (eC (.int 3))])))) (.ex (eC (.str "."))))) (.vr 4)))
 sNx)
 (sSeq (sSet 7 (eO2 fIx (.ex (eLst [(eC (.str "number")), (eC (.str "number")), (eC (.str "option"))])) (.ex (eCall C 5 [.rf 0, .vl (eC (.int 3))]))))
 (sIf (tO2 cNotInT (.vr 5) (.ex (eLcV 3 (tgN 8) mYes (eO2 fIx (.vr 8) (.ex (eC (.int 0)))) [8])))
 (sE (eMu mApp 3 [(eTup [(eV 5), (eV 7)])]))
 sNx)))))))
/-- _law_variables -/
def M40 (C : Orc) : MS :=
 (sSeq (sSet 2 (eCall C 39 [.rf 0, .vl (eV 1)]))
 (sSeq (sSet 3 (eLst []))
 (sSeq (sFor (iAny (eV 2)) (tgN 4)
 (M40b0 C))
 (sRet (eV 3)))))
def F40 (C : Orc) : List W → CRes := runF 2 9 [[0]] (M40 C)
def M41b0 (C : Orc) : MS :=
 (sSet 2 (eO2 fAdd (.vr 2) (.ex (eO2 fIx (.vr 1) (.ex (eCall C 5 [.rf 0, .vl (eC (.int 93))]))))))
/-- _law_option -/
def M41 (C : Orc) : MS :=
 (sSeq (sSet 1 (eC (.str " !#$&'()*+,-./0123456789:;<=>?@ABCDEFGHIJKLMNOPQRSTUVWXYZ[\\]^_`abcdefghijklmnopqrstuvwxyz{|}~")))
 (sSeq (sSet 2 (eO2 fIx (.ex (eLst [(eC (.str "")), (eC (.str "")), (eC (.str "red")), (eC (.str "12")), (eC (.str " "))])) (.ex (eCall C 5 [.rf 0, .vl (eC (.int 5))]))))
 (sSeq (sFor (iR1 (eO2 fIx (.ex (eLst [(eC (.int 1)), (eC (.int 1)), (eC (.int 2)), (eC (.int 4)), (eC (.int 17))])) (.ex (eCall C 5 [.rf 0, .vl (eC (.int 5))])))) (tgN 3)
 (M41b0 C))
 (sRet (eV 2)))))
def F41 (C : Orc) : List W → CRes := runF 1 4 [[0]] (M41 C)
/-- _law_options -/
def M42 (C : Orc) : MS :=
 (sSeq (sSet 1 (eCall C 41 [.rf 0]))
 (sRet (eLst [(eV 1), (eO2 fAdd (.ex (eSl (.vr 1) none (some (eO1 fNeg (.ex (eC (.int 1))))))) (.ex (eO2 fIx (.ex (eLst [(eC (.str "x")), (eC (.str "~")), (eC (.str " "))])) (.ex (eCall C 5 [.rf 0, .vl (eC (.int 3))]))))), (eCall C 41 [.rf 0])])))
def F42 (C : Orc) : List W → CRes := runF 1 2 [[0]] (M42 C)
/-- _law_leaf -/
def M43 (C : Orc) : MS :=
 (sSeq (sSet 4 (eLc (iAny (eV 2)) (tgN 5) (tO2 cEq (.ex (eO2 fIx (.vr 5) (.ex (eC (.int 1))))) (.vr 1)) (eO2 fIx (.vr 5) (.ex (eC (.int 0)))) [5]))
 (sSeq (sIf (tAnd' (tTru (.vr 4)) (tO2 cGt (.ex (eCall C 5 [.rf 0, .vl (eC (.int 4))])) (.ex (eC (.int 0)))))
 (sRet (eTup [(eC (.str "variable")), (eO2 fIx (.vr 4) (.ex (eCall C 5 [.rf 0, .vl (eB bLen [(.vr 4)])])))]))
 sNx)
 (sSeq (sIf (tO2 cEq (.vr 1) (.ex (eC (.str "option"))))
 (sRet (eTup [(eC (.str "option")), (eO2 fIx (.vr 3) (.ex (eCall C 5 [.rf 0, .vl (eB bLen [(.vr 3)])])))]))
 sNx)
 (sSeq (sIf (tO2 cEq (.vr 1) (.ex (eC (.str "condition"))))
 (sRet (eO2 fIx (.ex (eLst [(eTup [(eC (.str "true"))]), (eTup [(eC (.str "false"))])])) (.ex (eCall C 5 [.rf 0, .vl (eC (.int 2))]))))
 sNx)
 (sRet (eTup [(eC (.str "number")), (eCall C 5 [.rf 0, .vl (eO2 fIx (.ex (eLst [(eC (.int 2)), (eC (.int 4)), (eC (.int 10)), (eC (.int 1000000))])) (.ex (eCall C 5 [.rf 0, .vl (eC (.int 4))])))])]))))))
def F43 (C : Orc) : List W → CRes := runF 4 6 [[0]] (M43 C)
/-- _law_wild -/
def M44 (C : Orc) : MS :=
 (sSeq (sSet 5 (eCall C 5 [.rf 0, .vl (eC (.int 16))]))
 (sSeq (sIf (tOr' (tO2 cEq (.vr 3) (.ex (eC (.int 1)))) (tOr' (tO2 cEq (.vr 4) (.ex (eC (.int 1)))) (tO2 cEq (.vr 5) (.ex (eC (.int 15))))))
 (sRet (eCall C 43 [.rf 0, .vl (eO2 fIx (.ex (eLst [(eC (.str "number")), (eC (.str "option")), (eC (.str "condition"))])) (.ex (eCall C 5 [.rf 0, .vl (eC (.int 3))]))), .vl (eV 1), .vl (eV 2)]))
 sNx)
 (sSeq (sIf (tOr' (tO2 cLt (.vr 5) (.ex (eC (.int 3)))) (tO2 cEq (.vr 3) (.ex (eC (.int 2)))))
 (sRet (eTup [(eO2 fIx (.ex (eLst [(eC (.str "minus")), (eC (.str "not"))])) (.ex (eCall C 5 [.rf 0, .vl (eC (.int 2))]))), (eCall C 44 [.rf 0, .vl (eV 1), .vl (eV 2), .vl (eO2 fSub (.vr 3) (.ex (eC (.int 1)))), .vl (eO2 fSub (.vr 4) (.ex (eC (.int 1))))])]))
 sNx)
 (sSeq (sSet 6 (eO2 fIx (.ex (eLst [(eC (.str "+")), (eC (.str "-")), (eC (.str "*")), (eC (.str "=")), (eC (.str "!=")), (eC (.str "<")), (eC (.str "<=")), (eC (.str ">")), (eC (.str ">=")), (eC (.str "and")), (eC (.str "or")), (eC (.str "implies"))])) (.ex (eO2 fSub (.vr 5) (.ex (eC (.int 3)))))))
 (sSeq (sSet 7 (eO2 fAddI (.ex (eC (.int 1))) (.ex (eCall C 5 [.rf 0, .vl (eO2 fSub (.vr 3) (.ex (eC (.int 2))))]))))
 (sSeq (sIf (tO2 cEq (.ex (eCall C 5 [.rf 0, .vl (eC (.int 4))])) (.ex (eC (.int 0))))
 (sSet 7 (eO2 fIx (.ex (eLst [(eC (.int 1)), (eO2 fSub (.vr 3) (.ex (eC (.int 2))))])) (.ex (eCall C 5 [.rf 0, .vl (eC (.int 2))]))))
 sNx)
 (sSeq (sSet 8 (eCall C 44 [.rf 0, .vl (eV 1), .vl (eV 2), .vl (eV 7), .vl (eO2 fSub (.vr 4) (.ex (eC (.int 1))))]))
 (sRet (eTup [(eV 6), (eV 8), (eCall C 44 [.rf 0, .vl (eV 1), .vl (eV 2), .vl (eO2 fSub (.ex (eO2 fSub (.vr 3) (.ex (eC (.int 1))))) (.vr 7)), .vl (eO2 fSub (.vr 4) (.ex (eC (.int 1))))])])))))))))
def F44 (C : Orc) : List W → CRes := runF 5 9 [[0]] (M44 C)
def M45b0 (C : Orc) : MS :=
 (sSeq (sSet 6 (eCall C 5 [.rf 0, .vl (eC (.int 16))]))
 (sSeq (sSet 7 (eLst [(eC (.str "minus")), (eC (.str "not")), (eC (.str "minus")), (eC (.str "not")), (eC (.str "+")), (eC (.str "-")), (eC (.str "*")), (eC (.str "=")), (eC (.str "!=")), (eC (.str "<")), (eC (.str "<=")), (eC (.str ">")), (eC (.str ">=")), (eC (.str "and")), (eC (.str "or")), (eC (.str "implies"))]))
 (sIf (tO2 cLt (.vr 6) (.ex (eC (.int 4))))
 (sSet 4 (eTup [(eO2 fIx (.vr 7) (.vr 6)), (eV 4)]))
 (sIf (tO2 cEq (.ex (eCall C 5 [.rf 0, .vl (eC (.int 2))])) (.ex (eC (.int 0))))
 (sSet 4 (eTup [(eO2 fIx (.vr 7) (.vr 6)), (eV 4), (eCall C 43 [.rf 0, .vl (eC (.str "number")), .vl (eV 1), .vl (eV 2)])]))
 (sSet 4 (eTup [(eO2 fIx (.vr 7) (.vr 6)), (eCall C 43 [.rf 0, .vl (eC (.str "option")), .vl (eV 1), .vl (eV 2)]), (eV 4)]))))))
/-- _law_chain -/
def M45 (C : Orc) : MS :=
 (sSeq (sSet 4 (eCall C 43 [.rf 0, .vl (eO2 fIx (.ex (eLst [(eC (.str "number")), (eC (.str "condition"))])) (.ex (eCall C 5 [.rf 0, .vl (eC (.int 2))]))), .vl (eV 1), .vl (eV 2)]))
 (sSeq (sFor (iR1 (eV 3)) (tgN 5)
 (M45b0 C))
 (sRet (eV 4))))
def F45 (C : Orc) : List W → CRes := runF 4 8 [[0]] (M45 C)
/-- _law_any -/
def M46 (C : Orc) : MS :=
 (sSeq (sSet 3 (eCall C 5 [.rf 0, .vl (eC (.int 5))]))
 (sSeq (sIf (tO2 cEq (.vr 3) (.ex (eC (.int 0))))
 (sRet (eCall C 45 [.rf 0, .vl (eV 1), .vl (eV 2), .vl (eC (.int 15))]))
 sNx)
 (sSeq (sIf (tO2 cEq (.vr 3) (.ex (eC (.int 1))))
 (sSeq (sSet 4 (eCall C 45 [.rf 0, .vl (eV 1), .vl (eV 2), .vl (eC (.int 14))]))
 (sRet (eTup [(eO2 fIx (.ex (eLst [(eC (.str "and")), (eC (.str "=")), (eC (.str "-"))])) (.ex (eCall C 5 [.rf 0, .vl (eC (.int 3))]))), (eV 4), (eCall C 44 [.rf 0, .vl (eV 1), .vl (eV 2), .vl (eC (.int 30)), .vl (eC (.int 15))])])))
 sNx)
 (sSeq (sSet 5 (eO2 fIx (.ex (eLst [(eC (.int 1)), (eC (.int 2)), (eC (.int 3)), (eC (.int 7)), (eC (.int 16)), (eC (.int 60))])) (.ex (eCall C 5 [.rf 0, .vl (eC (.int 6))]))))
 (sRet (eCall C 44 [.rf 0, .vl (eV 1), .vl (eV 2), .vl (eV 5), .vl (eO2 fIx (.ex (eLst [(eC (.int 2)), (eC (.int 4)), (eC (.int 8)), (eC (.int 16))])) (.ex (eCall C 5 [.rf 0, .vl (eC (.int 4))])))]))))))
def F46 (C : Orc) : List W → CRes := runF 3 6 [[0]] (M46 C)
def M47b0 (C : Orc) : MS :=
 (sSet 1 (eO2 fAdd (.vr 1) (.ex (eCall C 47 [.vl (eV 2)]))))
/-- _law_parts -/
def M47 (C : Orc) : MS :=
 (sSeq (sSet 1 (eLst [(eV 0)]))
 (sSeq (sIf (tO2 cNotInT (.ex (eO2 fIx (.vr 0) (.ex (eC (.int 0))))) (.ex (eLst [(eC (.str "number")), (eC (.str "option")), (eC (.str "variable")), (eC (.str "true")), (eC (.str "false"))])))
 (sFor (iAny (eSl (.vr 0) (some (eC (.int 1))) none)) (tgN 2)
 (M47b0 C))
 sNx)
 (sRet (eV 1))))
def F47 (C : Orc) : List W → CRes := runF 1 3 [[]] (M47 C)
def M48b0 (C : Orc) : MS :=
 (sSet 1 (eB bMax [(.vr 1), (.ex (eO2 fAddI (.ex (eC (.int 1))) (.ex (eCall C 48 [.vl (eV 2)]))))]))
/-- _law_depth -/
def M48 (C : Orc) : MS :=
 (sSeq (sSet 1 (eC (.int 1)))
 (sSeq (sIf (tO2 cNotInT (.ex (eO2 fIx (.vr 0) (.ex (eC (.int 0))))) (.ex (eLst [(eC (.str "number")), (eC (.str "option")), (eC (.str "variable")), (eC (.str "true")), (eC (.str "false"))])))
 (sFor (iAny (eSl (.vr 0) (some (eC (.int 1))) none)) (tgN 2)
 (M48b0 C))
 sNx)
 (sRet (eV 1))))
def F48 (C : Orc) : List W → CRes := runF 1 3 [[]] (M48 C)
/-! ### texts and picks -/
theorem str_app (a b : Str) : (a ++ b).length = a.length + b.length := by
  show (a.cps ++ b.cps).size = _
  rw [Array.size_append]; rfl
theorem str_one (c : Nat) : (⟨#[c]⟩ : Str).length = 1 := rfl
theorem fAdd_s {a b : Str} (h : a.length + b.length ≤ 16777216) : fAdd (.str a) (.str b) = some (.d (.str (a ++ b))) := if_pos h
theorem fAddS_s {a b : Str} (h : a.length + b.length ≤ 16777216) : fAddS (.str a) (.str b) = some (.d (.str (a ++ b))) := if_pos h
theorem at_in {xs : List D} {k : Int} (h0 : 0 ≤ k) (h1 : k < xs.length) : ∃ x, atI xs k = some x ∧ x ∈ xs := by
  obtain ⟨n, rfl⟩ : ∃ n : Nat, k = (n : Int) := ⟨k.toNat, by omega⟩
  have hn : n < xs.length := by omega
  refine ⟨xs[n], ?_, List.getElem_mem hn⟩
  unfold atI ixN
  rw [if_pos (by omega), if_pos (by omega)]
  simp only [Option.bind_some, Int.toNat_natCast, List.getElem?_eq_getElem hn]
theorem at_inS {ss : List Str} {k : Int} (h0 : 0 ≤ k) (h1 : k < ss.length) : ∃ s, atI (ss.map PyData.str) k = some (.str s) ∧ s ∈ ss := by
  obtain ⟨x, h, hm⟩ := at_in (xs := ss.map PyData.str) h0 (by rw [List.length_map]; exact h1)
  obtain ⟨s, hs, rfl⟩ := List.mem_map.mp hm
  exact ⟨s, h, hs⟩
theorem at_inI {ns : List Int} {k : Int} (h0 : 0 ≤ k) (h1 : k < ns.length) : ∃ n, atI (ns.map PyData.int) k = some (.int n) ∧ n ∈ ns := by
  obtain ⟨x, h, hm⟩ := at_in (xs := ns.map PyData.int) h0 (by rw [List.length_map]; exact h1)
  obtain ⟨s, hs, rfl⟩ := List.mem_map.mp hm
  exact ⟨s, h, hs⟩
theorem ix_chr {z : Str} {k : Int} (hz : z.length ≤ 16777216) (h0 : 0 ≤ k) (h1 : k < z.length) : ∃ c : Nat, fIx (.str z) (.int k) = some (.d (.str ⟨#[c]⟩)) ∧ c ∈ z.cps.toList := by
  obtain ⟨n, rfl⟩ : ∃ n : Nat, k = (n : Int) := ⟨k.toNat, by omega⟩
  have hl : z.cps.toList.length = z.length := by simp [Str.length]
  have hn : n < z.cps.toList.length := by omega
  refine ⟨z.cps.toList[n], ?_, List.getElem_mem hn⟩
  show (if z.length ≤ 16777216 then (atI z.cps.toList (n : Int)).map _ else none) = _
  rw [if_pos hz]
  have e : atI z.cps.toList (n : Int) = some z.cps.toList[n] := by
    unfold atI ixN
    rw [if_pos (by omega), if_pos (by omega)]
    simp only [Option.bind_some, Int.toNat_natCast, List.getElem?_eq_getElem hn]
  rw [e]; rfl
theorem cInT_s (s : Str) (ss : List Str) : cInT (.str s) (.list (ss.map PyData.str)) = some (decide (s ∈ ss)) := by
  have h1 : (ss.map PyData.str).all flatD = true := by simp [flatD]
  show (if flatD (.str s) = true ∧ (ss.map PyData.str).all flatD = true then some _ else none) = _
  rw [if_pos ⟨rfl, h1⟩]
  congr 1
  rw [List.any_map, Bool.eq_iff_iff, List.any_eq_true, decide_eq_true_iff]
  constructor
  · rintro ⟨x, hx, e⟩
    have e : (x == s) = true := e
    exact eq_of_beq e ▸ hx
  · exact fun h => ⟨s, h, beq_self_eq_true s⟩
theorem cNotInT_s (s : Str) (ss : List Str) : cNotInT (.str s) (.list (ss.map PyData.str)) = some (!decide (s ∈ ss)) := by
  have h1 : (ss.map PyData.str).all flatD = true := by simp [flatD]
  have h := cInT_s s ss
  show (if flatD (.str s) = true ∧ (ss.map PyData.str).all flatD = true then some _ else none) = _
  have h : (if flatD (.str s) = true ∧ (ss.map PyData.str).all flatD = true then some ((ss.map PyData.str).any fun z => eqF z (.str s)) else none) = _ := h
  rw [if_pos ⟨rfl, h1⟩] at h ⊢
  rw [Option.some.inj h]
/-- a text that the model tells apart from others -/
def sk (s : Str) : Bool := PyData.canLay0 (.str s)
theorem sk_iff (s : Str) : sk s = s.cps.all (· < 0x110000) := rfl
theorem sk_app {a b : Str} (h1 : sk a = true) (h2 : sk b = true) : sk (a ++ b) = true := by
  rw [sk_iff] at *
  show (a.cps ++ b.cps).all _ = true
  rw [Array.all_append, h1, h2]; rfl
/-! ### words -/
def lett : Str := "abcdefghijklmnopqrstuvwxyzABCDEFGHIJKLMNOPQRSTUVWXYZ0123456789"
theorem lett_len : lett.length = 62 := by decide +kernel
theorem sk_one {z : Str} (hz : sk z = true) {c : Nat} (h : c ∈ z.cps.toList) : sk (⟨#[c]⟩ : Str) = true := by
  rw [sk_iff] at *
  have h1 : ∀ (i : Nat) (x : i < z.cps.size), z.cps[i] < 1114112 := by simpa using hz
  obtain ⟨i, hi, e⟩ := List.mem_iff_getElem.mp h
  have h2 := h1 i (by simpa using hi)
  have e2 : z.cps[i]'(by simpa using hi) = c := by rw [← e]; simp
  rw [e2] at h2
  show (#[c]).all _ = true
  simpa using h2
theorem lett_sk : sk lett = true := by decide +kernel
def WordS (C : Orc) : Prop := ∀ t, TapeOk t → ∀ stem : Str, stem.length ≤ 10 → sk stem = true → ∃ (s : Str) (t' : List D), C 38 [.l t, .d (.str stem)] = .ok (.d (.str s)) [.l t'] ∧ TapeOk t' ∧ s.length ≤ 40 ∧ sk s = true
/-! ### names with kinds -/
def vpD (p : Str × Str) : D := .tuple [.str p.1, .str p.2]
theorem vpD_0 (p : Str × Str) : fIx (vpD p) (.int 0) = some (.d (.str p.1)) := Eq.trans rfl rfl
theorem vpD_1 (p : Str × Str) : fIx (vpD p) (.int 1) = some (.d (.str p.2)) := Eq.trans rfl rfl
def WordsS (C : Orc) : Prop := ∀ t, TapeOk t → ∀ n : Nat, 0 < n → n ≤ 100 → ∃ (ss : List Str) (t' : List D), C 39 [.l t, .d (.int (n : Int))] = .ok (.d (.list (ss.map PyData.str))) [.l t'] ∧ TapeOk t' ∧ ss ≠ [] ∧ ss.length ≤ n ∧ ∀ s ∈ ss, s.length ≤ 40 ∧ sk s = true
/-! ### options -/
def sgn : Str := " !#$&'()*+,-./0123456789:;<=>?@ABCDEFGHIJKLMNOPQRSTUVWXYZ[\\]^_`abcdefghijklmnopqrstuvwxyz{|}~"
theorem sgn_len : sgn.length = 93 := by decide +kernel
def OptionS (C : Orc) : Prop := ∀ t, TapeOk t → ∃ (s : Str) (t' : List D), C 41 [.l t] = .ok (.d (.str s)) [.l t'] ∧ TapeOk t' ∧ s.length ≤ 40
theorem cutS_len (z : Str) (lo hi : Option Int) : (cutS z lo hi).length ≤ z.length := cutS_length z lo hi
/-! ### trees of terms -/
inductive Tm where
  | tt (t : Str)
  | lf (t : Str) (d : D)
  | un (o : Str) (e : Tm)
  | bi (o : Str) (a b : Tm)
def Tm.dat : Tm → D
  | .tt t => .tuple [.str t]
  | .lf t d => .tuple [.str t, d]
  | .un o e => .tuple [.str o, e.dat]
  | .bi o a b => .tuple [.str o, a.dat, b.dat]
def lvs : List Str := ["number", "option", "true", "false", "variable"]
def Tm.ok : Tm → Prop
  | .tt t => t ∈ lvs ∧ t ≠ "variable"
  | .lf t d => t ∈ lvs ∧ ((∃ s : Str, d = .str s ∧ s.length ≤ 100 ∧ (t = "variable" → sk s = true)) ∨ (t ≠ "variable" ∧ ∃ n : Nat, d = natD n ∧ n ≤ 1000000))
  | .un o e => o ∉ lvs ∧ e.ok
  | .bi o a b => o ∉ lvs ∧ a.ok ∧ b.ok
def Tm.nds : Tm → Nat
  | .tt _ => 1
  | .lf _ _ => 1
  | .un _ e => 1 + e.nds
  | .bi _ a b => 1 + (a.nds + b.nds)
def Tm.dep : Tm → Nat
  | .tt _ => 1
  | .lf _ _ => 1
  | .un _ e => 1 + e.dep
  | .bi _ a b => 1 + max a.dep b.dep
structure Tm.Ok (e : Tm) (n d : Nat) : Prop where
  ok : e.ok
  nds : e.nds ≤ n
  dep : e.dep ≤ d
/-- the names of a kind -/
theorem kind_of {C : Orc} {x0 x1 x2 x3 x4 : Option W} (k : Str) : ∀ (ps : List (Str × Str)),
    cmpL (tgN 5) (tO2 cEq (.ex (eO2 fIx (.vr 5) (.ex (eC (.int 1))))) (.vr 1)) (eO2 fIx (.vr 5) (.ex (eC (.int 0)))) [5] (ps.map vpD) [x0, some (.d (.str k)), x2, x3, x4, none] = .ok (((ps.filter fun p => p.2 == k).map (·.1)).map PyData.str) [x0, some (.d (.str k)), x2, x3, x4, none]
  | [] => rfl
  | p :: ps => by
    have ih := kind_of (C := C) (x0 := x0) (x1 := x1) (x2 := x2) (x3 := x3) (x4 := x4) k ps
    have e1 : tO2 cEq (.ex (eO2 fIx (.vr 5) (.ex (eC (.int 1))))) (.vr 1) [x0, some (.d (.str k)), x2, x3, x4, some (.d (vpD p))] = .ok (p.2 == k) [x0, some (.d (.str k)), x2, x3, x4, some (.d (vpD p))] := by
      push_cast [vpD_1]
    have e2 : eO2 fIx (.vr 5) (.ex (eC (.int 0))) [x0, some (.d (.str k)), x2, x3, x4, some (.d (vpD p))] = .ok (.d (.str p.1)) [x0, some (.d (.str k)), x2, x3, x4, some (.d (vpD p))] := by
      push_cast [vpD_0]
    rw [List.map_cons, cmpL_c, show tgN 5 (vpD p) [x0, some (.d (.str k)), x2, x3, x4, none] = some [x0, some (.d (.str k)), x2, x3, x4, some (.d (vpD p))] from rfl, kc0_s, e1]
    cases hb : p.2 == k with
    | true =>
      rw [kc1_t, e2, kc2_ok, show wipeE [x0, some (.d (.str k)), x2, x3, x4, some (.d (vpD p))] [5] = [x0, some (.d (.str k)), x2, x3, x4, none] from rfl, ih, List.filter_cons, if_pos hb]
      rfl
    | false =>
      rw [kc1_f, show wipeE [x0, some (.d (.str k)), x2, x3, x4, some (.d (vpD p))] [5] = [x0, some (.d (.str k)), x2, x3, x4, none] from rfl, ih, List.filter_cons, if_neg (by rw [hb]; decide)]
structure VO (ps : List (Str × Str)) (os : List Str) : Prop where
  pl : ps.length ≤ 1000
  pn : ∀ p ∈ ps, p.1.length ≤ 100 ∧ sk p.1 = true
  ol : os.length ≤ 1000
  oe : os ≠ []
  on : ∀ s ∈ os, s.length ≤ 100
theorem kSeq_rt {a b : MS} {e e' : Env} {w : W} (h : a e = .ok (.rt w) e') : sSeq a b e = .ok (.rt w) e' := by unfold sSeq; rw [h]; rfl
def leafR (C : Orc) : MS :=
 (sSeq (sIf (tO2 cEq (.vr 1) (.ex (eC (.str "option"))))
 (sRet (eTup [(eC (.str "option")), (eO2 fIx (.vr 3) (.ex (eCall C 5 [.rf 0, .vl (eB bLen [(.vr 3)])])))]))
 sNx)
 (sSeq (sIf (tO2 cEq (.vr 1) (.ex (eC (.str "condition"))))
 (sRet (eO2 fIx (.ex (eLst [(eTup [(eC (.str "true"))]), (eTup [(eC (.str "false"))])])) (.ex (eCall C 5 [.rf 0, .vl (eC (.int 2))]))))
 sNx)
 (sRet (eTup [(eC (.str "number")), (eCall C 5 [.rf 0, .vl (eO2 fIx (.ex (eLst [(eC (.int 2)), (eC (.int 4)), (eC (.int 10)), (eC (.int 1000000))])) (.ex (eCall C 5 [.rf 0, .vl (eC (.int 4))])))])]))))
def LeafS (C : Orc) (V O : D) : Prop := ∀ t, TapeOk t → ∀ k : Str, ∃ (e : Tm) (t' : List D), C 43 [.l t, .d (.str k), .d V, .d O] = .ok (.d e.dat) [.l t'] ∧ TapeOk t' ∧ e.Ok 1 1
def WildS (C : Orc) (V O : D) (d : Nat) : Prop := ∀ t, TapeOk t → ∀ p : Nat, 1 ≤ p → p ≤ 60 → ∃ (e : Tm) (t' : List D), C 44 [.l t, .d V, .d O, .d (.int (p : Int)), .d (.int (d : Int))] = .ok (.d e.dat) [.l t'] ∧ TapeOk t' ∧ e.Ok p d
theorem Tm.Ok.mono {e : Tm} {n d n' d' : Nat} (h : e.Ok n d) (h1 : n ≤ n') (h2 : d ≤ d') : e.Ok n' d' := ⟨h.ok, Nat.le_trans h.nds h1, Nat.le_trans h.dep h2⟩
def chainOps : List Str := ["minus", "not", "minus", "not", "+", "-", "*", "=", "!=", "<", "<=", ">", ">=", "and", "or", "implies"]
def ChainS (C : Orc) (V O : D) : Prop := ∀ t, TapeOk t → ∀ n : Nat, n ≤ 100 → ∃ (e : Tm) (t' : List D), C 45 [.l t, .d V, .d O, .d (.int (n : Int))] = .ok (.d e.dat) [.l t'] ∧ TapeOk t' ∧ e.Ok (1 + 2 * n) (1 + n)
/-! ### parts and depth -/
def Tm.kids : Tm → List Tm
  | .un _ e => [e]
  | .bi _ a b => [a, b]
  | _ => []
def Tm.tag : Tm → Str
  | .tt t => t
  | .lf t _ => t
  | .un o _ => o
  | .bi o _ _ => o
def Tm.leaf : Tm → Bool
  | .tt _ => true
  | .lf _ _ => true
  | _ => false
def Tm.parts : Tm → List Tm
  | .un o e => .un o e :: e.parts
  | .bi o a b => .bi o a b :: (a.parts ++ b.parts)
  | e => [e]
theorem cutD_one {x : D} {xs : List D} : cutD (x :: xs) (some 1) none = xs := by
  unfold cutD
  have e1 : HT.sIx (x :: xs).length 0 (some 1) = 1 := by
    unfold HT.sIx
    simp
    try omega
  have e2 : HT.sIx (x :: xs).length (x :: xs).length none = (x :: xs).length := rfl
  rw [e1, e2]
  simp
theorem Tm.rest {e : Tm} (h : e.leaf = false) : fSl (some 1) none e.dat = some (.d (.tuple (e.kids.map Tm.dat))) := by
  cases e with
  | tt t => cases h
  | lf t d => cases h
  | un o e => exact congrArg (fun z => some (W.d (.tuple z))) cutD_one
  | bi o a b => exact congrArg (fun z => some (W.d (.tuple z))) cutD_one
theorem fAdd_li {xs ys : List D} (h : xs.length + ys.length ≤ 16777216) : fAdd (.list xs) (.list ys) = some (.l (xs ++ ys)) := if_pos h
def PartsS (C : Orc) (d : Nat) : Prop := ∀ e : Tm, e.ok → e.dep ≤ d → e.nds ≤ 100000 → C 47 [.d e.dat] = .ok (.d (.list (e.parts.map Tm.dat))) []
def DepthS (C : Orc) (d : Nat) : Prop := ∀ e : Tm, e.ok → e.dep ≤ d → C 48 [.d e.dat] = .ok (.d (.int (e.dep : Int))) []
end Mi
set_option Elab.async false
set_option linter.all false
set_option maxRecDepth 100000
set_option maxHeartbeats 4000000
namespace Mi
open PySem L2
local macro_rules | `(tactic| push_cast [$hs,*]) => `(tactic| simp -implicitDefEqProofs (disch := first | omega | (simp only [rng_len, List.length_map, List.length_append, List.length_range, List.length_replicate, List.length_cons, List.length_nil, List.length_set, List.length_reverse, List.length_zipIdx]; omega)) only [ev_seq, ev_if, ev_ifE, ev_nx, ev_bk, ev_ct, ev_E, ev_set, ev_tg, ev_ret, ev_retO, ev_retN, ev_put, ev_for, ev_C, ev_V, ev_vr, ev_ex, ev_o1, ev_o2, ev_t2, ev_tru, ev_and, ev_or, ev_not, ev_yes, ev_andE, ev_orE, ev_notE, ev_LN, ev_LC, ev_B, ev_TN, ev_TC, ev_tup, ev_lst, ev_GN, ev_GV, ev_GR, ev_call, ev_mu, ev_lc, ev_any, ev_r1, ev_r2, ev_rep, kS_nx, kS_bk, kS_ct, kS_rt, kIf_t, kIf_f, kM_ok, kSet_ok, kAnd_t, kAnd_f, kOr_t, kOr_f, kAndE_t, kAndE_f, kOrE_t, kOrE_f, kNotE_b, oVr_s, kO2_ok, kO2'_ok, g2_ss, gv_l, gv_r, kL_ok, kL'_ok, kB_ok, gB_s, gvL_n, gvL_c, kV_ss, kT_ok, kT'_ok, kG_ok, kG'_ok, gG_l, gG_t, gG_d, kC_ok, kC1_s, kC2_ok, kP_s, take_n, take_l, take_r, put_n, put_l, put_r, pt1_s, kPut1_ok, kPut2_ok, isL_l, kMu_ok, kFor_ok, kSeqI_l, kSeqI_l', kSeqI_t, kR2_ok, kRep_ok, rV_d, rV_l, cont_n, cont_c, ct1_s, wp_ok, wpC_ok, atI_0, atI_1, atI_2, atI_3, fIx_l, fIx_t, List.length_cons, List.length_nil, Nat.zero_add, Nat.reduceAdd, Int.reduceLT, Int.reduceLE, Int.reduceAdd, Int.reduceMul, Int.reduceToNat, Int.reduceNeg, Int.reduceSub, Nat.reduceLT, Nat.reduceLeDiff, Nat.reduceMul, gt_iff_lt, ge_iff_le, ixN_4_0, ixN_4_1, ixN_4_2, ixN_4_3, wipe_n, wipe_c, tgN_r, tgT_r, tgL_n, tgL_c, ofO_some, vw_d, vw_l, fAddI_int, fSub_int, fNeg_int, fMod_p, fMul_31, fMul_48271, fMul_69621, fPow18, fPow9, cCmp_int, cEq_int, cNe_int, cEq_str, cNe_str, cOrd_int, ev_aug, kAug_ok, ev_en, kEn_t, fIs_int, fIs_bool, fIs_none, fIs_str, fIs_list, fIs_tuple, isTy_int_int, isTy_int_bool, isTy_tuple_tuple, cIs_none, cIsNot_none, isNone_none, isNone_int, isNone_str, isNone_tuple, isNone_list, isNone_bool, truD_l, truD_t, truD_b, truD_n, bLen_l, bLen_t, bAbs_int, bInt_int, bMax_int, bMin_int, bList_l, bList_t, bTuple_l, bTuple_t, Option.map_some, Option.bind_some, List.getD_cons_zero, List.getD_cons_succ, List.set_cons_zero, List.set_cons_succ, if_true, if_false, lB, ↓reduceIte, Bool.not_true, Bool.not_false, kO1_ok, g1_s, kTru_ok, vf_d, vf_l, tk1_s, tkW_s, isO_l, isO_t, kF_ok, endF_r, endF_n, kF_ex, endX_s, rV_t, lpos_n, lpos_l, lpos_t, lpos_d, fAdd_int, ev_pN, ev_pS, kP1_i, ev_sl, kSl_ok, kSl2_ok, kSl3_ok, fSl_l, fSl_t, fRev_l, fRev_t, kR1_c, kR1_n, kR2_c, kLc_c, kRep2_n, gPut_n, gPut_c, gMu_app, rep_n, vw_d, List.length_map, List.length_range, rng_len, Int.toNat_natCast, beq_self_eq_true, Bool.not_true, Bool.not_false, Option.isNone_none, Option.isNone_some, decide_true, decide_false, ev_forN, List.isEmpty_nil, List.isEmpty_cons, kTg_2, kTg_3, ev_mv, gMv_s, ev_rvA, kRvA_t, kRvA_d, kRvA_l, ev_g1, kg1_i, ev_g2, kg2a_i, kg2_i, fNotT_l, fNotT_b, ev_tupR, ev_lstR, kTupR_s, kLstR_s, ev_rvR, kRvR_s, ev_rgD, kRgD_n, bRng1_i, ev_getD_S, kGetD0_s_S, kGetD_ok_S, gGet_s_S, ev_inD_S, kInD_ok_S, gIn_s_S, ev_putD_S, kPutD0_s_S, kPutD1_ok_S, kPutD2_ok_S, gPutD_s_S, kvI_w_S, kvI_d_S, vw_dc_S, $hs,*])
/-! ### words (printed by mkrows.py) -/
theorem kin_number : (("number" : Str) == "option") = false ∧ (("number" : Str) == "condition") = false := by decide +kernel
/-! ### values of terms -/
inductive Vl where
  | i (n : Int)
  | s (x : Str)
  | b (x : Bool)
def Vl.dat : Vl → D
  | .i n => .int n
  | .s x => .str x
  | .b x => .bool x
def Vl.kd : Vl → Str
  | .i _ => "number"
  | .s _ => "option"
  | .b _ => "condition"
/-- a value that a variable may have -/
def Vl.Bd : Vl → Prop
  | .i n => n.natAbs ≤ 1000000
  | .s x => x.length ≤ 100 ∧ sk x = true
  | .b _ => False
inductive Evl (g : Str → Option Vl) : Tm → Vl → Prop
  | num (n : Nat) (h : n ≤ 1000000) : Evl g (.lf "number" (natD n)) (.i n)
  | opt (x : Str) (h : x.length ≤ 100) (k : sk x = true) : Evl g (.lf "option" (.str x)) (.s x)
  | var (x : Str) (v : Vl) (h : g x = some v) (b : v.Bd) (h1 : x.length ≤ 100) (h2 : sk x = true) : Evl g (.lf "variable" (.str x)) v
  | tt : Evl g (.tt "true") (.b true)
  | ff : Evl g (.tt "false") (.b false)
  | neg {e : Tm} {a : Int} (h : Evl g e (.i a)) : Evl g (.un "minus" e) (.i (-a))
  | nt {e : Tm} {a : Bool} (h : Evl g e (.b a)) : Evl g (.un "not" e) (.b (!a))
  | add {e f : Tm} {a b : Int} (h : Evl g e (.i a)) (k : Evl g f (.i b)) : Evl g (.bi "+" e f) (.i (a + b))
  | sub {e f : Tm} {a b : Int} (h : Evl g e (.i a)) (k : Evl g f (.i b)) : Evl g (.bi "-" e f) (.i (a - b))
  | mul {e f : Tm} {a b : Int} (h : Evl g e (.i a)) (k : Evl g f (.i b)) : Evl g (.bi "*" e f) (.i (a * b))
  | and {e f : Tm} {a b : Bool} (h : Evl g e (.b a)) (k : Evl g f (.b b)) : Evl g (.bi "and" e f) (.b (a && b))
  | or {e f : Tm} {a b : Bool} (h : Evl g e (.b a)) (k : Evl g f (.b b)) : Evl g (.bi "or" e f) (.b (a || b))
  | imp {e f : Tm} {a b : Bool} (h : Evl g e (.b a)) (k : Evl g f (.b b)) : Evl g (.bi "implies" e f) (.b (b || !a))
  | eqi {e f : Tm} {a b : Int} (h : Evl g e (.i a)) (k : Evl g f (.i b)) : Evl g (.bi "=" e f) (.b (a == b))
  | eqs {e f : Tm} {a b : Str} (h : Evl g e (.s a)) (k : Evl g f (.s b)) : Evl g (.bi "=" e f) (.b (a == b))
  | nei {e f : Tm} {a b : Int} (h : Evl g e (.i a)) (k : Evl g f (.i b)) : Evl g (.bi "!=" e f) (.b (!(a == b)))
  | nes {e f : Tm} {a b : Str} (h : Evl g e (.s a)) (k : Evl g f (.s b)) : Evl g (.bi "!=" e f) (.b (!(a == b)))
  | lt {e f : Tm} {a b : Int} (h : Evl g e (.i a)) (k : Evl g f (.i b)) : Evl g (.bi "<" e f) (.b (decide (a < b)))
  | le {e f : Tm} {a b : Int} (h : Evl g e (.i a)) (k : Evl g f (.i b)) : Evl g (.bi "<=" e f) (.b (decide (a ≤ b)))
  | gt {e f : Tm} {a b : Int} (h : Evl g e (.i a)) (k : Evl g f (.i b)) : Evl g (.bi ">" e f) (.b (decide (b < a)))
  | ge {e f : Tm} {a b : Int} (h : Evl g e (.i a)) (k : Evl g f (.i b)) : Evl g (.bi ">=" e f) (.b (decide (b ≤ a)))
theorem ops_lvs : ∀ o ∈ (["minus", "not", "+", "-", "*", "and", "or", "implies", "=", "!=", "<", "<=", ">", ">="] : List Str), o ∉ lvs := by decide +kernel
theorem Evl.ok {g : Str → Option Vl} {e : Tm} {v : Vl} (h : Evl g e v) : e.ok := by
  induction h with
  | num n h => exact ⟨by decide +kernel, .inr ⟨by decide +kernel, n, rfl, h⟩⟩
  | opt x h k => exact ⟨by decide +kernel, .inl ⟨x, rfl, h, fun z => absurd z (by decide +kernel)⟩⟩
  | var x v h b h1 h2 => exact ⟨by decide +kernel, .inl ⟨x, rfl, h1, fun _ => h2⟩⟩
  | tt => exact ⟨by decide +kernel, by decide +kernel⟩
  | ff => exact ⟨by decide +kernel, by decide +kernel⟩
  | neg h ih => exact ⟨ops_lvs _ (by decide +kernel), ih⟩
  | nt h ih => exact ⟨ops_lvs _ (by decide +kernel), ih⟩
  | _ h k ih ik => exact ⟨ops_lvs _ (by decide +kernel), ih, ik⟩
theorem abs_add {a b : Int} {m n : Nat} (ha : a.natAbs < 2 ^ (21 * m)) (hb : b.natAbs < 2 ^ (21 * n)) : (a + b).natAbs < 2 ^ (21 * (1 + (m + n))) := by
  have h1 : 2 ^ (21 * m) ≤ 2 ^ (21 * (m + n)) := Nat.pow_le_pow_right (by decide) (by omega)
  have h2 : 2 ^ (21 * n) ≤ 2 ^ (21 * (m + n)) := Nat.pow_le_pow_right (by decide) (by omega)
  have h3 : 2 ^ (21 * (m + n) + 1) ≤ 2 ^ (21 * (1 + (m + n))) := Nat.pow_le_pow_right (by decide) (by omega)
  rw [Nat.pow_succ] at h3
  omega
theorem abs_mul {a b : Int} {m n : Nat} (ha : a.natAbs < 2 ^ (21 * m)) (hb : b.natAbs < 2 ^ (21 * n)) : (a * b).natAbs < 2 ^ (21 * (1 + (m + n))) := by
  have h3 : 2 ^ (21 * m + 21 * n) ≤ 2 ^ (21 * (1 + (m + n))) := Nat.pow_le_pow_right (by decide) (by omega)
  rw [Int.natAbs_mul]
  rw [Nat.pow_add] at h3
  exact Nat.lt_of_lt_of_le (Nat.mul_lt_mul'' ha hb) h3
def Vl.Small (m : Nat) : Vl → Prop
  | .i n => n.natAbs < 2 ^ (21 * m)
  | _ => True
theorem Evl.small {g : Str → Option Vl} {e : Tm} {v : Vl} (h : Evl g e v) : v.Small e.nds := by
  induction h with
  | num n h => show (n : Int).natAbs < 2 ^ (21 * 1); rw [show (2 : Nat) ^ (21 * 1) = 2097152 from rfl]; omega
  | opt x h => trivial
  | var x v h b h1 h2 =>
    cases v with
    | i n => show n.natAbs < 2 ^ (21 * 1); rw [show (2 : Nat) ^ (21 * 1) = 2097152 from rfl]; have : n.natAbs ≤ 1000000 := b; omega
    | s x => trivial
    | b x => trivial
  | neg h ih =>
    rename_i e a
    show (-a).natAbs < 2 ^ (21 * (1 + e.nds))
    have h1 : 2 ^ (21 * e.nds) ≤ 2 ^ (21 * (1 + e.nds)) := Nat.pow_le_pow_right (by decide) (by omega)
    have ih : a.natAbs < 2 ^ (21 * e.nds) := ih
    omega
  | add h k ih ik => exact abs_add ih ik
  | sub h k ih ik =>
    rename_i e f a b
    have ik : b.natAbs < 2 ^ (21 * f.nds) := ik
    show (a + -b).natAbs < _
    exact abs_add ih (by omega)
  | mul h k ih ik => exact abs_mul ih ik
  | _ => trivial
/-- the names that occur -/
def Tm.vn : Tm → Option Str
  | .lf t (.str s) => if t = "variable" then some s else none
  | _ => none
def Tm.occ (e : Tm) : List Str := e.parts.filterMap Tm.vn
theorem occ_var (x : Str) : (Tm.lf "variable" (.str x)).occ = [x] := by
  show List.filterMap Tm.vn [Tm.lf "variable" (.str x)] = [x]
  have h : (Tm.lf "variable" (.str x)).vn = some x := by simp [Tm.vn]
  rw [List.filterMap_cons, h]; rfl
theorem Evl.congr {g g' : Str → Option Vl} {e : Tm} {v : Vl} (h : Evl g e v) : (∀ x ∈ e.occ, ∀ w, g x = some w → g' x = some w) → Evl g' e v := by
  have un : ∀ (o : Str) (e : Tm), ∀ x, x ∈ e.occ → x ∈ (Tm.un o e).occ := fun o e x hx => by
    unfold Tm.occ at *; rw [Tm.parts, List.filterMap_cons]; exact hx
  have bi : ∀ (o : Str) (e f : Tm), ∀ x, x ∈ e.occ ∨ x ∈ f.occ → x ∈ (Tm.bi o e f).occ := fun o e f x hx => by
    unfold Tm.occ at *; rw [Tm.parts, List.filterMap_cons]
    show x ∈ List.filterMap Tm.vn (e.parts ++ f.parts)
    rw [List.filterMap_append, List.mem_append]; exact hx
  induction h with
  | num n h => exact fun _ => .num n h
  | opt x h k => exact fun _ => .opt x h k
  | var x v h b h1 h2 => exact fun q => .var x v (q x (by rw [occ_var]; exact List.mem_singleton.mpr rfl) v h) b h1 h2
  | tt => exact fun _ => .tt
  | ff => exact fun _ => .ff
  | neg h ih => exact fun q => .neg (ih fun x hx => q x (un _ _ x hx))
  | nt h ih => exact fun q => .nt (ih fun x hx => q x (un _ _ x hx))
  | add h k ih ik => exact fun q => .add (ih fun x hx => q x (bi _ _ _ x (.inl hx))) (ik fun x hx => q x (bi _ _ _ x (.inr hx)))
  | sub h k ih ik => exact fun q => .sub (ih fun x hx => q x (bi _ _ _ x (.inl hx))) (ik fun x hx => q x (bi _ _ _ x (.inr hx)))
  | mul h k ih ik => exact fun q => .mul (ih fun x hx => q x (bi _ _ _ x (.inl hx))) (ik fun x hx => q x (bi _ _ _ x (.inr hx)))
  | and h k ih ik => exact fun q => .and (ih fun x hx => q x (bi _ _ _ x (.inl hx))) (ik fun x hx => q x (bi _ _ _ x (.inr hx)))
  | or h k ih ik => exact fun q => .or (ih fun x hx => q x (bi _ _ _ x (.inl hx))) (ik fun x hx => q x (bi _ _ _ x (.inr hx)))
  | imp h k ih ik => exact fun q => .imp (ih fun x hx => q x (bi _ _ _ x (.inl hx))) (ik fun x hx => q x (bi _ _ _ x (.inr hx)))
  | eqi h k ih ik => exact fun q => .eqi (ih fun x hx => q x (bi _ _ _ x (.inl hx))) (ik fun x hx => q x (bi _ _ _ x (.inr hx)))
  | eqs h k ih ik => exact fun q => .eqs (ih fun x hx => q x (bi _ _ _ x (.inl hx))) (ik fun x hx => q x (bi _ _ _ x (.inr hx)))
  | nei h k ih ik => exact fun q => .nei (ih fun x hx => q x (bi _ _ _ x (.inl hx))) (ik fun x hx => q x (bi _ _ _ x (.inr hx)))
  | nes h k ih ik => exact fun q => .nes (ih fun x hx => q x (bi _ _ _ x (.inl hx))) (ik fun x hx => q x (bi _ _ _ x (.inr hx)))
  | lt h k ih ik => exact fun q => .lt (ih fun x hx => q x (bi _ _ _ x (.inl hx))) (ik fun x hx => q x (bi _ _ _ x (.inr hx)))
  | le h k ih ik => exact fun q => .le (ih fun x hx => q x (bi _ _ _ x (.inl hx))) (ik fun x hx => q x (bi _ _ _ x (.inr hx)))
  | gt h k ih ik => exact fun q => .gt (ih fun x hx => q x (bi _ _ _ x (.inl hx))) (ik fun x hx => q x (bi _ _ _ x (.inr hx)))
  | ge h k ih ik => exact fun q => .ge (ih fun x hx => q x (bi _ _ _ x (.inl hx))) (ik fun x hx => q x (bi _ _ _ x (.inr hx)))
/-- variables written out -/
def wrI (n : Int) : Tm := if n < 0 then .un "minus" (.lf "number" (natD n.natAbs)) else .lf "number" (natD n.natAbs)
def wrV : Vl → Tm
  | .s x => .lf "option" (.str x)
  | .i n => wrI n
  | .b _ => .tt "true"
def wr (g : Str → Option Vl) : Tm → Tm
  | .tt t => .tt t
  | .lf t d => if t = "variable" then (match d with
    | .str s => (match g s with
      | some v => wrV v
      | none => .lf t d)
    | _ => .lf t d) else .lf t d
  | .un o e => .un o (wr g e)
  | .bi o a b => .bi o (wr g a) (wr g b)
theorem Evl.wrV {g : Str → Option Vl} {v : Vl} (h : v.Bd) : Evl g (wrV v) v := by
  cases v with
  | i n =>
    show Evl g (wrI n) (.i n)
    unfold wrI
    have h : n.natAbs ≤ 1000000 := h
    by_cases c : n < 0
    · rw [if_pos c]
      have := Evl.neg (g := g) (.num n.natAbs h)
      rwa [show -((n.natAbs : Nat) : Int) = n by omega] at this
    · rw [if_neg c]
      have := Evl.num (g := g) n.natAbs h
      rwa [show ((n.natAbs : Nat) : Int) = n by omega] at this
  | s x => exact .opt x h.1 h.2
  | b x => exact h.elim
theorem Evl.wr {g g' : Str → Option Vl} {e : Tm} {v : Vl} (h : Evl g e v) : Evl g' (wr g e) v := by
  induction h with
  | num n h => unfold Mi.wr; rw [if_neg (by decide +kernel)]; exact .num n h
  | opt x h k => unfold Mi.wr; rw [if_neg (by decide +kernel)]; exact .opt x h k
  | var x v h b h1 h2 => unfold Mi.wr; rw [if_pos rfl]; dsimp only; rw [h]; exact Evl.wrV b
  | tt => exact .tt
  | ff => exact .ff
  | neg h ih => exact .neg ih
  | nt h ih => exact .nt ih
  | add h k ih ik => exact .add ih ik
  | sub h k ih ik => exact .sub ih ik
  | mul h k ih ik => exact .mul ih ik
  | and h k ih ik => exact .and ih ik
  | or h k ih ik => exact .or ih ik
  | imp h k ih ik => exact .imp ih ik
  | eqi h k ih ik => exact .eqi ih ik
  | eqs h k ih ik => exact .eqs ih ik
  | nei h k ih ik => exact .nei ih ik
  | nes h k ih ik => exact .nes ih ik
  | lt h k ih ik => exact .lt ih ik
  | le h k ih ik => exact .le ih ik
  | gt h k ih ik => exact .gt ih ik
  | ge h k ih ik => exact .ge ih ik
theorem bInt_t : bInt [.bool true] = some (.d (.int 1)) := rfl
theorem bInt_f : bInt [.bool false] = some (.d (.int 0)) := rfl
end Mi
set_option Elab.async false
set_option linter.all false
set_option maxRecDepth 100000
set_option maxHeartbeats 4000000
namespace Mi
open PySem L2
local macro_rules | `(tactic| push_cast [$hs,*]) => `(tactic| simp -implicitDefEqProofs (disch := first | omega | (simp only [rng_len, List.length_map, List.length_append, List.length_range, List.length_replicate, List.length_cons, List.length_nil, List.length_set, List.length_reverse, List.length_zipIdx]; omega)) only [ev_seq, ev_if, ev_ifE, ev_nx, ev_bk, ev_ct, ev_E, ev_set, ev_tg, ev_ret, ev_retO, ev_retN, ev_put, ev_for, ev_C, ev_V, ev_vr, ev_ex, ev_o1, ev_o2, ev_t2, ev_tru, ev_and, ev_or, ev_not, ev_yes, ev_andE, ev_orE, ev_notE, ev_LN, ev_LC, ev_B, ev_TN, ev_TC, ev_tup, ev_lst, ev_GN, ev_GV, ev_GR, ev_call, ev_mu, ev_lc, ev_any, ev_r1, ev_r2, ev_rep, kS_nx, kS_bk, kS_ct, kS_rt, kIf_t, kIf_f, kM_ok, kSet_ok, kAnd_t, kAnd_f, kOr_t, kOr_f, kAndE_t, kAndE_f, kOrE_t, kOrE_f, kNotE_b, oVr_s, kO2_ok, kO2'_ok, g2_ss, gv_l, gv_r, kL_ok, kL'_ok, kB_ok, gB_s, gvL_n, gvL_c, kV_ss, kT_ok, kT'_ok, kG_ok, kG'_ok, gG_l, gG_t, gG_d, kC_ok, kC1_s, kC2_ok, kP_s, take_n, take_l, take_r, put_n, put_l, put_r, pt1_s, kPut1_ok, kPut2_ok, isL_l, kMu_ok, kFor_ok, kSeqI_l, kSeqI_l', kSeqI_t, kR2_ok, kRep_ok, rV_d, rV_l, cont_n, cont_c, ct1_s, wp_ok, wpC_ok, atI_0, atI_1, atI_2, atI_3, fIx_l, fIx_t, List.length_cons, List.length_nil, Nat.zero_add, Nat.reduceAdd, Int.reduceLT, Int.reduceLE, Int.reduceAdd, Int.reduceMul, Int.reduceToNat, Int.reduceNeg, Int.reduceSub, Nat.reduceLT, Nat.reduceLeDiff, Nat.reduceMul, gt_iff_lt, ge_iff_le, ixN_4_0, ixN_4_1, ixN_4_2, ixN_4_3, wipe_n, wipe_c, tgN_r, tgT_r, tgL_n, tgL_c, ofO_some, vw_d, vw_l, fAddI_int, fSub_int, fNeg_int, fMod_p, fMul_31, fMul_48271, fMul_69621, fPow18, fPow9, cCmp_int, cEq_int, cNe_int, cEq_str, cNe_str, cOrd_int, ev_aug, kAug_ok, ev_en, kEn_t, fIs_int, fIs_bool, fIs_none, fIs_str, fIs_list, fIs_tuple, isTy_int_int, isTy_int_bool, isTy_tuple_tuple, cIs_none, cIsNot_none, isNone_none, isNone_int, isNone_str, isNone_tuple, isNone_list, isNone_bool, truD_l, truD_t, truD_b, truD_n, bLen_l, bLen_t, bAbs_int, bInt_int, bMax_int, bMin_int, bList_l, bList_t, bTuple_l, bTuple_t, Option.map_some, Option.bind_some, List.getD_cons_zero, List.getD_cons_succ, List.set_cons_zero, List.set_cons_succ, if_true, if_false, lB, ↓reduceIte, Bool.not_true, Bool.not_false, kO1_ok, g1_s, kTru_ok, vf_d, vf_l, tk1_s, tkW_s, isO_l, isO_t, kF_ok, endF_r, endF_n, kF_ex, endX_s, rV_t, lpos_n, lpos_l, lpos_t, lpos_d, fAdd_int, ev_pN, ev_pS, kP1_i, ev_sl, kSl_ok, kSl2_ok, kSl3_ok, fSl_l, fSl_t, fRev_l, fRev_t, kR1_c, kR1_n, kR2_c, kLc_c, kRep2_n, gPut_n, gPut_c, gMu_app, rep_n, vw_d, List.length_map, List.length_range, rng_len, Int.toNat_natCast, beq_self_eq_true, Bool.not_true, Bool.not_false, Option.isNone_none, Option.isNone_some, decide_true, decide_false, ev_forN, List.isEmpty_nil, List.isEmpty_cons, kTg_2, kTg_3, ev_mv, gMv_s, ev_rvA, kRvA_t, kRvA_d, kRvA_l, ev_g1, kg1_i, ev_g2, kg2a_i, kg2_i, fNotT_l, fNotT_b, ev_tupR, ev_lstR, kTupR_s, kLstR_s, ev_rvR, kRvR_s, ev_rgD, kRgD_n, bRng1_i, ev_getD_S, kGetD0_s_S, kGetD_ok_S, gGet_s_S, ev_inD_S, kInD_ok_S, gIn_s_S, ev_putD_S, kPutD0_s_S, kPutD1_ok_S, kPutD2_ok_S, gPutD_s_S, kvI_w_S, kvI_d_S, vw_dc_S, $hs,*])
/-- _law_expression -/
def M415 (C : Orc) : MS :=
 (sSeq (sSet 6 (eCall C 5 [.rf 0, .vl (eC (.int 12))]))
 (sSeq (sIf (tOr' (tO2 cEq (.vr 1) (.ex (eC (.str "option")))) (tOr' (tO2 cEq (.vr 4) (.ex (eC (.int 1)))) (tOr' (tO2 cEq (.vr 5) (.ex (eC (.int 1)))) (tO2 cEq (.vr 6) (.ex (eC (.int 11)))))))
 (sRet (eCall C 43 [.rf 0, .vl (eV 1), .vl (eV 2), .vl (eV 3)]))
 sNx)
 (sSeq (sIf (tOr' (tO2 cLt (.vr 6) (.ex (eC (.int 2)))) (tO2 cEq (.vr 4) (.ex (eC (.int 2)))))
 (sSeq (sSet 7 (eCall C 415 [.rf 0, .vl (eV 1), .vl (eV 2), .vl (eV 3), .vl (eO2 fSub (.vr 4) (.ex (eC (.int 1)))), .vl (eO2 fSub (.vr 5) (.ex (eC (.int 1))))]))
 (sRet (eTup [(eO2 fIx (.ex (eLst [(eC (.str "minus")), (eC (.str "not"))])) (.ex (eB bInt [(.ex (eO2 (lB cEq) (.vr 1) (.ex (eC (.str "condition")))))]))), (eV 7)])))
 sNx)
 (sSeq (sSet 8 (eO2 fAddI (.ex (eC (.int 1))) (.ex (eCall C 5 [.rf 0, .vl (eO2 fSub (.vr 4) (.ex (eC (.int 2))))]))))
 (sSeq (sSet 9 (eC (.str "number")))
 (sSeq (sSet 10 (eO2 fIx (.ex (eLst [(eC (.str "+")), (eC (.str "-")), (eC (.str "*"))])) (.ex (eO2 fMod (.ex (eB bInt [(.vr 6)])) (.ex (eC (.int 3)))))))
 (sSeq (sIf (tO2 cEq (.vr 1) (.ex (eC (.str "condition"))))
 (sSeq (sSet 10 (eO2 fIx (.ex (eLst [(eC (.str "and")), (eC (.str "or")), (eC (.str "implies")), (eC (.str "and")), (eC (.str "or")), (eC (.str "=")), (eC (.str "!=")), (eC (.str "<")), (eC (.str ">"))])) (.ex (eO2 fSub (.vr 6) (.ex (eC (.int 2)))))))
 (sIf (tO2 cLt (.vr 6) (.ex (eC (.int 7))))
 (sSet 9 (eC (.str "condition")))
 (sIf (tO2 cLt (.vr 6) (.ex (eC (.int 9))))
 (sSet 9 (eO2 fIx (.ex (eLst [(eC (.str "number")), (eC (.str "option"))])) (.ex (eCall C 5 [.rf 0, .vl (eC (.int 2))]))))
 (sSet 10 (eO2 fAdd (.vr 10) (.ex (eO2 fIx (.ex (eLst [(eC (.str "")), (eC (.str "="))])) (.ex (eCall C 5 [.rf 0, .vl (eC (.int 2))])))))))))
 sNx)
 (sSeq (sSet 11 (eCall C 415 [.rf 0, .vl (eV 9), .vl (eV 2), .vl (eV 3), .vl (eV 8), .vl (eO2 fSub (.vr 5) (.ex (eC (.int 1))))]))
 (sRet (eTup [(eV 10), (eV 11), (eCall C 415 [.rf 0, .vl (eV 9), .vl (eV 2), .vl (eV 3), .vl (eO2 fSub (.ex (eO2 fSub (.vr 4) (.ex (eC (.int 1))))) (.vr 8)), .vl (eO2 fSub (.vr 5) (.ex (eC (.int 1))))])]))))))))))
def F415 (C : Orc) : List W → CRes := runF 6 12 [[0]] (M415 C)
/-! ### the generators told with more (printed by mk31.py out of lib17*.body) -/
theorem option_ok1 (C : Orc) (hD : DrawS C) {t : List D} (ht : TapeOk t) : ∃ (s : Str) (t' : List D), F41 C [.l t] = .ok (.d (.str s)) [.l t'] ∧ TapeOk t' ∧ s.length ≤ 40 ∧ sk s = true := by
  have run : WpC (F41 C [.l t]) fun w o => ∃ (s : Str) (t' : List D), w = .d (.str s) ∧ o = [.l t'] ∧ TapeOk t' ∧ s.length ≤ 40 ∧ sk s = true := by
    refine wpC_run (m := M41 C) rfl rfl rfl ?_
    simp only [List.map_cons, List.map_nil, List.cons_append, List.nil_append, List.replicate]
    unfold M41
    obtain ⟨k1, t1, h1, ht1, a1, b1⟩ := hD t ht 5 (by decide)
    obtain ⟨s0, hat, hm⟩ := at_inS (ss := ["", "", "red", "12", " "]) a1 (by simp only [List.length_cons, List.length_nil]; omega)
    have hat : atI [PyData.str "", PyData.str "", PyData.str "red", PyData.str "12", PyData.str " "] k1 = some (.str s0) := hat
    have hs0 : s0.length ≤ 10 ∧ sk s0 = true := by
      have : ∀ s ∈ (["", "", "red", "12", " "] : List Str), s.length ≤ 10 ∧ sk s = true := by decide +kernel
      exact this s0 hm
    obtain ⟨k2, t2, h2, ht2, a2, b2⟩ := hD t1 ht1 5 (by decide)
    obtain ⟨n, hat2, hn⟩ := at_inI (ns := [1, 1, 2, 4, 17]) a2 (by simp only [List.length_cons, List.length_nil]; omega)
    have hat2 : atI [PyData.int 1, PyData.int 1, PyData.int 2, PyData.int 4, PyData.int 17] k2 = some (.int n) := hat2
    have hn2 : 0 ≤ n ∧ n ≤ 17 := by
      simp only [List.mem_cons, List.not_mem_nil, or_false] at hn
      omega
    obtain ⟨m, rfl⟩ : ∃ m : Nat, n = (m : Int) := ⟨n.toNat, by omega⟩
    rw [show (Str.ofString " !#$&'()*+,-./0123456789:;<=>?@ABCDEFGHIJKLMNOPQRSTUVWXYZ[\\]^_`abcdefghijklmnopqrstuvwxyz{|}~") = sgn from rfl]
    obtain ⟨e', g1, t3, s, x3, rfl, ht3, hs3, hk3⟩ := forN_inv (tg := tgN 3) (b := M41b0 C) (n := m)
      (fun i e => ∃ (t3 : List D) (s : Str) (x3 : Option W), e = [some (.l t3), some (.d (.str sgn)), some (.d (.str s)), x3] ∧ TapeOk t3 ∧ s.length ≤ 10 + i ∧ sk s = true)
      (e := [some (.l t2), some (.d (.str sgn)), some (.d (.str s0)), none]) ⟨t2, _, _, rfl, ht2, by omega, hs0.2⟩ (fun i e hi hI => by
        obtain ⟨t3, s, x3, rfl, ht3, hs3, hk3⟩ := hI
        refine ⟨_, rfl, ?_⟩
        obtain ⟨k4, t4, h4, ht4, a4, b4⟩ := hD t3 ht3 93 (by decide)
        obtain ⟨c4, hc4, hcm⟩ := ix_chr (z := sgn) (k := k4) (by rw [sgn_len]; decide) a4 (by rw [sgn_len]; omega)
        have hl4 : (s ++ (⟨#[c4]⟩ : Str)).length = s.length + 1 := by rw [str_app]; rfl
        unfold M41b0
        push_cast [h4, hc4, fAdd_s (a := s) (b := (⟨#[c4]⟩ : Str)) (by rw [str_one]; omega)]
        exact ⟨by simp, t4, _, _, rfl, ht4, by omega, sk_app hk3 (sk_one (z := sgn) (by decide +kernel) hcm)⟩)
    push_cast [h1, hat, h2, hat2, g1]
    exact ⟨s, t3, rfl, rfl, ht3, by omega, hk3⟩
  obtain ⟨w, o, h, s, t', rfl, rfl, r⟩ := run
  exact ⟨s, t', h, r⟩
theorem sk_cut {z : Str} {lo hi : Option Int} (h : sk z = true) : sk (cutS z lo hi) = true := by
  rw [sk_iff] at *
  have h1 : ∀ x ∈ z.cps.toList, x < 1114112 := by
    intro x hx
    obtain ⟨i, hi, e⟩ := List.mem_iff_getElem.mp hx
    have h2 : ∀ (i : Nat) (x : i < z.cps.size), z.cps[i] < 1114112 := by simpa using h
    have := h2 i (by simpa using hi)
    rw [← e]; simpa using this
  unfold cutS
  simp only [List.all_toArray, List.all_eq_true, decide_eq_true_eq]
  exact fun x hx => h1 x (List.mem_of_mem_drop (List.mem_of_mem_take hx))
def Option1S (C : Orc) : Prop := ∀ t, TapeOk t → ∃ (s : Str) (t' : List D), C 41 [.l t] = .ok (.d (.str s)) [.l t'] ∧ TapeOk t' ∧ s.length ≤ 40 ∧ sk s = true
theorem options_ok1 (C : Orc) (hD : DrawS C) (hO : Option1S C) {t : List D} (ht : TapeOk t) : ∃ (ss : List Str) (t' : List D), F42 C [.l t] = .ok (.d (.list (ss.map PyData.str))) [.l t'] ∧ TapeOk t' ∧ ss.length = 3 ∧ ∀ s ∈ ss, s.length ≤ 100 ∧ sk s = true := by
  have run : WpC (F42 C [.l t]) fun w o => ∃ (ss : List Str) (t' : List D), w = .d (.list (ss.map PyData.str)) ∧ o = [.l t'] ∧ TapeOk t' ∧ ss.length = 3 ∧ ∀ s ∈ ss, s.length ≤ 100 ∧ sk s = true := by
    refine wpC_run (m := M42 C) rfl rfl rfl ?_
    simp only [List.map_cons, List.map_nil, List.cons_append, List.nil_append, List.replicate]
    unfold M42
    obtain ⟨a, t1, h1, ht1, ha⟩ := hO t ht
    obtain ⟨k2, t2, h2, ht2, a2, b2⟩ := hD t1 ht1 3 (by decide)
    obtain ⟨q, hat, hm⟩ := at_inS (ss := ["x", "~", " "]) a2 (by simp only [List.length_cons, List.length_nil]; omega)
    have hat : atI [PyData.str "x", PyData.str "~", PyData.str " "] k2 = some (.str q) := hat
    have hq : q.length ≤ 10 ∧ sk q = true := by
      have : ∀ s ∈ (["x", "~", " "] : List Str), s.length ≤ 10 ∧ sk s = true := by decide +kernel
      exact this q hm
    obtain ⟨b, t3, h3, ht3, hb⟩ := hO t2 ht2
    have hcut := cutS_len a none (some (-1))
    have e1 : fSl none (some (-1)) (.str a) = some (.d (.str (cutS a none (some (-1))))) := if_pos (by omega)
    push_cast [h1, h2, hat, h3, e1, fAdd_s (a := cutS a none (some (-1))) (b := q) (by omega)]
    refine ⟨[a, cutS a none (some (-1)) ++ q, b], t3, rfl, rfl, ht3, rfl, fun s hs => ?_⟩
    simp only [List.mem_cons, List.not_mem_nil, or_false] at hs
    rcases hs with rfl | rfl | rfl
    · exact ⟨by omega, ha.2⟩
    · exact ⟨by rw [str_app]; omega, sk_app (sk_cut ha.2) hq.2⟩
    · exact ⟨by omega, hb.2⟩
  obtain ⟨w, o, h, s, t', rfl, rfl, r⟩ := run
  exact ⟨s, t', h, r⟩
/-! ### terms of a kind -/
structure VO1 (ps : List (Str × Str)) (os : List Str) : Prop where
  pl : ps.length ≤ 1000
  pn : ∀ p ∈ ps, p.1.length ≤ 100 ∧ sk p.1 = true ∧ (p.2 = "number" ∨ p.2 = "option")
  ol : os.length ≤ 1000
  oe : os ≠ []
  on : ∀ s ∈ os, s.length ≤ 100 ∧ sk s = true
/-- values for the names -/
def GOk (ps : List (Str × Str)) (g : Str → Option Vl) : Prop := ∀ p ∈ ps, ∃ v, g p.1 = some v ∧ v.kd = p.2 ∧ v.Bd
def Tyd (ps : List (Str × Str)) (k : Str) (e : Tm) : Prop := ∀ g, GOk ps g → ∃ v, Evl g e v ∧ v.kd = k
theorem leaf_ok1 (C : Orc) (hD : DrawS C) {ps : List (Str × Str)} {os : List Str} (hv : VO1 ps os) (k : Str) (hk : k = "number" ∨ k = "option" ∨ k = "condition") {t : List D} (ht : TapeOk t) : ∃ (e : Tm) (t' : List D), F43 C [.l t, .d (.str k), .d (.list (ps.map vpD)), .d (.list (os.map PyData.str))] = .ok (.d e.dat) [.l t'] ∧ TapeOk t' ∧ e.Ok 1 1 ∧ Tyd ps k e := by
  have run : WpC (F43 C [.l t, .d (.str k), .d (.list (ps.map vpD)), .d (.list (os.map PyData.str))]) fun w o => ∃ (e : Tm) (t' : List D), w = .d e.dat ∧ o = [.l t'] ∧ TapeOk t' ∧ e.Ok 1 1 ∧ Tyd ps k e := by
    refine wpC_run (m := M43 C) rfl rfl rfl ?_
    simp only [List.map_cons, List.map_nil, List.cons_append, List.nil_append, List.replicate]
    unfold M43
    have hpl := hv.pl
    have nm := kind_of (C := C) (x0 := some (.l t)) (x1 := none) (x2 := some (.d (.list (ps.map vpD)))) (x3 := some (.d (.list (os.map PyData.str)))) (x4 := none) k ps
    obtain ⟨ns, hns⟩ : ∃ ns, ns = (ps.filter fun p => p.2 == k).map (·.1) := ⟨_, rfl⟩
    rw [← hns] at nm
    have hnl : ns.length ≤ 1000 := by rw [hns, List.length_map]; exact Nat.le_trans (List.length_filter_le _ _) hpl
    have hn40 : ∀ s ∈ ns, s.length ≤ 100 ∧ sk s = true ∧ (s, k) ∈ ps := fun s hs => by
      rw [hns] at hs
      obtain ⟨p, hp, rfl⟩ := List.mem_map.mp hs
      obtain ⟨hp1, hp2⟩ := List.mem_filter.mp hp
      have e : p.2 = k := eq_of_beq hp2
      exact ⟨(hv.pn p hp1).1, (hv.pn p hp1).2.1, by rw [← e]; exact hp1⟩
    rw [sSeq_step (e' := [some (.l t), some (.d (.str k)), some (.d (.list (ps.map vpD))), some (.d (.list (os.map PyData.str))), some (.l (ns.map PyData.str)), none]) (by push_cast [nm])]
    -- the rest, where no name is taken
    have rest : ∀ t1, TapeOk t1 → ∀ y4 : Option W, Wp (leafR C [some (.l t1), some (.d (.str k)), some (.d (.list (ps.map vpD))), some (.d (.list (os.map PyData.str))), y4, none]) fun o e => ∃ (x : Tm) (t' : List D) (z4 : Option W), o = .rt (.d x.dat) ∧ e = [some (.l t'), some (.d (.str k)), some (.d (.list (ps.map vpD))), some (.d (.list (os.map PyData.str))), z4, none] ∧ TapeOk t' ∧ x.Ok 1 1 ∧ Tyd ps k x := fun t1 ht1 y4 => by
      unfold leafR
      by_cases c1 : k = "option"
      · subst c1
        obtain ⟨k2, t2, h2, ht2, a2, b2⟩ := hD t1 ht1 (os.length : Int) (log_small (by have := hv.ol; omega))
        have hpos : 0 < os.length := List.length_pos_iff.mpr hv.oe
        obtain ⟨q, hat, hm⟩ := at_inS (ss := os) a2 (by omega)
        push_cast [h2, hat]
        exact ⟨.lf "option" (.str q), t2, _, rfl, rfl, ht2, ⟨⟨by decide +kernel, .inl ⟨q, rfl, (hv.on q hm).1, fun z => absurd z (by decide +kernel)⟩⟩, Nat.le_refl _, Nat.le_refl _⟩, fun g _ => ⟨.s q, .opt q (hv.on q hm).1 (hv.on q hm).2, rfl⟩⟩
      · have e1 : (k == ("option" : Str)) = false := beq_eq_false_iff_ne.mpr c1
        by_cases c2 : k = "condition"
        · subst c2
          obtain ⟨k2, t2, h2, ht2, a2, b2⟩ := hD t1 ht1 2 (by decide)
          obtain ⟨x, hat, hm⟩ := at_in (xs := [.tuple [PyData.str "true"], .tuple [PyData.str "false"]]) a2 (by simp only [List.length_cons, List.length_nil]; omega)
          push_cast [e1, h2, hat]
          simp only [List.mem_cons, List.not_mem_nil, or_false] at hm
          rcases hm with rfl | rfl
          · exact ⟨.tt "true", t2, _, rfl, rfl, ht2, ⟨⟨by decide +kernel, by decide +kernel⟩, Nat.le_refl _, Nat.le_refl _⟩, fun g _ => ⟨.b true, .tt, rfl⟩⟩
          · exact ⟨.tt "false", t2, _, rfl, rfl, ht2, ⟨⟨by decide +kernel, by decide +kernel⟩, Nat.le_refl _, Nat.le_refl _⟩, fun g _ => ⟨.b false, .ff, rfl⟩⟩
        · have e2 : (k == ("condition" : Str)) = false := beq_eq_false_iff_ne.mpr c2
          obtain ⟨k2, t2, h2, ht2, a2, b2⟩ := hD t1 ht1 4 (by decide)
          obtain ⟨n, hat, hn⟩ := at_inI (ns := [2, 4, 10, 1000000]) a2 (by simp only [List.length_cons, List.length_nil]; omega)
          have hat : atI [PyData.int 2, PyData.int 4, PyData.int 10, PyData.int 1000000] k2 = some (.int n) := hat
          have hn2 : 0 ≤ n ∧ n ≤ 1000000 := by
            simp only [List.mem_cons, List.not_mem_nil, or_false] at hn
            omega
          obtain ⟨k3, t3, h3, ht3, a3, b3⟩ := hD t2 ht2 n (log_small (by omega))
          obtain ⟨m, rfl⟩ : ∃ m : Nat, k3 = (m : Int) := ⟨k3.toNat, by omega⟩
          push_cast [e1, e2, h2, hat, h3]
          exact ⟨.lf "number" (natD m), t3, _, rfl, rfl, ht3, ⟨⟨by decide +kernel, .inr ⟨by decide +kernel, m, rfl, by omega⟩⟩, Nat.le_refl _, Nat.le_refl _⟩, fun g _ => ⟨.i m, .num m (by omega), by rcases hk with rfl | rfl | rfl <;> first | rfl | exact absurd rfl c1 | exact absurd rfl c2⟩⟩
    change WpC (kF _ (sSeq _ (leafR C) _)) _
    cases ns with
    | nil =>
      obtain ⟨o, e, g1, x, t', z4, rfl, rfl, ht', hx⟩ := rest t ht (some (.l []))
      rw [sSeq_step (e' := [some (.l t), some (.d (.str k)), some (.d (.list (ps.map vpD))), some (.d (.list (os.map PyData.str))), some (.l []), none]) (by push_cast [List.map_nil]), g1]
      push_cast []
      exact ⟨x, t', rfl, rfl, ht', hx⟩
    | cons s0 sr =>
      have ne : ((s0 :: sr).map PyData.str).isEmpty = false := rfl
      obtain ⟨k1, t1, h1, ht1, a1, b1⟩ := hD t ht 4 (by decide)
      by_cases c0 : 0 < k1
      · have hnl2 : sr.length + 1 ≤ 1000 := hnl
        obtain ⟨k2, t2, h2, ht2, a2, b2⟩ := hD t1 ht1 ((sr.length + 1 : Nat) : Int) (log_small (by omega))
        obtain ⟨q, hat, hm⟩ := at_inS (ss := s0 :: sr) a2 (by simp only [List.length_cons]; omega)
        generalize hgl : (s0 :: sr).map PyData.str = gl at ne hat
        have hll : gl.length = sr.length + 1 := by rw [← hgl, List.length_map]; rfl
        rw [kSeq_rt (w := .d (.tuple [.str "variable", .str q])) (e' := [some (.l t2), some (.d (.str k)), some (.d (.list (ps.map vpD))), some (.d (.list (os.map PyData.str))), some (.l gl), none]) (by push_cast [ne, h1, show decide (0 < k1) = true from decide_eq_true c0, hll, h2, hat])]
        push_cast []
        exact ⟨.lf "variable" (.str q), t2, rfl, rfl, ht2, ⟨⟨by decide +kernel, .inl ⟨q, rfl, (hn40 q hm).1, fun _ => (hn40 q hm).2.1⟩⟩, Nat.le_refl _, Nat.le_refl _⟩, fun g hg => by obtain ⟨v, g1, g2, g3⟩ := hg _ (hn40 q hm).2.2; exact ⟨v, .var q v g1 g3 (hn40 q hm).1 (hn40 q hm).2.1, g2⟩⟩
      · obtain ⟨o, e, g1, x, t', z4, rfl, rfl, ht', hx⟩ := rest t1 ht1 (some (.l ((s0 :: sr).map PyData.str)))
        generalize hgl : (s0 :: sr).map PyData.str = gl at ne g1
        rw [sSeq_step (e' := [some (.l t1), some (.d (.str k)), some (.d (.list (ps.map vpD))), some (.d (.list (os.map PyData.str))), some (.l gl), none]) (by push_cast [ne, h1, show decide (0 < k1) = false from decide_eq_false c0]), g1]
        push_cast []
        exact ⟨x, t', rfl, rfl, ht', hx⟩
  obtain ⟨w, o, h, s, t', rfl, rfl, r⟩ := run
  exact ⟨s, t', h, r⟩
/-! ### words without dots -/
def pln (s : Str) : Bool := s.cps.all (· != 46)
theorem pln_app {a b : Str} (h1 : pln a = true) (h2 : pln b = true) : pln (a ++ b) = true := by
  unfold pln at *
  show (a.cps ++ b.cps).all _ = true
  rw [Array.all_append, h1, h2]; rfl
theorem pln_one {z : Str} (hz : pln z = true) {c : Nat} (h : c ∈ z.cps.toList) : pln (⟨#[c]⟩ : Str) = true := by
  unfold pln at *
  have h1 : ∀ (i : Nat) (x : i < z.cps.size), ¬ z.cps[i] = 46 := by simpa using hz
  obtain ⟨i, hi, e⟩ := List.mem_iff_getElem.mp h
  have h2 := h1 i (by simpa using hi)
  have e2 : z.cps[i]'(by simpa using hi) = c := by rw [← e]; simp
  rw [e2] at h2
  show (#[c]).all _ = true
  simpa using h2
theorem lett_pln : pln lett = true := by decide +kernel
theorem word_ok1 (C : Orc) (hD : DrawS C) {t : List D} (ht : TapeOk t) (stem : Str) (hs : stem.length ≤ 10) (hk : sk stem = true) (hpl : pln stem = true) : ∃ (s : Str) (t' : List D), F38 C [.l t, .d (.str stem)] = .ok (.d (.str s)) [.l t'] ∧ TapeOk t' ∧ s.length ≤ 40 ∧ sk s = true ∧ pln s = true ∧ s ≠ "plug" := by
  have run : WpC (F38 C [.l t, .d (.str stem)]) fun w o => ∃ (s : Str) (t' : List D), w = .d (.str s) ∧ o = [.l t'] ∧ TapeOk t' ∧ s.length ≤ 40 ∧ sk s = true ∧ pln s = true ∧ s ≠ "plug" := by
    refine wpC_run (m := M38 C) rfl rfl rfl ?_
    simp only [List.map_cons, List.map_nil, List.cons_append, List.nil_append, List.replicate]
    unfold M38
    obtain ⟨k1, t1, h1, ht1, a1, b1⟩ := hD t ht 52 (by decide)
    obtain ⟨c, hc, hcm⟩ := ix_chr (z := lett) (k := k1) (by rw [lett_len]; decide) a1 (by rw [lett_len]; omega)
    obtain ⟨k2, t2, h2, ht2, a2, b2⟩ := hD t1 ht1 6 (by decide)
    obtain ⟨n, hat, hn⟩ := at_inI (ns := [0, 0, 1, 3, 0, 14]) a2 (by simp only [List.length_cons, List.length_nil]; omega)
    have hat : atI [PyData.int 0, PyData.int 0, PyData.int 1, PyData.int 3, PyData.int 0, PyData.int 14] k2 = some (.int n) := hat
    have hn2 : 0 ≤ n ∧ n ≤ 14 := by
      simp only [List.mem_cons, List.not_mem_nil, or_false] at hn
      omega
    obtain ⟨m, rfl⟩ : ∃ m : Nat, n = (m : Int) := ⟨n.toNat, by omega⟩
    have hl1 : (stem ++ (⟨#[c]⟩ : Str)).length = stem.length + 1 := by rw [str_app]; rfl
    rw [show (Str.ofString "abcdefghijklmnopqrstuvwxyzABCDEFGHIJKLMNOPQRSTUVWXYZ0123456789") = lett from rfl]
    obtain ⟨e', g1, t3, s, x4, rfl, ht3, hs3, hk3, hp3⟩ := forN_inv (tg := tgN 4) (b := M38b0 C) (n := m)
      (fun i e => ∃ (t3 : List D) (s : Str) (x4 : Option W), e = [some (.l t3), some (.d (.str stem)), some (.d (.str lett)), some (.d (.str s)), x4] ∧ TapeOk t3 ∧ s.length ≤ 11 + i ∧ sk s = true ∧ pln s = true)
      (e := [some (.l t2), some (.d (.str stem)), some (.d (.str lett)), some (.d (.str (stem ++ (⟨#[c]⟩ : Str)))), none]) ⟨t2, _, _, rfl, ht2, by omega, sk_app hk (sk_one lett_sk hcm), pln_app hpl (pln_one lett_pln hcm)⟩ (fun i e hi hI => by
        obtain ⟨t3, s, x4, rfl, ht3, hs3, hk3, hp3⟩ := hI
        refine ⟨_, rfl, ?_⟩
        obtain ⟨k4, t4, h4, ht4, a4, b4⟩ := hD t3 ht3 62 (by decide)
        obtain ⟨c4, hc4, hcm4⟩ := ix_chr (z := lett) (k := k4) (by rw [lett_len]; decide) a4 (by rw [lett_len]; omega)
        have hl4 : (s ++ (⟨#[c4]⟩ : Str)).length = s.length + 1 := by rw [str_app]; rfl
        unfold M38b0
        push_cast [h4, hc4, fAdd_s (a := s) (b := (⟨#[c4]⟩ : Str)) (by rw [str_one]; omega)]
        exact ⟨by simp, t4, _, _, rfl, ht4, by omega, sk_app hk3 (sk_one lett_sk hcm4), pln_app hp3 (pln_one lett_pln hcm4)⟩)
    have hin := cInT_s s ["and", "or", "not", "implies", "true", "false", "plug", "component"]
    have hin : cInT (.str s) (.list [.str "and", .str "or", .str "not", .str "implies", .str "true", .str "false", .str "plug", .str "component"]) = some (decide (s ∈ (["and", "or", "not", "implies", "true", "false", "plug", "component"] : List Str))) := hin
    have l0 : ("0" : Str).length = 1 := by decide +kernel
    have res : ∀ s ∈ (["and", "or", "not", "implies", "true", "false", "plug", "component"] : List Str), s ++ ("0" : Str) ≠ "plug" := by decide +kernel
    by_cases hb : s ∈ (["and", "or", "not", "implies", "true", "false", "plug", "component"] : List Str)
    · rw [decide_eq_true hb] at hin
      push_cast [h1, hc, fAdd_s (a := stem) (b := (⟨#[c]⟩ : Str)) (by rw [str_one]; omega), h2, hat, g1, hin, fAddS_s (a := s) (b := ("0" : Str)) (by omega)]
      exact ⟨_, t3, rfl, rfl, ht3, by rw [str_app]; omega, sk_app hk3 (by decide +kernel), pln_app hp3 (by decide +kernel), res s hb⟩
    · rw [decide_eq_false hb] at hin
      push_cast [h1, hc, fAdd_s (a := stem) (b := (⟨#[c]⟩ : Str)) (by rw [str_one]; omega), h2, hat, g1, hin]
      exact ⟨_, t3, rfl, rfl, ht3, by omega, hk3, hp3, fun z => hb (by rw [z]; decide +kernel)⟩
  obtain ⟨w, o, h, s, t', rfl, rfl, r⟩ := run
  exact ⟨s, t', h, r⟩
def Word1S (C : Orc) : Prop := ∀ t, TapeOk t → ∀ stem : Str, stem.length ≤ 10 → sk stem = true → pln stem = true → ∃ (s : Str) (t' : List D), C 38 [.l t, .d (.str stem)] = .ok (.d (.str s)) [.l t'] ∧ TapeOk t' ∧ s.length ≤ 40 ∧ sk s = true ∧ pln s = true ∧ s ≠ "plug"
theorem words_ok1 (C : Orc) (hD : DrawS C) (hW : Word1S C) {t : List D} (ht : TapeOk t) (n : Nat) (hn : 0 < n) (hn2 : n ≤ 100) : ∃ (ss : List Str) (t' : List D), F39 C [.l t, .d (.int (n : Int))] = .ok (.d (.list (ss.map PyData.str))) [.l t'] ∧ TapeOk t' ∧ ss ≠ [] ∧ ss.length ≤ n ∧ ss.Nodup ∧ ∀ s ∈ ss, s.length ≤ 40 ∧ sk s = true ∧ pln s = true ∧ s ≠ "plug" := by
  have run : WpC (F39 C [.l t, .d (.int (n : Int))]) fun w o => ∃ (ss : List Str) (t' : List D), w = .d (.list (ss.map PyData.str)) ∧ o = [.l t'] ∧ TapeOk t' ∧ ss ≠ [] ∧ ss.length ≤ n ∧ ss.Nodup ∧ ∀ s ∈ ss, s.length ≤ 40 ∧ sk s = true ∧ pln s = true ∧ s ≠ "plug" := by
    refine wpC_run (m := M39 C) rfl rfl rfl ?_
    simp only [List.map_cons, List.map_nil, List.cons_append, List.nil_append, List.replicate]
    unfold M39
    obtain ⟨k1, t1, h1, ht1, a1, b1⟩ := hD t ht 8 (by decide)
    obtain ⟨stem, hat, hm⟩ := at_inS (ss := ["", "", "", "notch", "or", "plug", "trueA", "b"]) a1 (by simp only [List.length_cons, List.length_nil]; omega)
    have hat : atI [PyData.str "", PyData.str "", PyData.str "", PyData.str "notch", PyData.str "or", PyData.str "plug", PyData.str "trueA", PyData.str "b"] k1 = some (.str stem) := hat
    have hs : stem.length ≤ 10 ∧ sk stem = true ∧ pln stem = true := by
      have : ∀ s ∈ (["", "", "", "notch", "or", "plug", "trueA", "b"] : List Str), s.length ≤ 10 ∧ sk s = true ∧ pln s = true := by decide +kernel
      exact this stem hm
    obtain ⟨e', g1, t3, ss, x4, x5, rfl, ht3, hi3, hl3, hn3, hs3⟩ := forN_inv (tg := tgN 4) (b := M39b0 C) (n := n)
      (fun i e => ∃ (t3 : List D) (ss : List Str) (x4 x5 : Option W), e = [some (.l t3), some (.d (.int (n : Int))), some (.d (.str stem)), some (.l (ss.map PyData.str)), x4, x5] ∧ TapeOk t3 ∧ (0 < i → ss ≠ []) ∧ ss.length ≤ i ∧ ss.Nodup ∧ ∀ s ∈ ss, s.length ≤ 40 ∧ sk s = true ∧ pln s = true ∧ s ≠ "plug")
      (e := [some (.l t1), some (.d (.int (n : Int))), some (.d (.str stem)), some (.l []), none, none]) ⟨t1, [], _, _, rfl, ht1, (fun h => absurd h (by omega)), by simp, List.nodup_nil, (fun _ h => by cases h)⟩ (fun i e hi hI => by
        obtain ⟨t3, ss, x4, x5, rfl, ht3, hi3, hl3, hn3, hs3⟩ := hI
        refine ⟨_, rfl, ?_⟩
        obtain ⟨s, t4, h4, ht4, hs4⟩ := hW t3 ht3 stem hs.1 hs.2.1 hs.2.2
        have hin := cNotInT_s s ss
        unfold M39b0
        by_cases hb : s ∈ ss
        · rw [decide_eq_true hb] at hin
          push_cast [h4, hin]
          exact ⟨by simp, t4, ss, _, _, rfl, ht4, (fun _ e => by rw [e] at hb; cases hb), by omega, hn3, hs3⟩
        · rw [decide_eq_false hb] at hin
          push_cast [h4, hin]
          refine ⟨by simp, t4, ss ++ [s], _, _, by rw [List.map_append]; rfl, ht4, (fun _ => by simp), by rw [List.length_append, List.length_singleton]; omega, List.nodup_append.mpr ⟨hn3, by simp, fun x hx y hy => by rw [List.mem_singleton.mp hy]; rintro rfl; exact hb hx⟩, fun x hx => ?_⟩
          rcases List.mem_append.mp hx with hx | hx
          · exact hs3 x hx
          · rw [List.mem_singleton.mp hx]; exact hs4)
    push_cast [h1, hat, g1]
    exact ⟨ss, t3, rfl, rfl, ht3, hi3 hn, hl3, hn3, hs3⟩
  obtain ⟨w, o, h, s, t', rfl, rfl, r⟩ := run
  exact ⟨s, t', h, r⟩
theorem kd_i {v : Vl} (h : v.kd = "number") : ∃ n, v = .i n := by
  cases v with
  | i n => exact ⟨n, rfl⟩
  | s x => exact absurd (show ("option" : Str) = "number" from h) (by decide +kernel)
  | b x => exact absurd (show ("condition" : Str) = "number" from h) (by decide +kernel)
theorem kd_s {v : Vl} (h : v.kd = "option") : ∃ n, v = .s n := by
  cases v with
  | s n => exact ⟨n, rfl⟩
  | i x => exact absurd (show ("number" : Str) = "option" from h) (by decide +kernel)
  | b x => exact absurd (show ("condition" : Str) = "option" from h) (by decide +kernel)
theorem kd_b {v : Vl} (h : v.kd = "condition") : ∃ n, v = .b n := by
  cases v with
  | b n => exact ⟨n, rfl⟩
  | i x => exact absurd (show ("number" : Str) = "condition" from h) (by decide +kernel)
  | s x => exact absurd (show ("option" : Str) = "condition" from h) (by decide +kernel)
def Opt3 (ps : List (Str × Str)) (o j k : Str) : Prop := ∀ a b, Tyd ps j a → Tyd ps j b → Tyd ps k (.bi o a b)
theorem op_num {ps : List (Str × Str)} {o : Str} (h : o ∈ (["+", "-", "*"] : List Str)) : Opt3 ps o "number" "number" := fun a b ha hb g hg => by
  obtain ⟨u, hu, ku⟩ := ha g hg
  obtain ⟨w, hw, kw⟩ := hb g hg
  obtain ⟨m, rfl⟩ := kd_i ku
  obtain ⟨n, rfl⟩ := kd_i kw
  simp only [List.mem_cons, List.not_mem_nil, or_false] at h
  rcases h with rfl | rfl | rfl
  · exact ⟨_, .add hu hw, rfl⟩
  · exact ⟨_, .sub hu hw, rfl⟩
  · exact ⟨_, .mul hu hw, rfl⟩
theorem op_con {ps : List (Str × Str)} {o : Str} (h : o ∈ (["and", "or", "implies"] : List Str)) : Opt3 ps o "condition" "condition" := fun a b ha hb g hg => by
  obtain ⟨u, hu, ku⟩ := ha g hg
  obtain ⟨w, hw, kw⟩ := hb g hg
  obtain ⟨m, rfl⟩ := kd_b ku
  obtain ⟨n, rfl⟩ := kd_b kw
  simp only [List.mem_cons, List.not_mem_nil, or_false] at h
  rcases h with rfl | rfl | rfl
  · exact ⟨_, .and hu hw, rfl⟩
  · exact ⟨_, .or hu hw, rfl⟩
  · exact ⟨_, .imp hu hw, rfl⟩
theorem op_equ {ps : List (Str × Str)} {o j : Str} (h : o ∈ (["=", "!="] : List Str)) (hj : j = "number" ∨ j = "option") : Opt3 ps o j "condition" := fun a b ha hb g hg => by
  obtain ⟨u, hu, ku⟩ := ha g hg
  obtain ⟨w, hw, kw⟩ := hb g hg
  simp only [List.mem_cons, List.not_mem_nil, or_false] at h
  rcases hj with rfl | rfl
  · obtain ⟨m, rfl⟩ := kd_i ku
    obtain ⟨n, rfl⟩ := kd_i kw
    rcases h with rfl | rfl
    · exact ⟨_, .eqi hu hw, rfl⟩
    · exact ⟨_, .nei hu hw, rfl⟩
  · obtain ⟨m, rfl⟩ := kd_s ku
    obtain ⟨n, rfl⟩ := kd_s kw
    rcases h with rfl | rfl
    · exact ⟨_, .eqs hu hw, rfl⟩
    · exact ⟨_, .nes hu hw, rfl⟩
theorem op_ord {ps : List (Str × Str)} {o : Str} (h : o ∈ (["<", "<=", ">", ">="] : List Str)) : Opt3 ps o "number" "condition" := fun a b ha hb g hg => by
  obtain ⟨u, hu, ku⟩ := ha g hg
  obtain ⟨w, hw, kw⟩ := hb g hg
  obtain ⟨m, rfl⟩ := kd_i ku
  obtain ⟨n, rfl⟩ := kd_i kw
  simp only [List.mem_cons, List.not_mem_nil, or_false] at h
  rcases h with rfl | rfl | rfl | rfl
  · exact ⟨_, .lt hu hw, rfl⟩
  · exact ⟨_, .le hu hw, rfl⟩
  · exact ⟨_, .gt hu hw, rfl⟩
  · exact ⟨_, .ge hu hw, rfl⟩
theorem un_num {ps : List (Str × Str)} {a : Tm} (h : Tyd ps "number" a) : Tyd ps "number" (.un "minus" a) := fun g hg => by
  obtain ⟨u, hu, ku⟩ := h g hg
  obtain ⟨m, rfl⟩ := kd_i ku
  exact ⟨_, .neg hu, rfl⟩
theorem un_con {ps : List (Str × Str)} {a : Tm} (h : Tyd ps "condition" a) : Tyd ps "condition" (.un "not" a) := fun g hg => by
  obtain ⟨u, hu, ku⟩ := h g hg
  obtain ⟨m, rfl⟩ := kd_b ku
  exact ⟨_, .nt hu, rfl⟩
theorem opc (k : Int) (h1 : 2 ≤ k) (h2 : k ≤ 10) : ∃ o : Str, atI [PyData.str "and", PyData.str "or", PyData.str "implies", PyData.str "and", PyData.str "or", PyData.str "=", PyData.str "!=", PyData.str "<", PyData.str ">"] (k - 2) = some (.str o) ∧ o.length ≤ 10 ∧ o ∉ lvs ∧
    ((k < 7 ∧ o ∈ (["and", "or", "implies"] : List Str)) ∨ (7 ≤ k ∧ k < 9 ∧ o ∈ (["=", "!="] : List Str)) ∨ (9 ≤ k ∧ o ∈ (["<", ">"] : List Str))) := by
  have : k = 2 ∨ k = 3 ∨ k = 4 ∨ k = 5 ∨ k = 6 ∨ k = 7 ∨ k = 8 ∨ k = 9 ∨ k = 10 := by omega
  rcases this with rfl | rfl | rfl | rfl | rfl | rfl | rfl | rfl | rfl <;> exact ⟨_, rfl, by decide +kernel, by decide +kernel, by decide +kernel⟩
def Leaf1S (C : Orc) (ps : List (Str × Str)) (V O : D) : Prop := ∀ t, TapeOk t → ∀ k : Str, (k = "number" ∨ k = "option" ∨ k = "condition") → ∃ (e : Tm) (t' : List D), C 43 [.l t, .d (.str k), .d V, .d O] = .ok (.d e.dat) [.l t'] ∧ TapeOk t' ∧ e.Ok 1 1 ∧ Tyd ps k e
def ExprS (C : Orc) (ps : List (Str × Str)) (V O : D) (d : Nat) : Prop := ∀ t, TapeOk t → ∀ k : Str, (k = "number" ∨ k = "option" ∨ k = "condition") → ∀ p : Nat, 1 ≤ p → p ≤ 60 →
  ∃ (e : Tm) (t' : List D), C 415 [.l t, .d (.str k), .d V, .d O, .d (.int (p : Int)), .d (.int (d : Int))] = .ok (.d e.dat) [.l t'] ∧ TapeOk t' ∧ e.Ok p d ∧ Tyd ps k e
theorem expression_ok (C : Orc) (hD : DrawS C) (ps : List (Str × Str)) (V O : D) (hL : Leaf1S C ps V O) (d : Nat) (hd : d ≤ 100) (hE : 1 ≤ d → ExprS C ps V O d) {t : List D} (ht : TapeOk t) (k : Str) (hk : k = "number" ∨ k = "option" ∨ k = "condition") (p : Nat) (hp : 1 ≤ p) (hp2 : p ≤ 60) :
    ∃ (e : Tm) (t' : List D), F415 C [.l t, .d (.str k), .d V, .d O, .d (.int (p : Int)), .d (.int ((d + 1 : Nat) : Int))] = .ok (.d e.dat) [.l t'] ∧ TapeOk t' ∧ e.Ok p (d + 1) ∧ Tyd ps k e := by
  have run : WpC (F415 C [.l t, .d (.str k), .d V, .d O, .d (.int (p : Int)), .d (.int ((d + 1 : Nat) : Int))]) fun w o => ∃ (e : Tm) (t' : List D), w = .d e.dat ∧ o = [.l t'] ∧ TapeOk t' ∧ e.Ok p (d + 1) ∧ Tyd ps k e := by
    refine wpC_run (m := M415 C) rfl rfl rfl ?_
    simp only [List.map_cons, List.map_nil, List.cons_append, List.nil_append, List.replicate]
    unfold M415
    obtain ⟨k1, t1, h1, ht1, a1, b1⟩ := hD t ht 12 (by decide)
    obtain ⟨e, t2, h2, ht2, he, hy⟩ := hL t1 ht1 k hk
    by_cases q0 : (k == ("option" : Str)) = true
    · push_cast [h1, q0, h2]
      exact ⟨e, t2, rfl, rfl, ht2, he.mono hp (by omega), hy⟩
    have q0 := Bool.eq_false_iff.mpr q0
    by_cases q1 : ((p : Int) == 1) = true
    · push_cast [h1, q0, q1, h2]
      exact ⟨e, t2, rfl, rfl, ht2, he.mono hp (by omega), hy⟩
    have q1 := Bool.eq_false_iff.mpr q1
    by_cases q2 : (((d + 1 : Nat) : Int) == 1) = true
    · push_cast [h1, q0, q1, q2, h2]
      exact ⟨e, t2, rfl, rfl, ht2, he.mono hp (by omega), hy⟩
    have q2 := Bool.eq_false_iff.mpr q2
    by_cases q3 : (k1 == 11) = true
    · push_cast [h1, q0, q1, q2, q3, h2]
      exact ⟨e, t2, rfl, rfl, ht2, he.mono hp (by omega), hy⟩
    have q3 := Bool.eq_false_iff.mpr q3
    clear h2 ht2 he hy
    have p1 : p ≠ 1 := fun z => by subst z; cases q1
    have d1 : 1 ≤ d := by
      rcases Nat.eq_zero_or_pos d with rfl | z
      · cases q2
      · exact z
    have k11 : k1 ≠ 11 := beq_eq_false_iff_ne.mp q3
    have s1 : ((d + 1 : Nat) : Int) - 1 = (d : Int) := by omega
    have s2 : (p : Int) - 1 = ((p - 1 : Nat) : Int) := by omega
    have hk : k = "number" ∨ k = "condition" := by
      rcases hk with h | h | h
      · exact .inl h
      · exact absurd h (beq_eq_false_iff_ne.mp q0)
      · exact .inr h
    by_cases c1 : k1 < 2 ∨ p = 2
    · obtain ⟨e, t3, h3, ht3, he, hy⟩ := hE d1 t1 ht1 k (by rcases hk with h | h; exact .inl h; exact .inr (.inr h)) (p - 1) (by omega) (by omega)
      have fin (o : Str) (ho : o ∉ lvs) : (Tm.un o e).Ok p (d + 1) := ⟨⟨ho, he.ok⟩, by show 1 + e.nds ≤ p; have := he.nds; omega, by show 1 + e.dep ≤ d + 1; have := he.dep; omega⟩
      by_cases z1 : k1 < 2
      · have z1 : decide (k1 < 2) = true := decide_eq_true z1
        rcases hk with rfl | rfl
        · push_cast [h1, q0, q1, q2, q3, z1, s1, s2, h3, kin_number, bInt_f]
          exact ⟨.un "minus" e, t3, rfl, rfl, ht3, fin _ (by decide +kernel), un_num hy⟩
        · push_cast [h1, q0, q1, q2, q3, z1, s1, s2, h3, bInt_t]
          exact ⟨.un "not" e, t3, rfl, rfl, ht3, fin _ (by decide +kernel), un_con hy⟩
      · have z2 : ((p : Int) == 2) = true := beq_iff_eq.mpr (by omega)
        have z1 : decide (k1 < 2) = false := decide_eq_false z1
        rcases hk with rfl | rfl
        · push_cast [h1, q0, q1, q2, q3, z1, z2, s1, s2, h3, kin_number, bInt_f]
          exact ⟨.un "minus" e, t3, rfl, rfl, ht3, fin _ (by decide +kernel), un_num hy⟩
        · push_cast [h1, q0, q1, q2, q3, z1, z2, s1, s2, h3, bInt_t]
          exact ⟨.un "not" e, t3, rfl, rfl, ht3, fin _ (by decide +kernel), un_con hy⟩
    · have z1 : decide (k1 < 2) = false := decide_eq_false (by omega)
      have z2 : ((p : Int) == 2) = false := beq_eq_false_iff_ne.mpr (by omega)
      have s3 : (p : Int) - 2 = ((p - 2 : Nat) : Int) := by omega
      obtain ⟨k2, t2, h2, ht2, a2, b2⟩ := hD t1 ht1 ((p - 2 : Nat) : Int) (log_small (by omega))
      obtain ⟨l, hl⟩ : ∃ m : Nat, 1 + k2 = (m : Int) := ⟨(1 + k2).toNat, by omega⟩
      obtain ⟨r, hr, hrm⟩ := at_inS (ss := ["+", "-", "*"]) (k := k1 % 3) (by omega) (by simp only [List.length_cons, List.length_nil]; omega)
      have hr : atI [PyData.str "+", PyData.str "-", PyData.str "*"] (k1 % 3) = some (.str r) := hr
      have body (o j : Str) (hj : j = "number" ∨ j = "option" ∨ j = "condition") (ho : o ∉ lvs) (hop : Opt3 ps o j k) (t4 : List D) (ht4 : TapeOk t4) : ∃ (a b : Tm) (t5 t6 : List D), C 415 [.l t4, .d (.str j), .d V, .d O, .d (.int (l : Int)), .d (.int (d : Int))] = .ok (.d a.dat) [.l t5] ∧
          C 415 [.l t5, .d (.str j), .d V, .d O, .d (.int ((p - 1 : Nat) - l : Int)), .d (.int (d : Int))] = .ok (.d b.dat) [.l t6] ∧ TapeOk t6 ∧ (Tm.bi o a b).Ok p (d + 1) ∧ Tyd ps k (.bi o a b) := by
        obtain ⟨a, t5, h5, ht5, ha, ya⟩ := hE d1 t4 ht4 j hj l (by omega) (by omega)
        obtain ⟨b, t6, h6, ht6, hb, yb⟩ := hE d1 t5 ht5 j hj (p - 1 - l) (by omega) (by omega)
        refine ⟨a, b, t5, t6, h5, ?_, ht6, ⟨⟨ho, ha.ok, hb.ok⟩, ?_, ?_⟩, hop a b ya yb⟩
        · rw [show ((p - 1 : Nat) : Int) - (l : Int) = ((p - 1 - l : Nat) : Int) by omega]; exact h6
        · show 1 + (a.nds + b.nds) ≤ p
          have := ha.nds
          have := hb.nds
          omega
        · show 1 + max a.dep b.dep ≤ d + 1
          have := ha.dep
          have := hb.dep
          omega
      rcases hk with rfl | rfl
      · obtain ⟨a, b, t5, t6, h5, h6, ht6, fin, ty⟩ := body r "number" (.inl rfl) ((by decide +kernel : ∀ s ∈ (["+", "-", "*"] : List Str), s ∉ lvs) r hrm) (op_num hrm) t2 ht2
        push_cast [h1, q0, q1, q2, q3, z1, z2, s1, s2, s3, h2, hl, hr, kin_number, h5, h6]
        exact ⟨.bi r a b, t6, rfl, rfl, ht6, fin, ty⟩
      · obtain ⟨o, ho, hol, hon, hoc⟩ := opc k1 (by omega) (by omega)
        rcases hoc with ⟨y1, hm⟩ | ⟨y1, y2, hm⟩ | ⟨y1, hm⟩
        · obtain ⟨a, b, t5, t6, h5, h6, ht6, fin, ty⟩ := body o "condition" (.inr (.inr rfl)) hon (op_con hm) t2 ht2
          push_cast [h1, q0, q1, q2, q3, z1, z2, s1, s2, s3, h2, hl, hr, ho, show decide (k1 < 7) = true from decide_eq_true y1, h5, h6]
          exact ⟨.bi o a b, t6, rfl, rfl, ht6, fin, ty⟩
        · obtain ⟨k3, t3, h3, ht3, a3, b3⟩ := hD t2 ht2 2 (by decide)
          obtain ⟨j, hj, hjm⟩ := at_inS (ss := ["number", "option"]) a3 (by simp only [List.length_cons, List.length_nil]; omega)
          have hj : atI [PyData.str "number", PyData.str "option"] k3 = some (.str j) := hj
          have hjm : j = "number" ∨ j = "option" := by simpa using hjm
          obtain ⟨a, b, t5, t6, h5, h6, ht6, fin, ty⟩ := body o j (by rcases hjm with h | h; exact .inl h; exact .inr (.inl h)) hon (op_equ hm hjm) t3 ht3
          push_cast [h1, q0, q1, q2, q3, z1, z2, s1, s2, s3, h2, hl, hr, ho, show decide (k1 < 7) = false from decide_eq_false (by omega), show decide (k1 < 9) = true from decide_eq_true y2, h3, hj, h5, h6]
          exact ⟨.bi o a b, t6, rfl, rfl, ht6, fin, ty⟩
        · obtain ⟨k3, t3, h3, ht3, a3, b3⟩ := hD t2 ht2 2 (by decide)
          obtain ⟨q, hj, hjm⟩ := at_inS (ss := ["", "="]) a3 (by simp only [List.length_cons, List.length_nil]; omega)
          have hj : atI [PyData.str "", PyData.str "="] k3 = some (.str q) := hj
          have hql : q.length ≤ 10 := (by decide +kernel : ∀ s ∈ (["", "="] : List Str), s.length ≤ 10) q hjm
          have hoq : o ++ q ∈ (["<", "<=", ">", ">="] : List Str) := (by decide +kernel : ∀ s ∈ (["<", ">"] : List Str), ∀ q ∈ (["", "="] : List Str), s ++ q ∈ (["<", "<=", ">", ">="] : List Str)) o hm q hjm
          obtain ⟨a, b, t5, t6, h5, h6, ht6, fin, ty⟩ := body (o ++ q) "number" (.inl rfl) ((by decide +kernel : ∀ s ∈ (["<", "<=", ">", ">="] : List Str), s ∉ lvs) _ hoq) (op_ord hoq) t3 ht3
          push_cast [h1, q0, q1, q2, q3, z1, z2, s1, s2, s3, h2, hl, hr, ho, show decide (k1 < 7) = false from decide_eq_false (by omega), show decide (k1 < 9) = false from decide_eq_false (by omega), h3, hj, fAdd_s (a := o) (b := q) (by omega), h5, h6]
          exact ⟨.bi (o ++ q) a b, t6, rfl, rfl, ht6, fin, ty⟩
  obtain ⟨w, o, h, e, t', rfl, rfl, r⟩ := run
  exact ⟨e, t', h, r⟩
end Mi
set_option Elab.async false
set_option linter.all false
set_option maxRecDepth 100000
set_option maxHeartbeats 4000000
namespace Mi
open PySem L2
local macro_rules | `(tactic| push_cast [$hs,*]) => `(tactic| simp -implicitDefEqProofs (disch := first | omega | (simp only [rng_len, List.length_map, List.length_append, List.length_range, List.length_replicate, List.length_cons, List.length_nil, List.length_set, List.length_reverse, List.length_zipIdx]; omega)) only [ev_seq, ev_if, ev_ifE, ev_nx, ev_bk, ev_ct, ev_E, ev_set, ev_tg, ev_ret, ev_retO, ev_retN, ev_put, ev_for, ev_C, ev_V, ev_vr, ev_ex, ev_o1, ev_o2, ev_t2, ev_tru, ev_and, ev_or, ev_not, ev_yes, ev_andE, ev_orE, ev_notE, ev_LN, ev_LC, ev_B, ev_TN, ev_TC, ev_tup, ev_lst, ev_GN, ev_GV, ev_GR, ev_call, ev_mu, ev_lc, ev_any, ev_r1, ev_r2, ev_rep, kS_nx, kS_bk, kS_ct, kS_rt, kIf_t, kIf_f, kM_ok, kSet_ok, kAnd_t, kAnd_f, kOr_t, kOr_f, kAndE_t, kAndE_f, kOrE_t, kOrE_f, kNotE_b, oVr_s, kO2_ok, kO2'_ok, g2_ss, gv_l, gv_r, kL_ok, kL'_ok, kB_ok, gB_s, gvL_n, gvL_c, kV_ss, kT_ok, kT'_ok, kG_ok, kG'_ok, gG_l, gG_t, gG_d, kC_ok, kC1_s, kC2_ok, kP_s, take_n, take_l, take_r, put_n, put_l, put_r, pt1_s, kPut1_ok, kPut2_ok, isL_l, kMu_ok, kFor_ok, kSeqI_l, kSeqI_l', kSeqI_t, kR2_ok, kRep_ok, rV_d, rV_l, cont_n, cont_c, ct1_s, wp_ok, wpC_ok, atI_0, atI_1, atI_2, atI_3, fIx_l, fIx_t, List.length_cons, List.length_nil, Nat.zero_add, Nat.reduceAdd, Int.reduceLT, Int.reduceLE, Int.reduceAdd, Int.reduceMul, Int.reduceToNat, Int.reduceNeg, Int.reduceSub, Nat.reduceLT, Nat.reduceLeDiff, Nat.reduceMul, gt_iff_lt, ge_iff_le, ixN_4_0, ixN_4_1, ixN_4_2, ixN_4_3, wipe_n, wipe_c, tgN_r, tgT_r, tgL_n, tgL_c, ofO_some, vw_d, vw_l, fAddI_int, fSub_int, fNeg_int, fMod_p, fMul_31, fMul_48271, fMul_69621, fPow18, fPow9, cCmp_int, cEq_int, cNe_int, cEq_str, cNe_str, cOrd_int, ev_aug, kAug_ok, ev_en, kEn_t, fIs_int, fIs_bool, fIs_none, fIs_str, fIs_list, fIs_tuple, isTy_int_int, isTy_int_bool, isTy_tuple_tuple, cIs_none, cIsNot_none, isNone_none, isNone_int, isNone_str, isNone_tuple, isNone_list, isNone_bool, truD_l, truD_t, truD_b, truD_n, bLen_l, bLen_t, bAbs_int, bInt_int, bMax_int, bMin_int, bList_l, bList_t, bTuple_l, bTuple_t, Option.map_some, Option.bind_some, List.getD_cons_zero, List.getD_cons_succ, List.set_cons_zero, List.set_cons_succ, if_true, if_false, lB, ↓reduceIte, Bool.not_true, Bool.not_false, kO1_ok, g1_s, kTru_ok, vf_d, vf_l, tk1_s, tkW_s, isO_l, isO_t, kF_ok, endF_r, endF_n, kF_ex, endX_s, rV_t, lpos_n, lpos_l, lpos_t, lpos_d, fAdd_int, ev_pN, ev_pS, kP1_i, ev_sl, kSl_ok, kSl2_ok, kSl3_ok, fSl_l, fSl_t, fRev_l, fRev_t, kR1_c, kR1_n, kR2_c, kLc_c, kRep2_n, gPut_n, gPut_c, gMu_app, rep_n, vw_d, List.length_map, List.length_range, rng_len, Int.toNat_natCast, beq_self_eq_true, Bool.not_true, Bool.not_false, Option.isNone_none, Option.isNone_some, decide_true, decide_false, ev_forN, List.isEmpty_nil, List.isEmpty_cons, kTg_2, kTg_3, ev_mv, gMv_s, ev_rvA, kRvA_t, kRvA_d, kRvA_l, ev_g1, kg1_i, ev_g2, kg2a_i, kg2_i, fNotT_l, fNotT_b, ev_tupR, ev_lstR, kTupR_s, kLstR_s, ev_rvR, kRvR_s, ev_rgD, kRgD_n, bRng1_i, ev_getD_S, kGetD0_s_S, kGetD_ok_S, gGet_s_S, ev_inD_S, kInD_ok_S, gIn_s_S, ev_putD_S, kPutD0_s_S, kPutD1_ok_S, kPutD2_ok_S, gPutD_s_S, kvI_w_S, kvI_d_S, vw_dc_S, $hs,*])
/-- values_of -/
def M124 (C : Orc) : MS :=
 (sSeq (sIf (tO2 cEq (.ex (eO2 fIx (.vr 0) (.ex (eC (.int 0))))) (.ex (eC (.str "options"))))
 (sRet (eO2 fIx (.vr 0) (.ex (eC (.int 1)))))
 sNx)
 (sRet (eTupR (gR2 (eO2 fIx (.vr 0) (.ex (eC (.int 1)))) (eO2 fAddI (.ex (eO2 fIx (.vr 0) (.ex (eC (.int 2))))) (.ex (eC (.int 1))))))))
def F124 (C : Orc) : List W → CRes := runF 1 1 [[]] (M124 C)
def M135b0 (C : Orc) : MS :=
 (sSeq (sSet 3 (eCall C 124 [.vl (eV 2)]))
 (sSet 1 (eLc2 (iAny (eV 1)) (tgN 4) mYes (iAny (eV 3)) (tgN 5) mYes (eO2 fAdd (.vr 4) (.ex (eTup [(eV 5)]))) [4, 5] [5])))
/-- rows_over -/
def M135 (C : Orc) : MS :=
 (sSeq (sSet 1 (eLst [(eTup [])]))
 (sSeq (sFor (iAny (eV 0)) (tgN 2)
 (M135b0 C))
 (sRet (eV 1))))
def F135 (C : Orc) : List W → CRes := runF 1 6 [[]] (M135 C)
def M136b0 (C : Orc) : MS :=
 (sE (eMu mApp 1 [(eTup [(eV 2), (eV 4)])]))
def M136b1 (C : Orc) : MS :=
 (sFor (iAny (eCall C 135 [.vl (eLc (iAny (eV 3)) (tgT [(tgN 5), (tgN 6)]) mYes (eV 6) [5, 6])])) (tgN 4)
 (M136b0 C))
/-- port_states -/
def M136 (C : Orc) : MS :=
 (sSeq (sSet 1 (eLst []))
 (sSeq (sFor (iAny (eO2 fIx (.vr 0) (.ex (eC (.int 0))))) (tgT [(tgN 2), (tgN 3)])
 (M136b1 C))
 (sRet (eB bTuple [(.vr 1)]))))
def F136 (C : Orc) : List W → CRes := runF 1 7 [[]] (M136 C)
/-- _law_column -/
def M154 (C : Orc) : MS :=
 (sSeq (sIf (tO2 cEq (.ex (eO2 fIx (.vr 0) (.ex (eC (.int 0))))) (.ex (eC (.str "options"))))
 (sRet (eB bList [(.ex (eO2 fIx (.vr 0) (.ex (eC (.int 1)))))]))
 sNx)
 (sRet (eLstR (gR2 (eO2 fIx (.vr 0) (.ex (eC (.int 1)))) (eO2 fAddI (.ex (eO2 fIx (.vr 0) (.ex (eC (.int 2))))) (.ex (eC (.int 1))))))))
def F154 (C : Orc) : List W → CRes := runF 1 1 [[]] (M154 C)
def M155b0 (C : Orc) : MS :=
 (sSet 1 (eO2 fMul (.vr 1) (.ex (eB bLen [(.ex (eCall C 154 [.vl (eO2 fIx (.vr 2) (.ex (eC (.int 1))))]))]))))
/-- _law_many -/
def M155 (C : Orc) : MS :=
 (sSeq (sSet 1 (eC (.int 1)))
 (sSeq (sFor (iAny (eV 0)) (tgN 2)
 (M155b0 C))
 (sRet (eV 1))))
def F155 (C : Orc) : List W → CRes := runF 1 3 [[]] (M155 C)
def M156b0 (C : Orc) : MS :=
 (sIf (tO2 cNotInT (.vr 6) (.vr 5))
 (sE (eMu mApp 5 [(eV 6)]))
 sNx)
/-- _law_domain -/
def M156 (C : Orc) : MS :=
 (sSeq (sSet 3 (eO2 fAddI (.ex (eC (.int 1))) (.ex (eCall C 5 [.rf 0, .vl (eV 2)]))))
 (sSeq (sIf (tO2 cEq (.ex (eCall C 5 [.rf 0, .vl (eC (.int 2))])) (.ex (eC (.int 0))))
 (sSeq (sSet 4 (eCall C 5 [.rf 0, .vl (eB bLen [(.vr 1)])]))
 (sSeq (sSet 5 (eLst []))
 (sSeq (sFor (iAny (eO2 fStp (.ex (eSl (.ex (eO2 fAdd (.vr 1) (.vr 1))) (some (eV 4)) (some (eO2 fAdd (.vr 4) (.vr 3))))) (.ex (eO2 fIx (.ex (eLst [(eC (.int 1)), (eO1 fNeg (.ex (eC (.int 1))))])) (.ex (eCall C 5 [.rf 0, .vl (eC (.int 2))])))))) (tgN 6)
 (M156b0 C))
 (sRet (eTup [(eC (.str "options")), (eB bTuple [(.vr 5)])])))))
 sNx)
 (sSeq (sSet 7 (eO2 fIx (.ex (eLst [(eC (.int 0)), (eC (.int 1)), (eO1 fNeg (.ex (eC (.int 2)))), (eC (.int 7)), (eC (.int 99995)), (eO1 fNeg (.ex (eC (.int 100000))))])) (.ex (eCall C 5 [.rf 0, .vl (eC (.int 6))]))))
 (sRet (eTup [(eC (.str "range")), (eV 7), (eO2 fSub (.ex (eO2 fAdd (.vr 7) (.vr 3))) (.ex (eC (.int 1))))])))))
def F156 (C : Orc) : List W → CRes := runF 3 8 [[0]] (M156 C)
def M157b0 (C : Orc) : MS :=
 (sSeq (sSet 8 (eO2 fIx (.vr 1) (.ex (eCall C 5 [.rf 0, .vl (eB bLen [(.vr 1)])]))))
 (sSeq (sSet 9 (eCall C 156 [.rf 0, .vl (eV 2), .vl (eO2 fIx (.ex (eLst [(eC (.int 2)), (eC (.int 3)), (eC (.int 4)), (eC (.int 6))])) (.ex (eCall C 5 [.rf 0, .vl (eC (.int 4))])))]))
 (sSeq (sSet 10 (eB bLen [(.ex (eCall C 154 [.vl (eV 9)]))]))
 (sIf (tAnd' (tO2 cNotInT (.vr 8) (.ex (eLcV 5 (tgN 11) mYes (eO2 fIx (.vr 11) (.ex (eC (.int 0)))) [11]))) (tO2 cLe (.ex (eO2 fMul (.vr 6) (.vr 10))) (.vr 4)))
 (sSeq (sE (eMu mApp 5 [(eTup [(eV 8), (eV 9)])]))
 (sSet 6 (eO2 fMul (.vr 6) (.vr 10))))
 sNx))))
/-- _law_attributes -/
def M157 (C : Orc) : MS :=
 (sSeq (sSet 5 (eLst []))
 (sSeq (sSet 6 (eC (.int 1)))
 (sSeq (sFor (iR1 (eV 3)) (tgN 7)
 (M157b0 C))
 (sRet (eB bTuple [(.vr 5)])))))
def F157 (C : Orc) : List W → CRes := runF 5 12 [[0]] (M157 C)
def M158b0 (C : Orc) : MS :=
 (sSeq (sSet 5 (eO2 fIx (.ex (eO2 fIx (.vr 1) (.ex (eCall C 5 [.rf 0, .vl (eB bLen [(.vr 1)])])))) (.ex (eC (.int 0)))))
 (sIf (tO2 cNotInT (.vr 5) (.vr 3))
 (sE (eMu mApp 3 [(eV 5)]))
 sNx))
def M158b1 (C : Orc) : MS :=
 (sSeq (sSet 8 (eO2 fIx (.ex (eLc (iAny (eV 1)) (tgN 10) (tO2 cEq (.ex (eO2 fIx (.vr 10) (.ex (eC (.int 0))))) (.vr 5)) (eO2 fIx (.vr 10) (.ex (eC (.int 1)))) [10])) (.ex (eC (.int 0)))))
 (sSeq (sSet 9 (eO2 fIx (.vr 8) (.ex (eCall C 5 [.rf 0, .vl (eB bLen [(.vr 8)])]))))
 (sSeq (sIf (tO2 cEq (.ex (eCall C 5 [.rf 0, .vl (eC (.int 9))])) (.ex (eC (.int 0))))
 (sSet 9 (eO2 fIx (.ex (eLst [(eC (.int 7)), (eO2 fIx (.vr 2) (.ex (eC (.int 0)))), (eO1 fNeg (.ex (eC (.int 1000000)))), (eC (.int 1000000))])) (.ex (eCall C 5 [.rf 0, .vl (eC (.int 4))]))))
 sNx)
 (sE (eMu mApp 7 [(eV 9)])))))
def M158b2 (C : Orc) : MS :=
 (sSeq (sSet 7 (eLst []))
 (sSeq (sFor (iAny (eV 3)) (tgN 5)
 (M158b1 C))
 (sE (eMu mApp 6 [(eB bTuple [(.vr 7)])]))))
/-- _law_table -/
def M158 (C : Orc) : MS :=
 (sSeq (sSet 3 (eLst []))
 (sSeq (sFor (iR1 (eO2 fAddI (.ex (eC (.int 1))) (.ex (eCall C 5 [.rf 0, .vl (eC (.int 3))])))) (tgN 4)
 (M158b0 C))
 (sSeq (sSet 6 (eLst []))
 (sSeq (sFor (iR1 (eO2 fIx (.ex (eLst [(eC (.int 1)), (eC (.int 2)), (eC (.int 4)), (eC (.int 12))])) (.ex (eCall C 5 [.rf 0, .vl (eC (.int 4))])))) (tgN 4)
 (M158b2 C))
 (sRet (eTup [(eB bTuple [(.vr 3)]), (eB bTuple [(.vr 6)])]))))))
def F158 (C : Orc) : List W → CRes := runF 3 11 [[0]] (M158 C)
def M394b0 (C : Orc) : MS :=
 (sSeq (sSet 10 (eO2 fIx (.vr 2) (.ex (eCall C 5 [.rf 0, .vl (eB bLen [(.vr 2)])]))))
 (sSeq (sSet 11 (eO2 fIx (.vr 3) (.ex (eCall C 5 [.rf 0, .vl (eB bLen [(.vr 3)])]))))
 (sIf (tAnd' (tO2 cNotInT (.vr 11) (.ex (eLcV 8 (tgN 20) mYes (eO2 fIx (.vr 20) (.ex (eC (.int 0)))) [20]))) (tO2 cLe (.ex (eO2 fMul (.vr 7) (.ex (eCall C 155 [.vl (eO2 fIx (.vr 10) (.ex (eC (.int 1))))])))) (.vr 5)))
 (sSeq (sE (eMu mApp 8 [(eTup [(eV 11), (eO2 fIx (.vr 10) (.ex (eC (.int 0))))])]))
 (sSet 7 (eO2 fMul (.vr 7) (.ex (eCall C 155 [.vl (eO2 fIx (.vr 10) (.ex (eC (.int 1))))])))))
 sNx)))
def M394b1 (C : Orc) : MS :=
 (sE (eMu mApp 15 [(eCall C 415 [.rf 0, .vl (eC (.str "condition")), .vl (eV 14), .vl (eV 4), .vl (eO2 fIx (.ex (eLst [(eC (.int 1)), (eC (.int 3)), (eC (.int 3)), (eC (.int 5)), (eC (.int 7)), (eC (.int 12))])) (.ex (eCall C 5 [.rf 0, .vl (eC (.int 6))]))), .vl (eC (.int 5))])]))
def M394b2 (C : Orc) : MS :=
 (sIf (tTru (.vr 13))
 (sE (eMu mApp 16 [(eCall C 158 [.rf 0, .vl (eV 13), .vl (eV 4)])]))
 sNx)
def M394b3 (C : Orc) : MS :=
 (sSeq (sSet 18 (eCall C 415 [.rf 0, .vl (eC (.str "condition")), .vl (eV 14), .vl (eV 4), .vl (eO2 fIx (.ex (eLst [(eC (.int 1)), (eC (.int 3)), (eC (.int 3)), (eC (.int 5)), (eC (.int 7)), (eC (.int 12))])) (.ex (eCall C 5 [.rf 0, .vl (eC (.int 6))]))), .vl (eC (.int 5))]))
 (sE (eMu mApp 17 [(eTup [(eV 18), (eO2 fIx (.ex (eLst [(eC (.int 0)), (eC (.int 1)), (eC (.int 2)), (eC (.int 9)), (eC (.int 1000000))])) (.ex (eCall C 5 [.rf 0, .vl (eC (.int 5))])))])])))
/-- _law_component -/
def M394 (C : Orc) : MS :=
 (sSeq (sSet 6 (eO2 fIx (.vr 2) (.ex (eCall C 5 [.rf 0, .vl (eB bLen [(.vr 2)])]))))
 (sSeq (sSet 7 (eCall C 155 [.vl (eO2 fIx (.vr 6) (.ex (eC (.int 1))))]))
 (sSeq (sSet 8 (eLst []))
 (sSeq (sFor (iR1 (eO2 fIx (.ex (eLst [(eC (.int 0)), (eC (.int 0)), (eC (.int 1)), (eC (.int 1)), (eC (.int 2)), (eC (.int 3))])) (.ex (eCall C 5 [.rf 0, .vl (eC (.int 6))])))) (tgN 9)
 (M394b0 C))
 (sSeq (sSet 12 (eCall C 157 [.rf 0, .vl (eV 3), .vl (eV 4), .vl (eO2 fIx (.ex (eLst [(eC (.int 0)), (eC (.int 0)), (eC (.int 1)), (eC (.int 2)), (eC (.int 3))])) (.ex (eCall C 5 [.rf 0, .vl (eC (.int 5))]))), .vl (eO2 fDiv (.vr 5) (.vr 7))]))
 (sSeq (sSet 13 (eCall C 163 [.vl (eTup [(eV 2), (eTup []), (eC (.str ""))]), .vl (eTup [(eV 1), (eO2 fIx (.vr 6) (.ex (eC (.int 0)))), (eV 12), (eV 8)])]))
 (sSeq (sSet 14 (eLc (iAny (eV 13)) (tgN 20) mYes (eTup [(eO2 fIx (.vr 20) (.ex (eC (.int 0)))), (eO2 fIx (.ex (eLst [(eC (.str "number")), (eC (.str "option"))])) (.ex (eB bInt [(.ex (eO1 (fIs "str") (.ex (eO2 fIx (.ex (eO2 fIx (.vr 20) (.ex (eC (.int 1))))) (.ex (eC (.int 0)))))))])))]) [20]))
 (sSeq (sSet 15 (eLst []))
 (sSeq (sFor (iR1 (eO2 fIx (.ex (eLst [(eC (.int 0)), (eC (.int 0)), (eC (.int 1)), (eC (.int 2)), (eC (.int 4))])) (.ex (eCall C 5 [.rf 0, .vl (eC (.int 5))])))) (tgN 9)
 (M394b1 C))
 (sSeq (sSet 16 (eLst []))
 (sSeq (sFor (iR1 (eO2 fIx (.ex (eLst [(eC (.int 0)), (eC (.int 0)), (eC (.int 0)), (eC (.int 1)), (eC (.int 2))])) (.ex (eCall C 5 [.rf 0, .vl (eC (.int 5))])))) (tgN 9)
 (M394b2 C))
 (sSeq (sSet 17 (eLst []))
 (sSeq (sFor (iR1 (eO2 fIx (.ex (eLst [(eC (.int 0)), (eC (.int 0)), (eC (.int 1)), (eC (.int 2)), (eC (.int 4))])) (.ex (eCall C 5 [.rf 0, .vl (eC (.int 5))])))) (tgN 9)
 (M394b3 C))
 (sSeq (sSet 19 (eO2 fIx (.ex (eLst [(eC (.int 0)), (eC (.int 0)), (eC (.int 1)), (eC (.int 3)), (eC (.int 10)), (eC (.int 1000000))])) (.ex (eCall C 5 [.rf 0, .vl (eC (.int 6))]))))
 (sRet (eTup [(eV 1), (eO2 fIx (.vr 6) (.ex (eC (.int 0)))), (eV 12), (eB bTuple [(.vr 8)]), (eB bTuple [(.vr 15)]), (eB bTuple [(.vr 16)]), (eV 19), (eB bTuple [(.vr 17)])]))))))))))))))))
def F394 (C : Orc) : List W → CRes := runF 6 21 [[0]] (M394 C)
/-- _law_definition -/
def M395 (C : Orc) : MS :=
 (sRet (eCall C 396 [.rf 0, .vl (eV 1), .vl (eCall C 39 [.rf 0, .vl (eC (.int 13))])]))
def F395 (C : Orc) : List W → CRes := runF 2 2 [[0]] (M395 C)
def M396b0 (C : Orc) : MS :=
 (sSeq (sSet 6 (eO2 fIx (.vr 2) (.ex (eCall C 5 [.rf 0, .vl (eB bLen [(.vr 2)])]))))
 (sSeq (sSet 7 (eO2 fIx (.ex (eLst [(eC (.int 4)), (eC (.int 4)), (eC (.int 4)), (eC (.int 4)), (eC (.int 4)), (eC (.int 4)), (eC (.int 4)), (eC (.int 6))])) (.ex (eCall C 5 [.rf 0, .vl (eC (.int 8))]))))
 (sIf (tO2 cNotInT (.vr 6) (.ex (eLcV 4 (tgN 10) mYes (eO2 fIx (.vr 10) (.ex (eC (.int 0)))) [10])))
 (sE (eMu mApp 4 [(eTup [(eV 6), (eCall C 157 [.rf 0, .vl (eV 2), .vl (eV 3), .vl (eO2 fIx (.ex (eLst [(eC (.int 0)), (eC (.int 1)), (eC (.int 1)), (eC (.int 2)), (eC (.int 3))])) (.ex (eCall C 5 [.rf 0, .vl (eC (.int 5))]))), .vl (eV 7)])])]))
 sNx)))
def M396b1 (C : Orc) : MS :=
 (sIf (tTru (.vr 9))
 (sSeq (sSet 6 (eMu mPopAt 9 [(eCall C 5 [.rf 0, .vl (eB bLen [(.vr 9)])])]))
 (sE (eMu mApp 8 [(eCall C 394 [.rf 0, .vl (eV 6), .vl (eV 4), .vl (eV 2), .vl (eV 3), .vl (eV 1)])])))
 sNx)
def M396b2 (C : Orc) : MS :=
 (sIf (tTru (.vr 9))
 (sSeq (sSet 6 (eMu mPopAt 9 [(eCall C 5 [.rf 0, .vl (eB bLen [(.vr 9)])])]))
 (sE (eMu mApp 8 [(eTup [(eV 6), (eO2 fIx (.vr 10) (.ex (eC (.int 0)))), (eTup []), (eTup []), (eTup []), (eTup []), (eCall C 5 [.rf 0, .vl (eC (.int 4))]), (eTup [])])])))
 sNx)
/-- _law_defined -/
def M396 (C : Orc) : MS :=
 (sSeq (sSet 3 (eO2 fAdd (.ex (eCall C 42 [.rf 0])) (.ex (eLst [(eCall C 41 [.rf 0])]))))
 (sSeq (sSet 4 (eLst []))
 (sSeq (sFor (iR1 (eO2 fIx (.ex (eLst [(eC (.int 1)), (eC (.int 2)), (eC (.int 2)), (eC (.int 3)), (eC (.int 4)), (eC (.int 6))])) (.ex (eCall C 5 [.rf 0, .vl (eC (.int 6))])))) (tgN 5)
 (M396b0 C))
 (sSeq (sSet 8 (eLst []))
 (sSeq (sSet 9 (eB bList [(.vr 2)]))
 (sSeq (sFor (iR1 (eO2 fIx (.ex (eLst [(eC (.int 1)), (eC (.int 2)), (eC (.int 3)), (eC (.int 4)), (eC (.int 6))])) (.ex (eCall C 5 [.rf 0, .vl (eC (.int 5))])))) (tgN 5)
 (M396b1 C))
 (sSeq (sIf (tO2 cEq (.ex (eCall C 5 [.rf 0, .vl (eC (.int 2))])) (.ex (eC (.int 0))))
 (sFor (iAny (eV 4)) (tgN 10)
 (M396b2 C))
 sNx)
 (sRet (eTup [(eB bTuple [(.vr 4)]), (eB bTuple [(.vr 8)]), (eO2 fIx (.ex (eO2 fIx (.vr 4) (.ex (eCall C 5 [.rf 0, .vl (eB bLen [(.vr 4)])])))) (.ex (eC (.int 0))))])))))))))
def F396 (C : Orc) : List W → CRes := runF 3 11 [[0]] (M396 C)
def M162b0 (C : Orc) : MS :=
 (sIf (tO2 cEq (.ex (eO2 fIx (.vr 2) (.ex (eC (.int 0))))) (.vr 1))
 (sRet (eV 2))
 sNx)
/-- _law_port -/
def M162 (C : Orc) : MS :=
 (sSeq (sFor (iAny (eO2 fIx (.vr 0) (.ex (eC (.int 0))))) (tgN 2)
 (M162b0 C))
 (sRet (eO2 fIx (.ex (eO2 fIx (.vr 0) (.ex (eC (.int 0))))) (.ex (eC (.int 0))))))
def F162 (C : Orc) : List W → CRes := runF 2 3 [[]] (M162 C)
def M397b0 (C : Orc) : MS :=
 (sE (eMu mApp 2 [(eO2 fAdd (.vr 3) (.ex (eTup [(eV 4)])))]))
def M397b1 (C : Orc) : MS :=
 (sFor (iAny (eV 1)) (tgN 4)
 (M397b0 C))
/-- _law_longer -/
def M397 (C : Orc) : MS :=
 (sSeq (sSet 2 (eLst []))
 (sSeq (sFor (iAny (eV 0)) (tgN 3)
 (M397b1 C))
 (sRet (eV 2))))
def F397 (C : Orc) : List W → CRes := runF 2 5 [[]] (M397 C)
def M398b0 (C : Orc) : MS :=
 (sSet 1 (eCall C 397 [.vl (eV 1), .vl (eV 2)]))
/-- _law_all_rows -/
def M398 (C : Orc) : MS :=
 (sSeq (sSet 1 (eLst [(eTup [])]))
 (sSeq (sFor (iAny (eV 0)) (tgN 2)
 (M398b0 C))
 (sRet (eV 1))))
def F398 (C : Orc) : List W → CRes := runF 1 3 [[]] (M398 C)
def M399b0 (C : Orc) : MS :=
 (sE (eMu mApp 1 [(eTup [(eO2 fIx (.vr 2) (.ex (eC (.int 0)))), (eV 3)])]))
def M399b1 (C : Orc) : MS :=
 (sFor (iAny (eCall C 398 [.vl (eLc (iAny (eO2 fIx (.vr 2) (.ex (eC (.int 1))))) (tgN 4) mYes (eCall C 154 [.vl (eO2 fIx (.vr 4) (.ex (eC (.int 1))))]) [4])])) (tgN 3)
 (M399b0 C))
/-- _law_states -/
def M399 (C : Orc) : MS :=
 (sSeq (sSet 1 (eLst []))
 (sSeq (sFor (iAny (eO2 fIx (.vr 0) (.ex (eC (.int 0))))) (tgN 2)
 (M399b1 C))
 (sRet (eV 1))))
def F399 (C : Orc) : List W → CRes := runF 1 5 [[]] (M399 C)
def M163b0 (C : Orc) : MS :=
 (sE (eMu mApp 2 [(eTup [(eO2 fAddS (.ex (eC (.str "plug."))) (.ex (eO2 fIx (.vr 3) (.ex (eC (.int 0)))))), (eCall C 154 [.vl (eO2 fIx (.vr 3) (.ex (eC (.int 1))))])])]))
def M163b1 (C : Orc) : MS :=
 (sE (eMu mApp 2 [(eTup [(eO2 fAddS (.ex (eO2 fAddS (.ex (eO2 fIx (.vr 4) (.ex (eC (.int 0))))) (.ex (eC (.str "."))))) (.ex (eO2 fIx (.vr 3) (.ex (eC (.int 0)))))), (eCall C 154 [.vl (eO2 fIx (.vr 3) (.ex (eC (.int 1))))])])]))
def M163b2 (C : Orc) : MS :=
 (sFor (iAny (eO2 fIx (.ex (eCall C 162 [.vl (eV 0), .vl (eO2 fIx (.vr 4) (.ex (eC (.int 1))))])) (.ex (eC (.int 1))))) (tgN 3)
 (M163b1 C))
/-- _law_all_variables -/
def M163 (C : Orc) : MS :=
 (sSeq (sSet 2 (eLc (iAny (eO2 fIx (.vr 1) (.ex (eC (.int 2))))) (tgN 3) mYes (eTup [(eO2 fIx (.vr 3) (.ex (eC (.int 0)))), (eCall C 154 [.vl (eO2 fIx (.vr 3) (.ex (eC (.int 1))))])]) [3]))
 (sSeq (sFor (iAny (eO2 fIx (.ex (eCall C 162 [.vl (eV 0), .vl (eO2 fIx (.vr 1) (.ex (eC (.int 1))))])) (.ex (eC (.int 1))))) (tgN 3)
 (M163b0 C))
 (sSeq (sFor (iAny (eO2 fIx (.vr 1) (.ex (eC (.int 3))))) (tgN 4)
 (M163b2 C))
 (sRet (eV 2)))))
def F163 (C : Orc) : List W → CRes := runF 2 5 [[]] (M163 C)
/-! ### domains, attributes, port kinds -/
inductive Dm where
  | op (ss : List Str)
  | rg (a : Int) (n : Nat)
def Dm.dat : Dm → D
  | .op ss => .tuple [.str "options", .tuple (ss.map PyData.str)]
  | .rg a n => .tuple [.str "range", .int a, .int (a + (n : Int) - 1)]
def Dm.vals : Dm → List D
  | .op ss => ss.map PyData.str
  | .rg a n => rng a n
def Dm.Ok : Dm → Prop
  | .op ss => ss ≠ [] ∧ ss.length ≤ 6 ∧ ∀ s ∈ ss, s.length ≤ 100 ∧ sk s = true
  | .rg a n => 1 ≤ n ∧ n ≤ 6 ∧ a.natAbs ≤ 100000
theorem Dm.Ok.len {d : Dm} (h : d.Ok) : 1 ≤ d.vals.length ∧ d.vals.length ≤ 6 := by
  cases d with
  | op ss =>
    obtain ⟨h1, h2, _⟩ := h
    have := List.length_pos_iff.mpr h1
    show 1 ≤ (ss.map PyData.str).length ∧ (ss.map PyData.str).length ≤ 6
    rw [List.length_map]; omega
  | rg a n =>
    show 1 ≤ (rng a n).length ∧ (rng a n).length ≤ 6
    rw [rng_len]; exact ⟨h.1, h.2.1⟩
abbrev At := Str × Dm
def atD (p : At) : D := .tuple [.str p.1, p.2.dat]
theorem atD_0 (p : At) : fIx (atD p) (.int 0) = some (.d (.str p.1)) := Eq.trans rfl rfl
theorem atD_1 (p : At) : fIx (atD p) (.int 1) = some (.d p.2.dat) := Eq.trans rfl rfl
abbrev Pt := Str × List At
def ptD (p : Pt) : D := .tuple [.str p.1, .tuple (p.2.map atD)]
theorem ptD_0 (p : Pt) : fIx (ptD p) (.int 0) = some (.d (.str p.1)) := Eq.trans rfl rfl
theorem ptD_1 (p : Pt) : fIx (ptD p) (.int 1) = some (.d (.tuple (p.2.map atD))) := Eq.trans rfl rfl
/-- a word of the law -/
def Wd (s : Str) : Prop := s.length ≤ 40 ∧ sk s = true ∧ pln s = true ∧ s ≠ "plug"
structure AtOk (p : At) : Prop where
  wd : Wd p.1
  ok : p.2.Ok
structure AtsOk (as : List At) : Prop where
  len : as.length ≤ 3
  nd : (as.map (·.1)).Nodup
  ok : ∀ p ∈ as, AtOk p
structure PtOk (p : Pt) : Prop where
  nm : Wd p.1
  at_ : AtsOk p.2
structure PtsOk (ps : List Pt) : Prop where
  ne : ps ≠ []
  len : ps.length ≤ 6
  nd : (ps.map (·.1)).Nodup
  ok : ∀ p ∈ ps, PtOk p
theorem opt_rng : (("range" : Str) == "options") = false := by decide +kernel
theorem column_ok (C : Orc) (d : Dm) (h : d.Ok) : F154 C [.d d.dat] = .ok (.d (.list d.vals)) [] := by
  have run : WpC (F154 C [.d d.dat]) fun w q => w = .d (.list d.vals) ∧ q = [] := by
    refine wpC_run (m := M154 C) rfl rfl rfl ?_
    simp only [List.map_cons, List.map_nil, List.cons_append, List.nil_append, List.replicate]
    unfold M154
    cases d with
    | op ss =>
      push_cast [Dm.dat]
      exact ⟨by first | trivial | rfl, by trivial⟩
    | rg a n =>
      have h1 := h.2.1
      have h2 := h.2.2
      push_cast [Dm.dat, opt_rng, show (a + (n : Int) - 1 + 1 - a).toNat = n by omega]
      exact ⟨by first | trivial | rfl, by trivial⟩
  obtain ⟨w, q, h, rfl, rfl⟩ := run
  exact h
theorem values_ok (C : Orc) (d : Dm) (h : d.Ok) : F124 C [.d d.dat] = .ok (.d (.tuple d.vals)) [] := by
  have run : WpC (F124 C [.d d.dat]) fun w q => w = .d (.tuple d.vals) ∧ q = [] := by
    refine wpC_run (m := M124 C) rfl rfl rfl ?_
    simp only [List.map_cons, List.map_nil, List.cons_append, List.nil_append, List.replicate]
    unfold M124
    cases d with
    | op ss =>
      push_cast [Dm.dat]
      exact ⟨by first | trivial | rfl, by trivial⟩
    | rg a n =>
      have h1 := h.2.1
      have h2 := h.2.2
      push_cast [Dm.dat, opt_rng, show (a + (n : Int) - 1 + 1 - a).toNat = n by omega]
      exact ⟨by first | trivial | rfl, by trivial⟩
  obtain ⟨w, q, h, rfl, rfl⟩ := run
  exact h
/-! ### rows over columns -/
def ext1 (rows : List (List D)) (col : List D) : List (List D) := rows.flatMap fun r => col.map fun v => r ++ [v]
def cross (cols : List (List D)) : List (List D) := cols.foldl ext1 [[]]
def szs1 (cols : List (List D)) : Nat := (cols.map List.length).foldl (· * ·) 1
theorem szs1_snoc (cs : List (List D)) (c : List D) : szs1 (cs ++ [c]) = szs1 cs * c.length := by unfold szs1; rw [List.map_append, List.foldl_append]; rfl
theorem szs1_le {cols : List (List D)} (h : ∀ c ∈ cols, c.length ≤ 6) : szs1 cols ≤ 6 ^ cols.length := by
  obtain ⟨n, hn⟩ : ∃ n, n = cols.length := ⟨_, rfl⟩
  induction n generalizing cols with
  | zero =>
    have : cols = [] := List.length_eq_zero_iff.mp hn.symm
    subst this; exact Nat.le_refl _
  | succ n ih =>
    rcases List.eq_nil_or_concat cols with rfl | ⟨cs, c, rfl⟩
    · cases hn
    · rw [List.concat_eq_append] at *
      rw [List.length_append, List.length_singleton] at hn
      rw [szs1_snoc, List.length_append, List.length_singleton, Nat.pow_succ]
      exact Nat.mul_le_mul (ih (fun x hx => h x (List.mem_append_left _ hx)) (by omega)) (h c (by simp))
theorem szs1_pos {cols : List (List D)} (h : ∀ c ∈ cols, 1 ≤ c.length) : 1 ≤ szs1 cols := by
  obtain ⟨n, hn⟩ : ∃ n, n = cols.length := ⟨_, rfl⟩
  induction n generalizing cols with
  | zero =>
    have : cols = [] := List.length_eq_zero_iff.mp hn.symm
    subst this; exact Nat.le_refl _
  | succ n ih =>
    rcases List.eq_nil_or_concat cols with rfl | ⟨cs, c, rfl⟩
    · cases hn
    · rw [List.concat_eq_append] at *
      rw [List.length_append, List.length_singleton] at hn
      rw [szs1_snoc]
      exact Nat.mul_pos (ih (fun x hx => h x (List.mem_append_left _ hx)) (by omega)) (h c (by simp))
def colsOf (as : List At) : List (List D) := as.map fun p => p.2.vals
theorem AtsOk.cols {as : List At} (h : AtsOk as) : (∀ c ∈ colsOf as, 1 ≤ c.length ∧ c.length ≤ 6) ∧ (colsOf as).length ≤ 3 := by
  refine ⟨fun c hc => ?_, by unfold colsOf; rw [List.length_map]; exact h.len⟩
  obtain ⟨p, hp, rfl⟩ := List.mem_map.mp hc
  exact (h.ok p hp).ok.len
theorem AtsOk.size {as : List At} (h : AtsOk as) : 1 ≤ szs1 (colsOf as) ∧ szs1 (colsOf as) ≤ 216 := by
  obtain ⟨h1, h2⟩ := h.cols
  refine ⟨szs1_pos fun c hc => (h1 c hc).1, Nat.le_trans (szs1_le fun c hc => (h1 c hc).2) ?_⟩
  exact Nat.le_trans (Nat.pow_le_pow_right (by decide) h2) (by decide)
theorem fAdd_tt {xs ys : List D} (h : xs.length + ys.length ≤ 16777216) : fAdd (.tuple xs) (.tuple ys) = some (.d (.tuple (xs ++ ys))) := if_pos h
/-! ### port states -/
def stD (s : Str) (r : List D) : D := .tuple [.str s, .tuple r]
def stsOf (p : Pt) : List D := (cross (colsOf p.2)).map (stD p.1)
def stsAll (ps : List Pt) : List D := ps.flatMap stsOf
def defD (ps : List Pt) (cs : D) (root : D) : D := .tuple [.tuple (ps.map ptD), cs, root]
theorem fMul_nn {i : Int} {n : Nat} (h : n ≤ 1000000) : fMul (.int i) (.int (n : Int)) = some (.d (.int (i * n))) := if_pos (.inr (.inl (by omega)))
theorem many_ok (C : Orc) (h154 : ∀ d : Dm, d.Ok → C 154 [.d d.dat] = .ok (.d (.list d.vals)) []) (as : List At) (ha : AtsOk as) : F155 C [.d (.tuple (as.map atD))] = .ok (.d (.int (szs1 (colsOf as) : Nat))) [] := by
  have run : WpC (F155 C [.d (.tuple (as.map atD))]) fun w q => w = .d (.int (szs1 (colsOf as) : Nat)) ∧ q = [] := by
    refine wpC_run (m := M155 C) rfl rfl rfl ?_
    simp only [List.map_cons, List.map_nil, List.cons_append, List.nil_append, List.replicate]
    unfold M155
    obtain ⟨e', g1, x2, rfl⟩ := forT_inv (dat := atD) (tg := tgN 2) (b := M155b0 C) (xs := as)
      (fun pre e => ∃ x2 : Option W, e = [some (.d (.tuple (as.map atD))), some (.d (.int (szs1 (colsOf pre) : Nat))), x2])
      (e := [some (.d (.tuple (as.map atD))), some (.d (.int 1)), none]) ⟨_, rfl⟩ (fun pre a post e hx hI => by
        obtain ⟨x2, rfl⟩ := hI
        refine ⟨_, rfl, ?_⟩
        have ho := (ha.ok a (by rw [hx]; simp)).ok
        have hl := ho.len.2
        unfold M155b0
        push_cast [atD_1, h154 a.2 ho, fMul_nn (n := a.2.vals.length) (by omega)]
        refine ⟨by simp, some (.d (atD a)), ?_⟩
        rw [show colsOf (pre ++ [a]) = colsOf pre ++ [a.2.vals] by unfold colsOf; rw [List.map_append]; rfl, szs1_snoc, Int.natCast_mul])
    push_cast [g1]
    exact ⟨by trivial, by trivial⟩
  obtain ⟨w, q, h, rfl, rfl⟩ := run
  exact h
/-! ### drawn domains -/
theorem cut_zs (os : List Str) (hol : os.length = 4) (s n : Nat) (hs : s < 4) (hn : 1 ≤ n) (hn6 : n ≤ 6) : ∃ zs : List Str, cutD (os.map PyData.str ++ os.map PyData.str) (some (s : Int)) (some ((s : Int) + (n : Int))) = zs.map PyData.str ∧ zs ≠ [] ∧ zs.length ≤ 6 ∧ ∀ z ∈ zs, z ∈ os := by
  refine ⟨((os ++ os).drop s).take (min (s + n) 8 - s), ?_, ?_, ?_, fun z hz => ?_⟩
  · unfold cutD
    have e1 : (os.map PyData.str ++ os.map PyData.str).length = 8 := by rw [List.length_append, List.length_map, hol]
    rw [e1, HT.sIx_nat, show (s : Int) + (n : Int) = ((s + n : Nat) : Int) by omega, HT.sIx_nat, ← List.map_append, List.map_take, List.map_drop, show min s 8 = s by omega]
  · intro e
    have := congrArg List.length e
    rw [List.length_take, List.length_drop, List.length_append, hol, List.length_nil] at this
    omega
  · rw [List.length_take]; omega
  · have h := List.mem_of_mem_drop (List.mem_of_mem_take hz)
    rcases List.mem_append.mp h with h | h <;> exact h
theorem dom_loop (C : Orc) (zs : List Str) (x0 x1 x2 x3 x4 x7 : Option W) (hl : zs.length ≤ 6) : ∃ (ss : List Str) (x6 : Option W), forL (tgN 6) (M156b0 C) (zs.map PyData.str) [x0, x1, x2, x3, x4, some (.l []), none, x7] = .ok .nx [x0, x1, x2, x3, x4, some (.l (ss.map PyData.str)), x6, x7] ∧ (zs ≠ [] → ss ≠ []) ∧ ss.length ≤ zs.length ∧ ∀ s ∈ ss, s ∈ zs := by
  obtain ⟨e', g1, ss, x6, rfl, h1, h2, h3⟩ := forT_inv (dat := PyData.str) (tg := tgN 6) (b := M156b0 C) (xs := zs)
    (fun pre e => ∃ (ss : List Str) (x6 : Option W), e = [x0, x1, x2, x3, x4, some (.l (ss.map PyData.str)), x6, x7] ∧ (pre ≠ [] → ss ≠ []) ∧ ss.length ≤ pre.length ∧ ∀ s ∈ ss, s ∈ pre)
    (e := [x0, x1, x2, x3, x4, some (.l []), none, x7]) ⟨[], none, rfl, (fun h => absurd rfl h), Nat.le_refl _, (fun _ h => by cases h)⟩ (fun pre z post e hx hI => by
      obtain ⟨ss, x6, rfl, h1, h2, h3⟩ := hI
      refine ⟨_, rfl, ?_⟩
      have hpl : pre.length ≤ 6 := by
        have := congrArg List.length hx
        rw [List.length_append, List.length_cons] at this
        omega
      have hin := cNotInT_s z ss
      unfold M156b0
      by_cases hb : z ∈ ss
      · rw [decide_eq_true hb] at hin
        push_cast [hin]
        exact ⟨by simp, ss, _, rfl, (fun _ e => by rw [e] at hb; cases hb), by rw [List.length_append]; omega, fun s hs => List.mem_append_left _ (h3 s hs)⟩
      · rw [decide_eq_false hb] at hin
        push_cast [hin]
        refine ⟨by simp, ss ++ [z], _, by rw [List.map_append]; rfl, (fun _ => by simp), by rw [List.length_append, List.length_append, List.length_singleton]; omega, fun s hs => ?_⟩
        rcases List.mem_append.mp hs with hs | hs
        · exact List.mem_append_left _ (h3 s hs)
        · exact List.mem_append_right _ hs)
  exact ⟨ss, x6, g1, h1, h2, h3⟩
theorem domain_ok (C : Orc) (hD : DrawS C) (os : List Str) (hol : os.length = 4) (hos : ∀ s ∈ os, s.length ≤ 100 ∧ sk s = true) (m : Nat) (hm : 1 ≤ m) (hm6 : m ≤ 6) {t : List D} (ht : TapeOk t) :
    ∃ (d : Dm) (t' : List D), F156 C [.l t, .d (.list (os.map PyData.str)), .d (.int (m : Int))] = .ok (.d d.dat) [.l t'] ∧ TapeOk t' ∧ d.Ok := by
  have run : WpC (F156 C [.l t, .d (.list (os.map PyData.str)), .d (.int (m : Int))]) fun w o => ∃ (d : Dm) (t' : List D), w = .d d.dat ∧ o = [.l t'] ∧ TapeOk t' ∧ d.Ok := by
    refine wpC_run (m := M156 C) rfl rfl rfl ?_
    simp only [List.map_cons, List.map_nil, List.cons_append, List.nil_append, List.replicate]
    unfold M156
    obtain ⟨k1, t1, h1, ht1, a1, b1⟩ := hD t ht (m : Int) (log_small (by omega))
    obtain ⟨n, hn⟩ : ∃ n : Nat, 1 + k1 = (n : Int) := ⟨(1 + k1).toNat, by omega⟩
    obtain ⟨k2, t2, h2, ht2, a2, b2⟩ := hD t1 ht1 2 (by decide)
    by_cases c0 : k2 = 0
    · subst c0
      obtain ⟨k3, t3, h3, ht3, a3, b3⟩ := hD t2 ht2 (os.length : Int) (log_small (by omega))
      obtain ⟨s, rfl⟩ : ∃ s : Nat, k3 = (s : Int) := ⟨k3.toNat, by omega⟩
      obtain ⟨zs, hz, hzn, hzl, hzm⟩ := cut_zs os hol s n (by omega) (by omega) (by omega)
      obtain ⟨k4, t4, h4, ht4, a4, b4⟩ := hD t3 ht3 2 (by decide)
      obtain ⟨i, hi, him⟩ := at_inI (ns := [1, -1]) a4 (by simp only [List.length_cons, List.length_nil]; omega)
      have hi : atI [PyData.int 1, PyData.int (-1)] k4 = some (.int i) := hi
      have fin : ∃ ys : List Str, fStp (.list (zs.map PyData.str)) (.int i) = some (.l (ys.map PyData.str)) ∧ ys ≠ [] ∧ ys.length ≤ 6 ∧ ∀ z ∈ ys, z ∈ os := by
        simp only [List.mem_cons, List.not_mem_nil, or_false] at him
        rcases him with rfl | rfl
        · exact ⟨zs, fStp_1, hzn, hzl, hzm⟩
        · exact ⟨zs.reverse, by rw [fStp_m, List.map_reverse], by simpa using hzn, by rw [List.length_reverse]; exact hzl, fun z h => hzm z (List.mem_reverse.mp h)⟩
      obtain ⟨ys, hy, hyn, hyl, hym⟩ := fin
      obtain ⟨ss, x6, g, s1, s2, s3⟩ := dom_loop C ys (some (.l t4)) (some (.d (.list (os.map PyData.str)))) (some (.d (.int (m : Int)))) (some (.d (.int (n : Int)))) (some (.d (.int (s : Int)))) none hyl
      push_cast [h1, hn, h2, h3, fAdd_li (xs := os.map PyData.str) (ys := os.map PyData.str) (by rw [List.length_map]; omega), hz, h4, hi, hy, g]
      refine ⟨.op ss, t4, rfl, rfl, ht4, s1 hyn, by omega, fun z h => hos z (hym z (s3 z h))⟩
    · have c0 : (k2 == 0) = false := beq_eq_false_iff_ne.mpr c0
      obtain ⟨k3, t3, h3, ht3, a3, b3⟩ := hD t2 ht2 6 (by decide)
      obtain ⟨a, ha, ham⟩ := at_inI (ns := [0, 1, -2, 7, 99995, -100000]) a3 (by simp only [List.length_cons, List.length_nil]; omega)
      have ha : atI [PyData.int 0, PyData.int 1, PyData.int (-2), PyData.int 7, PyData.int 99995, PyData.int (-100000)] k3 = some (.int a) := ha
      push_cast [h1, hn, h2, c0, h3, ha]
      refine ⟨.rg a n, t3, rfl, rfl, ht3, by omega, by omega, ?_⟩
      simp only [List.mem_cons, List.not_mem_nil, or_false] at ham
      omega
  obtain ⟨w, o, h, d, t', rfl, rfl, r⟩ := run
  exact ⟨d, t', h, r⟩
/-! ### drawn attributes -/
def DomS (C : Orc) (os : List Str) : Prop := ∀ t, TapeOk t → ∀ m : Nat, 1 ≤ m → m ≤ 6 → ∃ (d : Dm) (t' : List D), C 156 [.l t, .d (.list (os.map PyData.str)), .d (.int (m : Int))] = .ok (.d d.dat) [.l t'] ∧ TapeOk t' ∧ d.Ok
def ColS (C : Orc) : Prop := ∀ d : Dm, d.Ok → C 154 [.d d.dat] = .ok (.d (.list d.vals)) []
def WsOk (ws : List Str) : Prop := ws ≠ [] ∧ ws.length ≤ 1000 ∧ (∀ s ∈ ws, Wd s) ∧ ws.Nodup
theorem nm_attr {C : Orc} {x0 x1 x2 x3 x4 x6 x7 x8 x9 x10 x11 : Option W} {as : List At} (hl : as.length < 16777216) :
    eLcV 5 (tgN 11) mYes (eO2 fIx (.vr 11) (.ex (eC (.int 0)))) [11] [x0, x1, x2, x3, x4, some (.l (as.map atD)), x6, x7, x8, x9, x10, x11] = .ok (.l ((as.map (·.1)).map PyData.str)) [x0, x1, x2, x3, x4, some (.l (as.map atD)), x6, x7, x8, x9, x10, none] := by
  have h := cmpT_map (dat := atD) (tg := tgN 11) (te := eO2 fIx (.vr 11) (.ex (eC (.int 0)))) (vs := [11]) (xs := as) (e := [x0, x1, x2, x3, x4, none, x6, x7, x8, x9, x10, none]) (f := fun p => PyData.str p.1) (fun p hp => ⟨_, rfl, by push_cast [atD_0]; exact ⟨by first | rfl | trivial, by first | rfl | trivial⟩⟩)
  have e := ev_lcv (i := 5) (tg := tgN 11) (tt := mYes) (te := eO2 fIx (.vr 11) (.ex (eC (.int 0)))) (vs := [11]) (e := [x0, x1, x2, x3, x4, some (.l (as.map atD)), x6, x7, x8, x9, x10, x11]) (xs := as.map atD) rfl (by rw [List.length_map]; exact hl) (by
    show cmpL _ _ _ _ _ [x0, x1, x2, x3, x4, none, x6, x7, x8, x9, x10, none] = _
    exact h) rfl
  rw [e, List.map_map]; rfl
theorem attributes_ok (C : Orc) (hD : DrawS C) (os ws : List Str) (hw : WsOk ws) (hd : DomS C os) (h154 : ColS C) (n : Nat) (hn : n ≤ 3) (room : Int) {t : List D} (ht : TapeOk t) :
    ∃ (as : List At) (t' : List D), F157 C [.l t, .d (.list (ws.map PyData.str)), .d (.list (os.map PyData.str)), .d (.int (n : Int)), .d (.int room)] = .ok (.d (.tuple (as.map atD))) [.l t'] ∧ TapeOk t' ∧ AtsOk as := by
  have run : WpC (F157 C [.l t, .d (.list (ws.map PyData.str)), .d (.list (os.map PyData.str)), .d (.int (n : Int)), .d (.int room)]) fun w o => ∃ (as : List At) (t' : List D), w = .d (.tuple (as.map atD)) ∧ o = [.l t'] ∧ TapeOk t' ∧ AtsOk as := by
    refine wpC_run (m := M157 C) rfl rfl rfl ?_
    simp only [List.map_cons, List.map_nil, List.cons_append, List.nil_append, List.replicate]
    unfold M157
    obtain ⟨hw1, hw2, hw3, hw4⟩ := hw
    have hwp := List.length_pos_iff.mpr hw1
    obtain ⟨e', g1, t3, as, z, x7, x8, x9, x10, rfl, ht3, hal, hnd, hao⟩ := forN_inv (tg := tgN 7) (b := M157b0 C) (n := n)
      (fun i e => ∃ (t3 : List D) (as : List At) (z : Int) (x7 x8 x9 x10 : Option W), e = [some (.l t3), some (.d (.list (ws.map PyData.str))), some (.d (.list (os.map PyData.str))), some (.d (.int (n : Int))), some (.d (.int room)), some (.l (as.map atD)), some (.d (.int z)), x7, x8, x9, x10, none] ∧ TapeOk t3 ∧ as.length ≤ i ∧ (as.map (·.1)).Nodup ∧ ∀ p ∈ as, AtOk p)
      (e := [some (.l t), some (.d (.list (ws.map PyData.str))), some (.d (.list (os.map PyData.str))), some (.d (.int (n : Int))), some (.d (.int room)), some (.l []), some (.d (.int 1)), none, none, none, none, none])
      ⟨t, [], 1, _, _, _, _, rfl, ht, Nat.le_refl _, List.nodup_nil, (fun _ h => by cases h)⟩ (fun i e hi hI => by
        obtain ⟨t3, as, z, x7, x8, x9, x10, rfl, ht3, hal, hnd, hao⟩ := hI
        refine ⟨_, rfl, ?_⟩
        obtain ⟨k4, t4, h4, ht4, a4, b4⟩ := hD t3 ht3 (ws.length : Int) (log_small (by omega))
        obtain ⟨nm, hnm, hnmm⟩ := at_inS (ss := ws) a4 (by omega)
        obtain ⟨k5, t5, h5, ht5, a5, b5⟩ := hD t4 ht4 4 (by decide)
        obtain ⟨m, hm, hmm⟩ := at_inI (ns := [2, 3, 4, 6]) a5 (by simp only [List.length_cons, List.length_nil]; omega)
        have hm : atI [PyData.int 2, PyData.int 3, PyData.int 4, PyData.int 6] k5 = some (.int m) := hm
        have hmb : 1 ≤ m ∧ m ≤ 6 := by
          simp only [List.mem_cons, List.not_mem_nil, or_false] at hmm
          omega
        obtain ⟨mn, rfl⟩ : ∃ q : Nat, m = (q : Int) := ⟨m.toNat, by omega⟩
        obtain ⟨d, t6, h6, ht6, hdo⟩ := hd t5 ht5 mn (by omega) (by omega)
        have hcol := h154 d hdo
        have hdl := hdo.len.2
        have hin := cNotInT_s nm (as.map (·.1))
        have hmul := fMul_nn (i := z) (n := d.vals.length) (by omega)
        have keep : ∀ e1, e1 = [some (W.l t6), some (.d (.list (ws.map PyData.str))), some (.d (.list (os.map PyData.str))), some (.d (.int (n : Int))), some (.d (.int room)), some (.l (as.map atD)), some (.d (.int z)), some (.d (.int (i : Int))), some (.d (.str nm)), some (.d d.dat), some (.d (.int (d.vals.length : Int))), none] →
          ∃ (t3 : List D) (as : List At) (z : Int) (x7 x8 x9 x10 : Option W), e1 = [some (.l t3), some (.d (.list (ws.map PyData.str))), some (.d (.list (os.map PyData.str))), some (.d (.int (n : Int))), some (.d (.int room)), some (.l (as.map atD)), some (.d (.int z)), x7, x8, x9, x10, none] ∧ TapeOk t3 ∧ as.length ≤ i + 1 ∧ (as.map (·.1)).Nodup ∧ ∀ p ∈ as, AtOk p :=
          fun e1 h => ⟨t6, as, z, _, _, _, _, h, ht6, by omega, hnd, hao⟩
        unfold M157b0
        by_cases hb : nm ∈ as.map (·.1)
        · rw [decide_eq_true hb] at hin
          push_cast [h4, hnm, h5, hm, h6, hcol, nm_attr (C := C) (as := as) (by omega), hin]
          exact ⟨by simp, keep _ rfl⟩
        · rw [decide_eq_false hb] at hin
          by_cases hc : z * (d.vals.length : Int) ≤ room
          · push_cast [h4, hnm, h5, hm, h6, hcol, nm_attr (C := C) (as := as) (by omega), hin, hmul, show decide (z * (d.vals.length : Int) ≤ room) = true from decide_eq_true hc]
            refine ⟨by simp, t6, as ++ [(nm, d)], z * (d.vals.length : Int), some (.d (.int (i : Int))), some (.d (.str nm)), some (.d d.dat), some (.d (.int (d.vals.length : Int))), by rw [List.map_append]; rfl, ht6, by rw [List.length_append, List.length_singleton]; omega, by rw [List.map_append]; exact List.nodup_append.mpr ⟨hnd, by simp, fun x hx y hy => by rw [List.mem_singleton.mp hy]; rintro rfl; exact hb hx⟩, fun p hp => ?_⟩
            rcases List.mem_append.mp hp with hp | hp
            · exact hao p hp
            · rw [List.mem_singleton.mp hp]; exact ⟨hw3 nm hnmm, hdo⟩
          · push_cast [h4, hnm, h5, hm, h6, hcol, nm_attr (C := C) (as := as) (by omega), hin, hmul, show decide (z * (d.vals.length : Int) ≤ room) = false from decide_eq_false hc]
            exact ⟨by simp, keep _ rfl⟩)
    push_cast [g1]
    exact ⟨as, t3, rfl, rfl, ht3, by omega, hnd, hao⟩
  obtain ⟨w, o, h, as, t', rfl, rfl, r⟩ := run
  exact ⟨as, t', h, r⟩
/-! ### ports by name, variables of a component -/
theorem nd_eq {α : Type} {f : α → Str} : ∀ {xs : List α}, (xs.map f).Nodup → ∀ {p q : α}, p ∈ xs → q ∈ xs → f p = f q → p = q
  | [], _, _, _, h, _, _ => by cases h
  | x :: xs, hn, p, q, hp, hq, e => by
    rw [List.map_cons, List.nodup_cons] at hn
    rcases List.mem_cons.mp hp with rfl | hp
    · rcases List.mem_cons.mp hq with rfl | hq
      · rfl
      · exact absurd (List.mem_map.mpr ⟨q, hq, e.symm⟩) hn.1
    · rcases List.mem_cons.mp hq with h | hq
      · exact absurd (List.mem_map.mpr ⟨p, hp, by rw [e, h]⟩) hn.1
      · exact nd_eq hn.2 hp hq e
def SeqD (y : D) (xs : List D) : Prop := y = .list xs ∨ y = .tuple xs
theorem law_port_ok (C : Orc) (X Y : D) (ps : List Pt) (hX : fIx X (.int 0) = some (.d Y)) (hY : SeqD Y (ps.map ptD)) (hnd : (ps.map (·.1)).Nodup) (p : Pt) (hp : p ∈ ps) : F162 C [.d X, .d (.str p.1)] = .ok (.d (ptD p)) [] := by
  have run : WpC (F162 C [.d X, .d (.str p.1)]) fun w q => w = .d (ptD p) ∧ q = [] := by
    refine wpC_run (m := M162 C) rfl rfl rfl ?_
    simp only [List.map_cons, List.map_nil, List.cons_append, List.nil_append, List.replicate]
    unfold M162
    have loop := forT_rt (dat := ptD) (tg := tgN 2) (b := M162b0 C) (xs := ps)
      (fun pre e => (∀ q ∈ pre, q ≠ p) ∧ ∃ x2 : Option W, e = [some (.d X), some (.d (.str p.1)), x2]) (fun w e => w = .d (ptD p) ∧ e = [some (.d X), some (.d (.str p.1)), some (.d (ptD p))])
      (e := [some (.d X), some (.d (.str p.1)), none]) ⟨(fun _ h => by cases h), _, rfl⟩ (fun pre q post e hx hI => by
        obtain ⟨hne, x2, rfl⟩ := hI
        refine ⟨_, rfl, ?_⟩
        unfold M162b0
        by_cases hb : (q.1 == p.1) = true
        · have e1 := nd_eq hnd (show q ∈ ps by rw [hx]; simp) hp (eq_of_beq hb)
          subst e1
          push_cast [ptD_0]
          exact .inr ⟨_, rfl, by first | rfl | trivial, by first | rfl | trivial⟩
        · have hb := Bool.eq_false_iff.mpr hb
          push_cast [ptD_0, hb]
          refine .inl ⟨by simp, fun r hr => ?_, _, rfl⟩
          rcases List.mem_append.mp hr with hr | hr
          · exact hne r hr
          · rw [List.mem_singleton.mp hr]; rintro rfl; rw [beq_self_eq_true] at hb; cases hb)
    rcases loop with ⟨e', g, hne, _⟩ | ⟨w, e', g, rfl, rfl⟩
    · exact absurd rfl (hne p hp)
    · rcases hY with rfl | rfl
      · push_cast [hX, g]
        exact ⟨by trivial, by trivial⟩
      · push_cast [hX, g]
        exact ⟨by trivial, by trivial⟩
  obtain ⟨w, q, h, rfl, rfl⟩ := run
  exact h
abbrev Vr := Str × List D
def vrD (p : Vr) : D := .tuple [.str p.1, .list p.2]
theorem vrD_0 (p : Vr) : fIx (vrD p) (.int 0) = some (.d (.str p.1)) := Eq.trans rfl rfl
theorem vrD_1 (p : Vr) : fIx (vrD p) (.int 1) = some (.d (.list p.2)) := Eq.trans rfl rfl
structure VrOk (p : Vr) : Prop where
  nm : p.1.length ≤ 90 ∧ sk p.1 = true
  ne : p.2 ≠ []
  len : p.2.length ≤ 6
  el : ∀ v ∈ p.2, (∃ s : Str, v = .str s) ∨ ∃ n : Int, v = .int n
theorem Dm.Ok.vr {d : Dm} (h : d.Ok) {s : Str} (hs : s.length ≤ 90 ∧ sk s = true) : VrOk (s, d.vals) := by
  refine ⟨hs, List.length_pos_iff.mp h.len.1, h.len.2, fun v hv => ?_⟩
  cases d with
  | op ss =>
    obtain ⟨x, _, rfl⟩ := List.mem_map.mp hv
    exact .inl ⟨x, rfl⟩
  | rg a n =>
    obtain ⟨x, _, rfl⟩ := List.mem_map.mp hv
    exact .inr ⟨_, rfl⟩
/-- a slot with its port kind -/
abbrev Sl := Str × Pt
def slD (p : Sl) : D := .tuple [.str p.1, .str p.2.1]
theorem slD_0 (p : Sl) : fIx (slD p) (.int 0) = some (.d (.str p.1)) := Eq.trans rfl rfl
theorem slD_1 (p : Sl) : fIx (slD p) (.int 1) = some (.d (.str p.2.1)) := Eq.trans rfl rfl
structure SlsOk (ps : List Pt) (sl : List Sl) : Prop where
  len : sl.length ≤ 3
  nd : (sl.map (·.1)).Nodup
  wd : ∀ s ∈ sl, Wd s.1
  pt : ∀ s ∈ sl, s.2 ∈ ps
def ats (pre : Str) (as : List At) : List At := as.map fun a => (pre ++ a.1, a.2)
def varsOf (as : List At) (pg : Pt) (sl : List Sl) : List At := (as ++ ats "plug." pg.2) ++ sl.flatMap fun s => ats (s.1 ++ ".") s.2.2
def vrA (a : At) : D := vrD (a.1, a.2.vals)
theorem lp5 : ("plug." : Str).length = 5 := by decide +kernel
theorem ld1 : ("." : Str).length = 1 := by decide +kernel
theorem ats_len (pre : Str) (as : List At) : (ats pre as).length = as.length := List.length_map _
theorem vars_len {ps : List Pt} {as : List At} {pg : Pt} {sl : List Sl} (hp : PtsOk ps) (ha : AtsOk as) (hg : pg ∈ ps) (hs : SlsOk ps sl) : (varsOf as pg sl).length ≤ 15 := by
  have h1 := ha.len
  have h2 := (hp.ok pg hg).at_.len
  have h3 : ∀ l : List Sl, (∀ s ∈ l, s.2 ∈ ps) → (l.flatMap fun s => ats (s.1 ++ ".") s.2.2).length ≤ 3 * l.length := by
    intro l
    induction l with
    | nil => intro _; exact Nat.zero_le _
    | cons s l ih =>
      intro h
      have := ih fun x hx => h x (List.mem_cons_of_mem _ hx)
      have := (hp.ok s.2 (h s List.mem_cons_self)).at_.len
      rw [List.flatMap_cons, List.length_append, ats_len, List.length_cons]; omega
  have := h3 sl hs.pt
  have := hs.len
  unfold varsOf
  rw [List.length_append, List.length_append, ats_len]; omega
theorem vars_vr {ps : List Pt} {as : List At} {pg : Pt} {sl : List Sl} (hp : PtsOk ps) (ha : AtsOk as) (hg : pg ∈ ps) (hs : SlsOk ps sl) : ∀ a ∈ varsOf as pg sl, (a.1.length ≤ 90 ∧ sk a.1 = true) ∧ a.2.Ok := by
  intro a h
  unfold varsOf at h
  rcases List.mem_append.mp h with h | h
  · rcases List.mem_append.mp h with h | h
    · have := ha.ok a h
      exact ⟨⟨by have := this.wd.1; omega, this.wd.2.1⟩, this.ok⟩
    · obtain ⟨b, hb, rfl⟩ := List.mem_map.mp h
      have := (hp.ok pg hg).at_.ok b hb
      exact ⟨⟨by show ("plug." ++ b.1).length ≤ 90; rw [str_app, lp5]; have := this.wd.1; omega, sk_app (by decide +kernel) this.wd.2.1⟩, this.ok⟩
  · obtain ⟨s, hsm, h⟩ := List.mem_flatMap.mp h
    obtain ⟨b, hb, rfl⟩ := List.mem_map.mp h
    have := (hp.ok s.2 (hs.pt s hsm)).at_.ok b hb
    have hw := hs.wd s hsm
    exact ⟨⟨by show ((s.1 ++ ".") ++ b.1).length ≤ 90; rw [str_app, str_app, ld1]; have := this.wd.1; have := hw.1; omega, sk_app (sk_app hw.2.1 (by decide +kernel)) this.wd.2.1⟩, this.ok⟩
def PortS (C : Orc) (X : D) (ps : List Pt) : Prop := ∀ p ∈ ps, C 162 [.d X, .d (.str p.1)] = .ok (.d (ptD p)) []
theorem all_variables_ok (C : Orc) (h154 : ColS C) (X Z S : D) (ps : List Pt) (hp : PtsOk ps) (h162 : PortS C X ps) (pg : Pt) (hg : pg ∈ ps) (as : List At) (ha : AtsOk as) (sl : List Sl) (hs : SlsOk ps sl)
    (z1 : fIx Z (.int 1) = some (.d (.str pg.1))) (z2 : fIx Z (.int 2) = some (.d (.tuple (as.map atD)))) (z3 : fIx Z (.int 3) = some (.d S)) (hS : SeqD S (sl.map slD)) :
    F163 C [.d X, .d Z] = .ok (.d (.list ((varsOf as pg sl).map vrA))) [] := by
  have run : WpC (F163 C [.d X, .d Z]) fun w q => w = .d (.list ((varsOf as pg sl).map vrA)) ∧ q = [] := by
    refine wpC_run (m := M163 C) rfl rfl rfl ?_
    simp only [List.map_cons, List.map_nil, List.cons_append, List.nil_append, List.replicate]
    unfold M163
    have hal := ha.len
    have hsl := hs.len
    have cm := cmpT_map (dat := atD) (tg := tgN 3) (te := eTup [(eO2 fIx (.vr 3) (.ex (eC (.int 0)))), (eCall C 154 [.vl (eO2 fIx (.vr 3) (.ex (eC (.int 1))))])]) (vs := [3]) (f := vrA) (xs := as) (e := [some (.d X), some (.d Z), none, none, none]) (fun q hq => ⟨_, rfl, by
      push_cast [atD_0, atD_1, h154 q.2 (ha.ok q hq).ok]; exact ⟨by first | rfl | trivial, by first | rfl | trivial⟩⟩)
    -- a loop over a port's attributes
    have inner (b : MS) (x4 : Option W) (pre : Str) (bs : List At) (hb : AtsOk bs) (vs : List At) (hvl : vs.length ≤ 12) (x3 : Option W)
        (hbody : ∀ (q : At) (us : List At), AtOk q → us.length ≤ 15 → b [some (.d X), some (.d Z), some (.l (us.map vrA)), some (.d (atD q)), x4] = .ok .nx [some (.d X), some (.d Z), some (.l ((us ++ [(pre ++ q.1, q.2)]).map vrA)), some (.d (atD q)), x4]) :
        ∃ y3 : Option W, forL (tgN 3) b (bs.map atD) [some (.d X), some (.d Z), some (.l (vs.map vrA)), x3, x4] = .ok .nx [some (.d X), some (.d Z), some (.l ((vs ++ ats pre bs).map vrA)), y3, x4] := by
      obtain ⟨e', g, y3, rfl⟩ := forT_inv (dat := atD) (tg := tgN 3) (b := b) (xs := bs)
        (fun pr e => ∃ (y3 : Option W), e = [some (.d X), some (.d Z), some (.l ((vs ++ ats pre pr).map vrA)), y3, x4])
        (e := [some (.d X), some (.d Z), some (.l (vs.map vrA)), x3, x4]) ⟨x3, by unfold ats; rw [List.map_nil, List.append_nil]⟩ (fun pr q post e hx hI => by
          obtain ⟨y3, rfl⟩ := hI
          have hq := hb.ok q (by rw [hx]; simp)
          have hpl : pr.length ≤ 2 := by
            have := congrArg List.length hx
            rw [List.length_append, List.length_cons] at this
            have := hb.len
            omega
          refine ⟨_, rfl, .nx, _, hbody q (vs ++ ats pre pr) hq (by rw [List.length_append, ats_len]; omega), .inl rfl, some (.d (atD q)), ?_⟩
          unfold ats
          rw [List.map_append (f := fun a : At => (pre ++ a.1, a.2)), List.append_assoc]; rfl)
      exact ⟨y3, g⟩
    have hport := h162 pg hg
    obtain ⟨y3, g1⟩ := inner (M163b0 C) none "plug." pg.2 (hp.ok pg hg).at_ as (by omega) none (fun q us hq hus => by
        unfold M163b0
        have h1 := hq.wd.1
        have h2 := lp5
        push_cast [atD_0, atD_1, h154 q.2 hq.ok, fAddS_s (a := ("plug." : Str)) (b := q.1) (by omega)]
        rw [List.map_append]; rfl)
    have hpgl := (hp.ok pg hg).at_.len
    obtain ⟨e', g2, z3', z4, rfl⟩ := forT_inv (dat := slD) (tg := tgN 4) (b := M163b2 C) (xs := sl)
      (fun pre e => ∃ (z3 z4 : Option W), e = [some (.d X), some (.d Z), some (.l ((varsOf as pg pre).map vrA)), z3, z4])
      (e := [some (.d X), some (.d Z), some (.l ((as ++ ats "plug." pg.2).map vrA)), y3, none]) ⟨_, _, by unfold varsOf; rw [List.flatMap_nil, List.append_nil]⟩ (fun pre s post e hx hI => by
        obtain ⟨z3, z4, rfl⟩ := hI
        refine ⟨_, rfl, ?_⟩
        have hsm : s ∈ sl := by rw [hx]; simp
        have hw := hs.wd s hsm
        have hpm := hs.pt s hsm
        have hpl : pre.length ≤ 2 := by
          have := congrArg List.length hx
          rw [List.length_append, List.length_cons] at this
          omega
        have hvl : (varsOf as pg pre).length ≤ 12 := by
          have h3 : ∀ l : List Sl, (∀ s ∈ l, s.2 ∈ ps) → (l.flatMap fun s => ats (s.1 ++ ".") s.2.2).length ≤ 3 * l.length := by
            intro l
            induction l with
            | nil => intro _; exact Nat.zero_le _
            | cons s l ih =>
              intro h
              have := ih fun x hx => h x (List.mem_cons_of_mem _ hx)
              have := (hp.ok s.2 (h s List.mem_cons_self)).at_.len
              rw [List.flatMap_cons, List.length_append, ats_len, List.length_cons]; omega
          have := h3 pre fun x hx2 => hs.pt x (by rw [hx]; exact List.mem_append_left _ hx2)
          unfold varsOf
          rw [List.length_append, List.length_append, ats_len]; omega
        have hport2 := h162 s.2 hpm
        have h1 := hw.1
        have hld := ld1
        have hsd : (s.1 ++ ("." : Str)).length = s.1.length + 1 := by rw [str_app, ld1]
        obtain ⟨y3, g⟩ := inner (M163b1 C) (some (.d (slD s))) (s.1 ++ ".") s.2.2 (hp.ok s.2 hpm).at_ (varsOf as pg pre) hvl z3 (fun q us hq hus => by
          unfold M163b1
          have h1 := hq.wd.1
          push_cast [slD_0, atD_0, atD_1, h154 q.2 hq.ok, fAddS_s (a := s.1) (b := ("." : Str)) (by omega), fAddS_s (a := s.1 ++ ("." : Str)) (b := q.1) (by omega)]
          rw [List.map_append]; rfl)
        unfold M163b2
        push_cast [slD_1, hport2, ptD_1, g]
        refine ⟨by simp, y3, some (.d (slD s)), ?_⟩
        unfold varsOf
        rw [List.flatMap_append, List.flatMap_cons, List.flatMap_nil, List.append_nil, List.append_assoc (as ++ ats "plug." pg.2)])
    rcases hS with rfl | rfl
    · push_cast [z2, cm, z1, hport, ptD_1, g1, z3, g2]
      exact ⟨by trivial, by trivial⟩
    · push_cast [z2, cm, z1, hport, ptD_1, g1, z3, g2]
      exact ⟨by trivial, by trivial⟩
  obtain ⟨w, q, h, rfl, rfl⟩ := run
  exact h
/-! ### drawn tables -/
theorem col_find {C : Orc} {x0 x2 x3 x4 x6 x7 x8 x9 : Option W} (s : Str) (vs : List Vr) :
    cmpL (tgN 10) (tO2 cEq (.ex (eO2 fIx (.vr 10) (.ex (eC (.int 0))))) (.vr 5)) (eO2 fIx (.vr 10) (.ex (eC (.int 1)))) [10] (vs.map vrD) [x0, some (.d (.list (vs.map vrD))), x2, x3, x4, some (.d (.str s)), x6, x7, x8, x9, none] = .ok ((vs.filter fun p => p.1 == s).map fun p => PyData.list p.2) [x0, some (.d (.list (vs.map vrD))), x2, x3, x4, some (.d (.str s)), x6, x7, x8, x9, none] :=
  cmpT_filter (dat := vrD) (p := fun p => p.1 == s) (f := fun p => PyData.list p.2) (fun p hp => ⟨_, rfl, by
    push_cast [vrD_0]
    refine ⟨by trivial, fun _ => by first | rfl | trivial, fun _ => ?_⟩
    push_cast [vrD_1]
    exact ⟨by first | rfl | trivial, by first | rfl | trivial⟩⟩)
theorem at_D {xs : List D} {k : Int} (h0 : 0 ≤ k) (h1 : k < xs.length) : ∃ x, fIx (.list xs) (.int k) = some (.d x) ∧ x ∈ xs := by
  obtain ⟨x, h, hm⟩ := at_in h0 h1
  exact ⟨x, by rw [fIx_l, h]; rfl, hm⟩
theorem table_ok (C : Orc) (hD : DrawS C) (os : List Str) (hol : os ≠ []) (vs : List Vr) (hvn : vs ≠ []) (hvl : vs.length ≤ 1000) (hvo : ∀ v ∈ vs, VrOk v) {t : List D} (ht : TapeOk t) :
    ∃ (d : D) (t' : List D), F158 C [.l t, .d (.list (vs.map vrD)), .d (.list (os.map PyData.str))] = .ok (.d d) [.l t'] ∧ TapeOk t' := by
  have run : WpC (F158 C [.l t, .d (.list (vs.map vrD)), .d (.list (os.map PyData.str))]) fun w o => ∃ (d : D) (t' : List D), w = .d d ∧ o = [.l t'] ∧ TapeOk t' := by
    refine wpC_run (m := M158 C) rfl rfl rfl ?_
    simp only [List.map_cons, List.map_nil, List.cons_append, List.nil_append, List.replicate]
    unfold M158
    have hvp := List.length_pos_iff.mpr hvn
    obtain ⟨o0, orr, rfl⟩ : ∃ o r, os = o :: r := by
      cases os with
      | nil => exact absurd rfl hol
      | cons o r => exact ⟨o, r, rfl⟩
    have hop : fIx (.list ((o0 :: orr).map PyData.str)) (.int 0) = some (.d (.str o0)) := by rw [List.map_cons, fIx_l, atI_0]; rfl
    obtain ⟨k1, t1, h1, ht1, a1, b1⟩ := hD t ht 3 (by decide)
    obtain ⟨n, hn⟩ : ∃ n : Nat, 1 + k1 = (n : Int) := ⟨(1 + k1).toNat, by omega⟩
    generalize hO : PyData.list ((o0 :: orr).map PyData.str) = O at hop
    obtain ⟨e', g1, t2, cs, x4, x5, rfl, ht2, hcl, hcm⟩ := forN_inv (tg := tgN 4) (b := M158b0 C) (n := n)
      (fun i e => ∃ (t2 : List D) (cs : List Str) (x4 x5 : Option W), e = [some (.l t2), some (.d (.list (vs.map vrD))), some (.d O), some (.l (cs.map PyData.str)), x4, x5, none, none, none, none, none] ∧ TapeOk t2 ∧ cs.length ≤ i ∧ ∀ s ∈ cs, s ∈ vs.map (·.1))
      (e := [some (.l t1), some (.d (.list (vs.map vrD))), some (.d O), some (.l []), none, none, none, none, none, none, none]) ⟨t1, [], _, _, rfl, ht1, Nat.le_refl _, (fun _ h => by cases h)⟩ (fun i e hi hI => by
        obtain ⟨t2, cs, x4, x5, rfl, ht2, hcl, hcm⟩ := hI
        refine ⟨_, rfl, ?_⟩
        obtain ⟨k2, t3, h3, ht3, a3, b3⟩ := hD t2 ht2 (vs.length : Int) (log_small (by omega))
        obtain ⟨z, hz, hzm⟩ := at_D (xs := vs.map vrD) a3 (by rw [List.length_map]; omega)
        obtain ⟨v, hv, rfl⟩ := List.mem_map.mp hzm
        have hz2 : atI (vs.map vrD) k2 = some (vrD v) := by
          obtain ⟨y, hy, _⟩ := at_in (xs := vs.map vrD) a3 (by rw [List.length_map]; omega)
          rw [fIx_l, hy] at hz
          rw [hy]; simpa using hz
        have hin := cNotInT_s v.1 cs
        unfold M158b0
        by_cases hb : v.1 ∈ cs
        · rw [decide_eq_true hb] at hin
          push_cast [h3, hz2, vrD_0, hin]
          exact ⟨by simp, t3, cs, _, _, rfl, ht3, by omega, hcm⟩
        · rw [decide_eq_false hb] at hin
          push_cast [h3, hz2, vrD_0, hin]
          refine ⟨by simp, t3, cs ++ [v.1], some (.d (.int (i : Int))), some (.d (.str v.1)), by rw [List.map_append]; rfl, ht3, by rw [List.length_append, List.length_singleton]; omega, fun s hs => ?_⟩
          rcases List.mem_append.mp hs with hs | hs
          · exact hcm s hs
          · rw [List.mem_singleton.mp hs]; exact List.mem_map.mpr ⟨v, hv, rfl⟩)
    obtain ⟨k3, t3, h3, ht3, a3, b3⟩ := hD t2 ht2 4 (by decide)
    obtain ⟨r, hr, hrm⟩ := at_inI (ns := [1, 2, 4, 12]) a3 (by simp only [List.length_cons, List.length_nil]; omega)
    have hr : atI [PyData.int 1, PyData.int 2, PyData.int 4, PyData.int 12] k3 = some (.int r) := hr
    have hrb : 1 ≤ r ∧ r ≤ 12 := by
      simp only [List.mem_cons, List.not_mem_nil, or_false] at hrm
      omega
    obtain ⟨rn, rfl⟩ : ∃ q : Nat, r = (q : Int) := ⟨r.toNat, by omega⟩
    -- a row
    have row (x3 : Option W) (t4 : List D) (ht4 : TapeOk t4) (x4 x5 x6 x8 x9 : Option W) : ∃ (t5 : List D) (rw_ : List D) (y5 y8 y9 : Option W), forL (tgN 5) (M158b1 C) (cs.map PyData.str) [some (.l t4), some (.d (.list (vs.map vrD))), some (.d O), x3, x4, x5, x6, some (.l []), x8, x9, none] = .ok .nx [some (.l t5), some (.d (.list (vs.map vrD))), some (.d O), x3, x4, y5, x6, some (.l rw_), y8, y9, none] ∧ TapeOk t5 := by
      obtain ⟨e', g, t5, rw_, y5, y8, y9, rfl, ht5, _⟩ := forT_inv (dat := PyData.str) (tg := tgN 5) (b := M158b1 C) (xs := cs)
        (fun pre e => ∃ (t5 : List D) (rw_ : List D) (y5 y8 y9 : Option W), e = [some (.l t5), some (.d (.list (vs.map vrD))), some (.d O), x3, x4, y5, x6, some (.l rw_), y8, y9, none] ∧ TapeOk t5 ∧ rw_.length ≤ pre.length)
        (e := [some (.l t4), some (.d (.list (vs.map vrD))), some (.d O), x3, x4, x5, x6, some (.l []), x8, x9, none]) ⟨t4, [], _, _, _, rfl, ht4, Nat.le_refl _⟩ (fun pre s post e hx hI => by
          obtain ⟨t5, rw_, y5, y8, y9, rfl, ht5, hrl⟩ := hI
          refine ⟨_, rfl, ?_⟩
          have hpl : pre.length ≤ 100 := by
            have := congrArg List.length hx
            rw [List.length_append, List.length_cons] at this
            omega
          obtain ⟨v, hv, hvs⟩ := List.mem_map.mp (hcm s (by rw [hx]; simp))
          obtain ⟨q, rs, hq, hqm⟩ : ∃ q rs, (vs.filter fun p => p.1 == s) = q :: rs ∧ q ∈ vs := by
            cases hf : vs.filter fun p => p.1 == s with
            | nil =>
              have : v ∈ vs.filter fun p => p.1 == s := List.mem_filter.mpr ⟨hv, by simp [hvs]⟩
              rw [hf] at this; cases this
            | cons q rs => exact ⟨q, rs, rfl, (List.mem_filter.mp (hf ▸ List.mem_cons_self : q ∈ vs.filter fun p => p.1 == s)).1⟩
          have hqo := hvo q hqm
          have hqp := List.length_pos_iff.mpr hqo.ne
          have hqlen := hqo.len
          have cf := col_find (C := C) (x0 := some (.l t5)) (x2 := some (.d O)) (x3 := x3) (x4 := x4) (x6 := x6) (x7 := some (.l rw_)) (x8 := y8) (x9 := y9) s vs
          rw [hq, List.map_cons] at cf
          obtain ⟨k6, t6, h6, ht6, a6, b6⟩ := hD t5 ht5 (q.2.length : Int) (log_small (by omega))
          obtain ⟨z, hz, _⟩ := at_in (xs := q.2) a6 (by omega)
          obtain ⟨k7, t7, h7, ht7, a7, b7⟩ := hD t6 ht6 9 (by decide)
          unfold M158b1
          by_cases c0 : k7 = 0
          · subst c0
            obtain ⟨k8, t8, h8, ht8, a8, b8⟩ := hD t7 ht7 4 (by decide)
            obtain ⟨y, hy, _⟩ := at_in (xs := [PyData.int 7, PyData.str o0, PyData.int (-1000000), PyData.int 1000000]) a8 (by simp only [List.length_cons, List.length_nil]; omega)
            push_cast [cf, h6, hz, h7, hop, h8, hy]
            exact ⟨by simp, t8, _, _, _, _, rfl, ht8, by rw [List.length_append, List.length_append, List.length_singleton, List.length_singleton]; omega⟩
          · push_cast [cf, h6, hz, h7, show (k7 == 0) = false from beq_eq_false_iff_ne.mpr c0]
            exact ⟨by simp, t7, _, _, _, _, rfl, ht7, by rw [List.length_append, List.length_append, List.length_singleton, List.length_singleton]; omega⟩)
      exact ⟨t5, rw_, y5, y8, y9, g, ht5⟩
    have hcl2 : cs.length ≤ 3 := by omega
    obtain ⟨e', g2, t4, rws, y3, y4, y5, y7, y8, y9, hy3, rfl, ht4, hrw⟩ := forN_inv (tg := tgN 4) (b := M158b2 C) (n := rn)
      (fun i e => ∃ (t4 : List D) (rws : List D) (y3 y4 y5 y7 y8 y9 : Option W), (y3 = some (.l (cs.map PyData.str)) ∨ y3 = some (.d (.list (cs.map PyData.str)))) ∧ e = [some (.l t4), some (.d (.list (vs.map vrD))), some (.d O), y3, y4, y5, some (.l rws), y7, y8, y9, none] ∧ TapeOk t4 ∧ rws.length ≤ i)
      (e := [some (.l t3), some (.d (.list (vs.map vrD))), some (.d O), some (.l (cs.map PyData.str)), x4, x5, some (.l []), none, none, none, none]) ⟨t3, [], _, _, _, _, _, _, .inl rfl, rfl, ht3, Nat.le_refl _⟩ (fun i e hi hI => by
        obtain ⟨t4, rws, y3, y4, y5, y7, y8, y9, hy3, rfl, ht4, hrw⟩ := hI
        refine ⟨_, rfl, ?_⟩
        obtain ⟨t5, rw_, u5, u8, u9, g, ht5⟩ := row (some (.d (.list (cs.map PyData.str)))) t4 ht4 (some (.d (.int (i : Int)))) y5 (some (.l rws)) y8 y9
        unfold M158b2
        rcases hy3 with rfl | rfl
        · push_cast [g]
          exact ⟨by simp, t5, _, _, _, _, _, _, _, .inr rfl, rfl, ht5, by rw [List.length_append, List.length_singleton]; omega⟩
        · push_cast [g]
          exact ⟨by simp, t5, _, _, _, _, _, _, _, .inr rfl, rfl, ht5, by rw [List.length_append, List.length_singleton]; omega⟩)
    rcases hy3 with rfl | rfl
    · push_cast [h1, hn, g1, h3, hr, g2]
      exact ⟨_, t4, rfl, rfl, ht4⟩
    · push_cast [h1, hn, g1, h3, hr, g2]
      exact ⟨_, t4, rfl, rfl, ht4⟩
  obtain ⟨w, o, h, d, t', rfl, rfl, r⟩ := run
  exact ⟨d, t', h, r⟩
/-! ### drawn components -/
def Own2 (x : Option W) (xs : List D) : Prop := x = some (.l xs) ∨ x = some (.d (.list xs))
def AttS (C : Orc) (os ws : List Str) : Prop := ∀ t, TapeOk t → ∀ n : Nat, n ≤ 3 → ∀ room : Int, ∃ (as : List At) (t' : List D), C 157 [.l t, .d (.list (ws.map PyData.str)), .d (.list (os.map PyData.str)), .d (.int (n : Int)), .d (.int room)] = .ok (.d (.tuple (as.map atD))) [.l t'] ∧ TapeOk t' ∧ AtsOk as
def ManyS (C : Orc) : Prop := ∀ as : List At, AtsOk as → C 155 [.d (.tuple (as.map atD))] = .ok (.d (.int (szs1 (colsOf as) : Nat))) []
def defL (ps : List Pt) : D := .tuple [.list (ps.map ptD), .tuple [], .str ""]
theorem defL_0 (ps : List Pt) : fIx (defL ps) (.int 0) = some (.d (.list (ps.map ptD))) := Eq.trans rfl rfl
def VarsS (C : Orc) (ps : List Pt) : Prop := ∀ pg ∈ ps, ∀ as : List At, AtsOk as → ∀ sl : List Sl, SlsOk ps sl → ∀ nm : Str, C 163 [.d (defL ps), .d (.tuple [.str nm, .str pg.1, .tuple (as.map atD), .list (sl.map slD)])] = .ok (.d (.list ((varsOf as pg sl).map vrA))) []
/-- a component -/
structure Cp where
  nm : Str
  pg : Pt
  as : List At
  sl : List Sl
  rs : D
  tb : D
  pr : D
  ch : D
def Cp.dat (c : Cp) : D := .tuple [.str c.nm, .str c.pg.1, .tuple (c.as.map atD), .tuple (c.sl.map slD), c.rs, c.tb, c.pr, c.ch]
structure CpOk (ps : List Pt) (c : Cp) : Prop where
  pg : c.pg ∈ ps
  at_ : AtsOk c.as
  sl : SlsOk ps c.sl
def TabS1 (C : Orc) (os : List Str) : Prop := ∀ vs : List Vr, vs ≠ [] → vs.length ≤ 1000 → (∀ v ∈ vs, VrOk v) → ∀ t, TapeOk t → ∃ (d : D) (t' : List D), C 158 [.l t, .d (.list (vs.map vrD)), .d (.list (os.map PyData.str))] = .ok (.d d) [.l t'] ∧ TapeOk t'
theorem nm_slot {C : Orc} {x0 x1 x2 x3 x4 x5 x6 x7 x9 x10 x11 x12 x13 x14 x15 x16 x17 x18 x19 x20 : Option W} {sl : List Sl} (hl : sl.length < 16777216) :
    eLcV 8 (tgN 20) mYes (eO2 fIx (.vr 20) (.ex (eC (.int 0)))) [20] [x0, x1, x2, x3, x4, x5, x6, x7, some (.l (sl.map slD)), x9, x10, x11, x12, x13, x14, x15, x16, x17, x18, x19, x20] = .ok (.l ((sl.map (·.1)).map PyData.str)) [x0, x1, x2, x3, x4, x5, x6, x7, some (.l (sl.map slD)), x9, x10, x11, x12, x13, x14, x15, x16, x17, x18, x19, none] := by
  have h := cmpT_map (dat := slD) (tg := tgN 20) (te := eO2 fIx (.vr 20) (.ex (eC (.int 0)))) (vs := [20]) (xs := sl) (e := [x0, x1, x2, x3, x4, x5, x6, x7, none, x9, x10, x11, x12, x13, x14, x15, x16, x17, x18, x19, none]) (f := fun p => PyData.str p.1) (fun p hp => ⟨_, rfl, by push_cast [slD_0]; exact ⟨by first | rfl | trivial, by first | rfl | trivial⟩⟩)
  have e := ev_lcv (i := 8) (tg := tgN 20) (tt := mYes) (te := eO2 fIx (.vr 20) (.ex (eC (.int 0)))) (vs := [20]) (e := [x0, x1, x2, x3, x4, x5, x6, x7, some (.l (sl.map slD)), x9, x10, x11, x12, x13, x14, x15, x16, x17, x18, x19, x20]) (xs := sl.map slD) rfl (by rw [List.length_map]; exact hl) (by
    show cmpL _ _ _ _ _ [x0, x1, x2, x3, x4, x5, x6, x7, none, x9, x10, x11, x12, x13, x14, x15, x16, x17, x18, x19, none] = _
    exact h) rfl
  rw [e, List.map_map]; rfl
def vk (v : Vr) : Str := match v.2 with
  | .str _ :: _ => "option"
  | _ => "number"
theorem at_pt {ps : List Pt} {k : Int} (h0 : 0 ≤ k) (h1 : k < ps.length) : ∃ p ∈ ps, atI (ps.map ptD) k = some (ptD p) := by
  obtain ⟨x, h, hm⟩ := at_in (xs := ps.map ptD) h0 (by rw [List.length_map]; exact h1)
  obtain ⟨p, hp, rfl⟩ := List.mem_map.mp hm
  exact ⟨p, hp, h⟩
theorem vk_ok {v : Vr} (h : VrOk v) : ∃ (a : D) (r : List D), v.2 = a :: r ∧ ((vk v = "option" ∧ fIs "str" a = some (.d (.bool true))) ∨ (vk v = "number" ∧ fIs "str" a = some (.d (.bool false)))) := by
  obtain ⟨s, l⟩ := v
  cases l with
  | nil => exact absurd rfl h.ne
  | cons a r =>
    refine ⟨a, r, rfl, ?_⟩
    rcases h.el a List.mem_cons_self with ⟨x, rfl⟩ | ⟨n, rfl⟩
    · exact .inl ⟨rfl, rfl⟩
    · exact .inr ⟨rfl, rfl⟩
theorem kinds_cmp {C : Orc} {x0 x1 x2 x3 x4 x5 x6 x7 x8 x9 x10 x11 x12 x13 x14 x15 x16 x17 x18 x19 : Option W} (vs : List Vr) (hv : ∀ v ∈ vs, VrOk v) :
    cmpL (tgN 20) mYes (eTup [(eO2 fIx (.vr 20) (.ex (eC (.int 0)))), (eO2 fIx (.ex (eLst [(eC (.str "number")), (eC (.str "option"))])) (.ex (eB bInt [(.ex (eO1 (fIs "str") (.ex (eO2 fIx (.ex (eO2 fIx (.vr 20) (.ex (eC (.int 1))))) (.ex (eC (.int 0)))))))])))]) [20] (vs.map vrD) [x0, x1, x2, x3, x4, x5, x6, x7, x8, x9, x10, x11, x12, x13, x14, x15, x16, x17, x18, x19, none] =
      .ok ((vs.map fun v => (v.1, vk v)).map vpD) [x0, x1, x2, x3, x4, x5, x6, x7, x8, x9, x10, x11, x12, x13, x14, x15, x16, x17, x18, x19, none] := by
  rw [List.map_map]
  refine cmpT_map (dat := vrD) (f := vpD ∘ fun v => (v.1, vk v)) (fun v hm => ⟨_, rfl, ?_⟩)
  obtain ⟨a, r, e, h⟩ := vk_ok (hv v hm)
  have ix : fIx (vrD v) (.int 1) = some (.d (.list (a :: r))) := by rw [vrD_1, e]
  rcases h with ⟨h1, h2⟩ | ⟨h1, h2⟩
  · push_cast [vrD_0, ix, h2, bInt_t]
    refine ⟨?_, by first | rfl | trivial⟩
    show _ = vpD (v.1, vk v)
    rw [h1]; rfl
  · push_cast [vrD_0, ix, h2, bInt_f]
    refine ⟨?_, by first | rfl | trivial⟩
    show _ = vpD (v.1, vk v)
    rw [h1]; rfl
theorem component_ok (C : Orc) (hD : DrawS C) (os ws : List Str) (hol : os.length = 4) (hos : ∀ s ∈ os, s.length ≤ 100 ∧ sk s = true) (hw : WsOk ws) (ps : List Pt) (hp : PtsOk ps) (h157 : AttS C os ws) (h155 : ManyS C) (h163 : VarsS C ps) (h158 : TabS1 C os)
    (h415 : ∀ qs : List (Str × Str), VO1 qs os → ExprS C qs (.list (qs.map vpD)) (.list (os.map PyData.str)) 5) (room : Nat) (hroom : room ≤ 100000) (nm : Str) {t : List D} (ht : TapeOk t) :
    ∃ (c : Cp) (t' : List D), F394 C [.l t, .d (.str nm), .d (.list (ps.map ptD)), .d (.list (ws.map PyData.str)), .d (.list (os.map PyData.str)), .d (.int (room : Int))] = .ok (.d c.dat) [.l t'] ∧ TapeOk t' ∧ c.nm = nm ∧ CpOk ps c := by
  have run : WpC (F394 C [.l t, .d (.str nm), .d (.list (ps.map ptD)), .d (.list (ws.map PyData.str)), .d (.list (os.map PyData.str)), .d (.int (room : Int))]) fun w o => ∃ (c : Cp) (t' : List D), w = .d c.dat ∧ o = [.l t'] ∧ TapeOk t' ∧ c.nm = nm ∧ CpOk ps c := by
    refine wpC_run (m := M394 C) rfl rfl rfl ?_
    simp only [List.map_cons, List.map_nil, List.cons_append, List.nil_append, List.replicate]
    unfold M394
    obtain ⟨hw1, hw2, hw3, hw4⟩ := hw
    have hwp := List.length_pos_iff.mpr hw1
    have hpp := List.length_pos_iff.mpr hp.ne
    have hpl := hp.len
    obtain ⟨k1, t1, h1, ht1, a1, b1⟩ := hD t ht (ps.length : Int) (log_small (by omega))
    obtain ⟨pg, hpg, hpgx⟩ := at_pt (ps := ps) a1 (by omega)
    have hpgo := hp.ok pg hpg
    have hm0 := h155 pg.2 hpgo.at_
    have hsz := hpgo.at_.size
    obtain ⟨k2, t2, h2, ht2, a2, b2⟩ := hD t1 ht1 6 (by decide)
    obtain ⟨n, hn, hnm⟩ := at_inI (ns := [0, 0, 1, 1, 2, 3]) a2 (by simp only [List.length_cons, List.length_nil]; omega)
    have hn : atI [PyData.int 0, PyData.int 0, PyData.int 1, PyData.int 1, PyData.int 2, PyData.int 3] k2 = some (.int n) := hn
    have hnb : 0 ≤ n ∧ n ≤ 3 := by
      simp only [List.mem_cons, List.not_mem_nil, or_false] at hnm
      omega
    obtain ⟨nn, rfl⟩ : ∃ q : Nat, n = (q : Int) := ⟨n.toNat, by omega⟩
    -- the slots
    obtain ⟨e', g1, t3, sl, z, x9, x10, x11, rfl, ht3, hsl, hsnd, hso, hspt, hz1, hz2⟩ := forN_inv (tg := tgN 9) (b := M394b0 C) (n := nn)
      (fun i e => ∃ (t3 : List D) (sl : List Sl) (z : Nat) (x9 x10 x11 : Option W), e = [some (.l t3), some (.d (.str nm)), some (.d (.list (ps.map ptD))), some (.d (.list (ws.map PyData.str))), some (.d (.list (os.map PyData.str))), some (.d (.int (room : Int))), some (.d (ptD pg)), some (.d (.int (z : Int))), some (.l (sl.map slD)), x9, x10, x11, none, none, none, none, none, none, none, none, none] ∧
        TapeOk t3 ∧ sl.length ≤ i ∧ (sl.map (·.1)).Nodup ∧ (∀ p ∈ sl, Wd p.1) ∧ (∀ p ∈ sl, p.2 ∈ ps) ∧ 1 ≤ z ∧ z ≤ 1000000)
      (e := [some (.l t2), some (.d (.str nm)), some (.d (.list (ps.map ptD))), some (.d (.list (ws.map PyData.str))), some (.d (.list (os.map PyData.str))), some (.d (.int (room : Int))), some (.d (ptD pg)), some (.d (.int ((szs1 (colsOf pg.2) : Nat) : Int))), some (.l []), none, none, none, none, none, none, none, none, none, none, none, none])
      ⟨t2, [], _, _, _, _, rfl, ht2, Nat.le_refl _, List.nodup_nil, (fun _ h => by cases h), (fun _ h => by cases h), by omega, by omega⟩ (fun i e hi hI => by
        obtain ⟨t3, sl, z, x9, x10, x11, rfl, ht3, hsl, hsnd, hso, hspt, hz1, hz2⟩ := hI
        refine ⟨_, rfl, ?_⟩
        obtain ⟨k4, t4, h4, ht4, a4, b4⟩ := hD t3 ht3 (ps.length : Int) (log_small (by omega))
        obtain ⟨pq, hpq, hpqx⟩ := at_pt (ps := ps) a4 (by omega)
        have hpqo := hp.ok pq hpq
        have hmq := h155 pq.2 hpqo.at_
        have hszq := hpqo.at_.size
        obtain ⟨k5, t5, h5, ht5, a5, b5⟩ := hD t4 ht4 (ws.length : Int) (log_small (by omega))
        obtain ⟨s, hs, hsm⟩ := at_inS (ss := ws) a5 (by omega)
        have hin := cNotInT_s s (sl.map (·.1))
        have hmul := fMul_nn (i := (z : Int)) (n := szs1 (colsOf pq.2)) (by omega)
        have keep : ∀ e1, e1 = [some (W.l t5), some (.d (.str nm)), some (.d (.list (ps.map ptD))), some (.d (.list (ws.map PyData.str))), some (.d (.list (os.map PyData.str))), some (.d (.int (room : Int))), some (.d (ptD pg)), some (.d (.int (z : Int))), some (.l (sl.map slD)), some (.d (.int (i : Int))), some (.d (ptD pq)), some (.d (.str s)), none, none, none, none, none, none, none, none, none] →
          ∃ (t3 : List D) (sl : List Sl) (z : Nat) (x9 x10 x11 : Option W), e1 = [some (.l t3), some (.d (.str nm)), some (.d (.list (ps.map ptD))), some (.d (.list (ws.map PyData.str))), some (.d (.list (os.map PyData.str))), some (.d (.int (room : Int))), some (.d (ptD pg)), some (.d (.int (z : Int))), some (.l (sl.map slD)), x9, x10, x11, none, none, none, none, none, none, none, none, none] ∧
            TapeOk t3 ∧ sl.length ≤ i + 1 ∧ (sl.map (·.1)).Nodup ∧ (∀ p ∈ sl, Wd p.1) ∧ (∀ p ∈ sl, p.2 ∈ ps) ∧ 1 ≤ z ∧ z ≤ 1000000 := fun e1 h => ⟨t5, sl, z, _, _, _, h, ht5, by omega, hsnd, hso, hspt, hz1, hz2⟩
        unfold M394b0
        by_cases hb : s ∈ sl.map (·.1)
        · rw [decide_eq_true hb] at hin
          push_cast [h4, hpqx, h5, hs, nm_slot (C := C) (sl := sl) (by omega), hin]
          exact ⟨by simp, keep _ rfl⟩
        · rw [decide_eq_false hb] at hin
          by_cases hc : (z : Int) * (szs1 (colsOf pq.2) : Nat) ≤ room
          · push_cast [h4, hpqx, h5, hs, nm_slot (C := C) (sl := sl) (by omega), hin, ptD_1, ptD_0, hmq, hmul, show decide ((z : Int) * (szs1 (colsOf pq.2) : Nat) ≤ room) = true from decide_eq_true hc]
            refine ⟨by simp, t5, sl ++ [(s, pq)], z * szs1 (colsOf pq.2), some (.d (.int (i : Int))), some (.d (ptD pq)), some (.d (.str s)), by rw [List.map_append, Int.natCast_mul]; rfl, ht5, by rw [List.length_append, List.length_singleton]; omega, by rw [List.map_append]; exact List.nodup_append.mpr ⟨hsnd, by simp, fun x hx y hy => by rw [List.mem_singleton.mp hy]; rintro rfl; exact hb hx⟩, fun p hp => ?_, fun p hp => ?_, Nat.mul_pos hz1 (by omega), ?_⟩
            · rcases List.mem_append.mp hp with hp | hp
              · exact hso p hp
              · rw [List.mem_singleton.mp hp]; exact hw3 s hsm
            · rcases List.mem_append.mp hp with hp | hp
              · exact hspt p hp
              · rw [List.mem_singleton.mp hp]; exact hpq
            · have : ((z * szs1 (colsOf pq.2) : Nat) : Int) ≤ room := by rw [Int.natCast_mul]; exact hc
              omega
          · push_cast [h4, hpqx, h5, hs, nm_slot (C := C) (sl := sl) (by omega), hin, ptD_1, ptD_0, hmq, hmul, show decide ((z : Int) * (szs1 (colsOf pq.2) : Nat) ≤ room) = false from decide_eq_false hc]
            exact ⟨by simp, keep _ rfl⟩)
    -- the attributes
    obtain ⟨k6, t6, h6, ht6, a6, b6⟩ := hD t3 ht3 5 (by decide)
    obtain ⟨m, hm, hmm⟩ := at_inI (ns := [0, 0, 1, 2, 3]) a6 (by simp only [List.length_cons, List.length_nil]; omega)
    have hm : atI [PyData.int 0, PyData.int 0, PyData.int 1, PyData.int 2, PyData.int 3] k6 = some (.int m) := hm
    have hmb : 0 ≤ m ∧ m ≤ 3 := by
      simp only [List.mem_cons, List.not_mem_nil, or_false] at hmm
      omega
    obtain ⟨mn, rfl⟩ : ∃ q : Nat, m = (q : Int) := ⟨m.toNat, by omega⟩
    obtain ⟨as, t7, h7, ht7, hao⟩ := h157 t6 ht6 mn (by omega) ((room : Int) / (z : Int))
    have hsok : SlsOk ps sl := ⟨by omega, hsnd, hso, hspt⟩
    have h8 := h163 pg hpg as hao sl hsok nm
    have hvl := vars_len hp hao hpg hsok
    have hvv := vars_vr hp hao hpg hsok
    obtain ⟨vs, hvs⟩ : ∃ vs : List Vr, vs = (varsOf as pg sl).map fun a => (a.1, a.2.vals) := ⟨_, rfl⟩
    have hvm : (varsOf as pg sl).map vrA = vs.map vrD := by rw [hvs, List.map_map]; rfl
    have h8 : C 163 [.d (.tuple [.list (ps.map ptD), .tuple [], .str ""]), .d (.tuple [.str nm, .str pg.1, .tuple (as.map atD), .list (sl.map slD)])] = .ok (.d (.list (vs.map vrD))) [] := by rw [← hvm]; exact h8
    have hvl : vs.length ≤ 15 := by rw [hvs, List.length_map]; exact hvl
    have hvo : ∀ v ∈ vs, VrOk v := fun v hv => by
      rw [hvs] at hv
      obtain ⟨a, ha, rfl⟩ := List.mem_map.mp hv
      exact (hvv a ha).2.vr (hvv a ha).1
    generalize hqs : (vs.map fun v => (v.1, vk v)) = qs
    have kc := fun (x0 x1 x2 x3 x4 x5 x6 x7 x8 x9 x10 x11 x12 x13 x14 x15 x16 x17 x18 x19 : Option W) => kinds_cmp (C := C) (x0 := x0) (x1 := x1) (x2 := x2) (x3 := x3) (x4 := x4) (x5 := x5) (x6 := x6) (x7 := x7) (x8 := x8) (x9 := x9) (x10 := x10) (x11 := x11) (x12 := x12) (x13 := x13) (x14 := x14) (x15 := x15) (x16 := x16) (x17 := x17) (x18 := x18) (x19 := x19) vs hvo
    rw [hqs] at kc
    have vo : VO1 qs os := by
      refine ⟨?_, fun q hq => ?_, by omega, (fun z => by rw [z] at hol; cases hol), hos⟩
      · rw [← hqs, List.length_map]; omega
      · rw [← hqs] at hq
        obtain ⟨v, hv, rfl⟩ := List.mem_map.mp hq
        have h1 := (hvo v hv).nm
        refine ⟨by have := h1.1; show v.1.length ≤ 100; omega, h1.2, ?_⟩
        obtain ⟨a, r, _, h⟩ := vk_ok (hvo v hv)
        rcases h with ⟨h, _⟩ | ⟨h, _⟩
        · exact .inr h
        · exact .inl h
    have hex := h415 qs vo
    have drawn (ns : List Int) (t : List D) (ht : TapeOk t) (hns : ns ≠ []) (hl : ns.length ≤ 10) : ∃ (k : Int) (t' : List D) (x : Int), C 5 [.l t, .d (.int (ns.length : Int))] = .ok (.d (.int k)) [.l t'] ∧ TapeOk t' ∧ atI (ns.map PyData.int) k = some (.int x) ∧ x ∈ ns := by
      obtain ⟨k, t', h, ht', a, b⟩ := hD t ht (ns.length : Int) (log_small (by omega))
      have := List.length_pos_iff.mpr hns
      obtain ⟨x, hx, hm⟩ := at_inI (ns := ns) a (by omega)
      exact ⟨k, t', x, h, ht', hx, hm⟩
    have cond (t : List D) (ht : TapeOk t) : ∃ (k p : Int) (e : Tm) (t1 t2 : List D), C 5 [.l t, .d (.int 6)] = .ok (.d (.int k)) [.l t1] ∧ atI [PyData.int 1, PyData.int 3, PyData.int 3, PyData.int 5, PyData.int 7, PyData.int 12] k = some (.int p) ∧
        C 415 [.l t1, .d (.str "condition"), .d (.list (qs.map vpD)), .d (.list (os.map PyData.str)), .d (.int p), .d (.int 5)] = .ok (.d e.dat) [.l t2] ∧ TapeOk t2 := by
      obtain ⟨k, t1, p, h1, ht1, hp, hpm⟩ := drawn [1, 3, 3, 5, 7, 12] t ht (by simp) (by decide)
      have hpb : 1 ≤ p ∧ p ≤ 12 := by
        simp only [List.mem_cons, List.not_mem_nil, or_false] at hpm
        omega
      obtain ⟨pn, rfl⟩ : ∃ q : Nat, p = (q : Int) := ⟨p.toNat, by omega⟩
      obtain ⟨e, t2, h2, ht2, _⟩ := hex t1 ht1 "condition" (.inr (.inr rfl)) pn (by omega) (by omega)
      exact ⟨k, _, e, t1, t2, h1, hp, h2, ht2⟩
    -- the rules
    obtain ⟨k9, t9, r, h9, ht9, hr, hrm⟩ := drawn [0, 0, 1, 2, 4] t7 ht7 (by simp) (by decide)
    have h9 : C 5 [.l t7, .d (.int 5)] = .ok (.d (.int k9)) [.l t9] := h9
    have hr : atI [PyData.int 0, PyData.int 0, PyData.int 1, PyData.int 2, PyData.int 4] k9 = some (.int r) := hr
    have hrb : 0 ≤ r ∧ r ≤ 4 := by
      simp only [List.mem_cons, List.not_mem_nil, or_false] at hrm
      omega
    obtain ⟨rn, rfl⟩ : ∃ q : Nat, r = (q : Int) := ⟨r.toNat, by omega⟩
    obtain ⟨e', g2, t10, rs, y9, y14, hy14, rfl, ht10, hrl⟩ := forN_inv (tg := tgN 9) (b := M394b1 C) (n := rn)
      (fun i e => ∃ (t10 : List D) (rs : List D) (y9 y14 : Option W), Own2 y14 (qs.map vpD) ∧ e = [some (.l t10), some (.d (.str nm)), some (.d (.list (ps.map ptD))), some (.d (.list (ws.map PyData.str))), some (.d (.list (os.map PyData.str))), some (.d (.int (room : Int))), some (.d (ptD pg)), some (.d (.int (z : Int))), some (.d (.list (sl.map slD))), y9, x10, x11, some (.d (.tuple (as.map atD))), some (.d (.list (vs.map vrD))), y14, some (.l rs), none, none, none, none, none] ∧ TapeOk t10 ∧ rs.length ≤ i)
      (e := [some (.l t9), some (.d (.str nm)), some (.d (.list (ps.map ptD))), some (.d (.list (ws.map PyData.str))), some (.d (.list (os.map PyData.str))), some (.d (.int (room : Int))), some (.d (ptD pg)), some (.d (.int (z : Int))), some (.d (.list (sl.map slD))), x9, x10, x11, some (.d (.tuple (as.map atD))), some (.d (.list (vs.map vrD))), some (.l (qs.map vpD)), some (.l []), none, none, none, none, none])
      ⟨t9, [], _, _, .inl rfl, rfl, ht9, Nat.le_refl _⟩ (fun i e hi hI => by
        obtain ⟨t10, rs, y9, y14, hy14, rfl, ht10, hrl⟩ := hI
        refine ⟨_, rfl, ?_⟩
        obtain ⟨k, p, e, t11, t12, q1, q2, q3, ht12⟩ := cond t10 ht10
        unfold M394b1
        rcases hy14 with rfl | rfl
        · push_cast [q1, q2, q3]
          exact ⟨by simp, t12, _, _, _, .inr rfl, rfl, ht12, by rw [List.length_append, List.length_singleton]; omega⟩
        · push_cast [q1, q2, q3]
          exact ⟨by simp, t12, _, _, _, .inr rfl, rfl, ht12, by rw [List.length_append, List.length_singleton]; omega⟩)
    -- the tables
    obtain ⟨k11, t11, r2, h11, ht11, hr2, hrm2⟩ := drawn [0, 0, 0, 1, 2] t10 ht10 (by simp) (by decide)
    have h11 : C 5 [.l t10, .d (.int 5)] = .ok (.d (.int k11)) [.l t11] := h11
    have hr2 : atI [PyData.int 0, PyData.int 0, PyData.int 0, PyData.int 1, PyData.int 2] k11 = some (.int r2) := hr2
    have hrb2 : 0 ≤ r2 ∧ r2 ≤ 2 := by
      simp only [List.mem_cons, List.not_mem_nil, or_false] at hrm2
      omega
    obtain ⟨rn2, rfl⟩ : ∃ q : Nat, r2 = (q : Int) := ⟨r2.toNat, by omega⟩
    obtain ⟨e', g3, t12, ts, z9, rfl, ht12, htl⟩ := forN_inv (tg := tgN 9) (b := M394b2 C) (n := rn2)
      (fun i e => ∃ (t12 : List D) (ts : List D) (z9 : Option W), e = [some (.l t12), some (.d (.str nm)), some (.d (.list (ps.map ptD))), some (.d (.list (ws.map PyData.str))), some (.d (.list (os.map PyData.str))), some (.d (.int (room : Int))), some (.d (ptD pg)), some (.d (.int (z : Int))), some (.d (.list (sl.map slD))), z9, x10, x11, some (.d (.tuple (as.map atD))), some (.d (.list (vs.map vrD))), y14, some (.l rs), some (.l ts), none, none, none, none] ∧ TapeOk t12 ∧ ts.length ≤ i)
      (e := [some (.l t11), some (.d (.str nm)), some (.d (.list (ps.map ptD))), some (.d (.list (ws.map PyData.str))), some (.d (.list (os.map PyData.str))), some (.d (.int (room : Int))), some (.d (ptD pg)), some (.d (.int (z : Int))), some (.d (.list (sl.map slD))), y9, x10, x11, some (.d (.tuple (as.map atD))), some (.d (.list (vs.map vrD))), y14, some (.l rs), some (.l []), none, none, none, none])
      ⟨t11, [], _, rfl, ht11, Nat.le_refl _⟩ (fun i e hi hI => by
        obtain ⟨t12, ts, z9, rfl, ht12, htl⟩ := hI
        refine ⟨_, rfl, ?_⟩
        unfold M394b2
        by_cases hve : vs = []
        · have he : (vs.map vrD).isEmpty = true := by rw [hve]; rfl
          push_cast [he]
          exact ⟨by simp, t12, ts, _, rfl, ht12, by omega⟩
        · have he : (vs.map vrD).isEmpty = false := by rw [List.isEmpty_eq_false_iff]; simpa using hve
          obtain ⟨d, t13, q1, ht13⟩ := h158 vs hve (by omega) hvo t12 ht12
          push_cast [he, q1]
          exact ⟨by simp, t13, ts ++ [d], _, rfl, ht13, by rw [List.length_append, List.length_singleton]; omega⟩)
    -- the charges
    obtain ⟨k13, t13, r3, h13, ht13, hr3, hrm3⟩ := drawn [0, 0, 1, 2, 4] t12 ht12 (by simp) (by decide)
    have h13 : C 5 [.l t12, .d (.int 5)] = .ok (.d (.int k13)) [.l t13] := h13
    have hr3 : atI [PyData.int 0, PyData.int 0, PyData.int 1, PyData.int 2, PyData.int 4] k13 = some (.int r3) := hr3
    have hrb3 : 0 ≤ r3 ∧ r3 ≤ 4 := by
      simp only [List.mem_cons, List.not_mem_nil, or_false] at hrm3
      omega
    obtain ⟨rn3, rfl⟩ : ∃ q : Nat, r3 = (q : Int) := ⟨r3.toNat, by omega⟩
    obtain ⟨e', g4, t14, cs, v9, v14, v18, hv14, rfl, ht14, hcl⟩ := forN_inv (tg := tgN 9) (b := M394b3 C) (n := rn3)
      (fun i e => ∃ (t14 : List D) (cs : List D) (v9 v14 v18 : Option W), Own2 v14 (qs.map vpD) ∧ e = [some (.l t14), some (.d (.str nm)), some (.d (.list (ps.map ptD))), some (.d (.list (ws.map PyData.str))), some (.d (.list (os.map PyData.str))), some (.d (.int (room : Int))), some (.d (ptD pg)), some (.d (.int (z : Int))), some (.d (.list (sl.map slD))), v9, x10, x11, some (.d (.tuple (as.map atD))), some (.d (.list (vs.map vrD))), v14, some (.l rs), some (.l ts), some (.l cs), v18, none, none] ∧ TapeOk t14 ∧ cs.length ≤ i)
      (e := [some (.l t13), some (.d (.str nm)), some (.d (.list (ps.map ptD))), some (.d (.list (ws.map PyData.str))), some (.d (.list (os.map PyData.str))), some (.d (.int (room : Int))), some (.d (ptD pg)), some (.d (.int (z : Int))), some (.d (.list (sl.map slD))), z9, x10, x11, some (.d (.tuple (as.map atD))), some (.d (.list (vs.map vrD))), y14, some (.l rs), some (.l ts), some (.l []), none, none, none])
      ⟨t13, [], _, _, _, hy14, rfl, ht13, Nat.le_refl _⟩ (fun i e hi hI => by
        obtain ⟨t14, cs, v9, v14, v18, hv14, rfl, ht14, hcl⟩ := hI
        refine ⟨_, rfl, ?_⟩
        obtain ⟨k, p, e, t15, t16, q1, q2, q3, ht16⟩ := cond t14 ht14
        obtain ⟨k2, t17, pr, q4, ht17, q5, _⟩ := drawn [0, 1, 2, 9, 1000000] t16 ht16 (by simp) (by decide)
        have q4 : C 5 [.l t16, .d (.int 5)] = .ok (.d (.int k2)) [.l t17] := q4
        have q5 : atI [PyData.int 0, PyData.int 1, PyData.int 2, PyData.int 9, PyData.int 1000000] k2 = some (.int pr) := q5
        unfold M394b3
        rcases hv14 with rfl | rfl
        · push_cast [q1, q2, q3, q4, q5]
          exact ⟨by simp, t17, _, _, _, _, .inr rfl, rfl, ht17, by rw [List.length_append, List.length_singleton]; omega⟩
        · push_cast [q1, q2, q3, q4, q5]
          exact ⟨by simp, t17, _, _, _, _, .inr rfl, rfl, ht17, by rw [List.length_append, List.length_singleton]; omega⟩)
    obtain ⟨k15, t15, pr, h15, ht15, hpr, _⟩ := drawn [0, 0, 1, 3, 10, 1000000] t14 ht14 (by simp) (by decide)
    have h15 : C 5 [.l t14, .d (.int 6)] = .ok (.d (.int k15)) [.l t15] := h15
    have hpr : atI [PyData.int 0, PyData.int 0, PyData.int 1, PyData.int 3, PyData.int 10, PyData.int 1000000] k15 = some (.int pr) := hpr
    have hdiv : fDiv (.int (room : Int)) (.int (z : Int)) = some (.d (.int ((room : Int) / (z : Int)))) := fDiv_p (by omega) (log_small (by omega))
    push_cast [h1, hpgx, ptD_1, hm0, h2, hn, g1, h6, hm, hdiv, h7, ptD_0, h8, kc, h9, hr, g2, h11, hr2, g3, h13, hr3, g4, h15, hpr]
    exact ⟨⟨nm, pg, as, sl, .tuple rs, .tuple ts, .int pr, .tuple cs⟩, t15, rfl, rfl, ht15, rfl, ⟨hpg, hao, hsok⟩⟩
  obtain ⟨w, o, h, c, t', rfl, rfl, r⟩ := run
  exact ⟨c, t', h, r⟩
/-! ### drawn definitions -/
theorem popAt_d {xs : List D} {k : Nat} (h : k < xs.length) (h2 : k < 9223372036854775808) : mPopAt xs [.int (k : Int)] = some (.d xs[k], xs.eraseIdx k) := by
  unfold mPopAt
  simp only
  rw [if_pos (by omega), ixN_n h]
  simp only [List.getElem?_eq_getElem h]
theorem er_map {α β : Type} (f : α → β) : ∀ (l : List α) (k : Nat), (l.map f).eraseIdx k = (l.eraseIdx k).map f
  | [], _ => rfl
  | a :: l, 0 => rfl
  | a :: l, k + 1 => congrArg (f a :: ·) (er_map f l k)
theorem er_perm {α : Type} : ∀ (l : List α) (k : Nat) (h : k < l.length), (l[k] :: l.eraseIdx k).Perm l
  | [], k, h => absurd h (Nat.not_lt_zero _)
  | a :: l, 0, h => List.Perm.refl _
  | a :: l, k + 1, h => (List.Perm.swap a _ _).trans ((er_perm l k (Nat.lt_of_succ_lt_succ h)).cons a)
structure CsOk (ps : List Pt) (cs : List Cp) : Prop where
  nd : (cs.map Cp.nm).Nodup
  ok : ∀ c ∈ cs, CpOk ps c
theorem nm_port {C : Orc} {x0 x1 x2 x3 x5 x6 x7 x8 x9 x10 : Option W} {ps : List Pt} (hl : ps.length < 16777216) :
    eLcV 4 (tgN 10) mYes (eO2 fIx (.vr 10) (.ex (eC (.int 0)))) [10] [x0, x1, x2, x3, some (.l (ps.map ptD)), x5, x6, x7, x8, x9, x10] = .ok (.l ((ps.map (·.1)).map PyData.str)) [x0, x1, x2, x3, some (.l (ps.map ptD)), x5, x6, x7, x8, x9, none] := by
  have h := cmpT_map (dat := ptD) (tg := tgN 10) (te := eO2 fIx (.vr 10) (.ex (eC (.int 0)))) (vs := [10]) (xs := ps) (e := [x0, x1, x2, x3, none, x5, x6, x7, x8, x9, none]) (f := fun p => PyData.str p.1) (fun p hp => ⟨_, rfl, by push_cast [ptD_0]; exact ⟨by first | rfl | trivial, by first | rfl | trivial⟩⟩)
  have e := ev_lcv (i := 4) (tg := tgN 10) (tt := mYes) (te := eO2 fIx (.vr 10) (.ex (eC (.int 0)))) (vs := [10]) (e := [x0, x1, x2, x3, some (.l (ps.map ptD)), x5, x6, x7, x8, x9, x10]) (xs := ps.map ptD) rfl (by rw [List.length_map]; exact hl) (by
    show cmpL _ _ _ _ _ [x0, x1, x2, x3, none, x5, x6, x7, x8, x9, none] = _
    exact h) rfl
  rw [e, List.map_map]; rfl
def leafC (s : Str) (p : Pt) (k : Int) : Cp := ⟨s, p, [], [], .tuple [], .tuple [], .int k, .tuple []⟩
theorem leafC_ok {ps : List Pt} {p : Pt} (h : p ∈ ps) (s : Str) (k : Int) : CpOk ps (leafC s p k) :=
  ⟨h, ⟨Nat.zero_le _, List.nodup_nil, (fun _ h => by cases h)⟩, ⟨Nat.zero_le _, List.nodup_nil, (fun _ h => by cases h), (fun _ h => by cases h)⟩⟩
def CmpS (C : Orc) (os ws : List Str) (room : Nat) : Prop := ∀ ps : List Pt, PtsOk ps → ∀ nm : Str, ∀ t, TapeOk t → ∃ (c : Cp) (t' : List D), C 394 [.l t, .d (.str nm), .d (.list (ps.map ptD)), .d (.list (ws.map PyData.str)), .d (.list (os.map PyData.str)), .d (.int (room : Int))] = .ok (.d c.dat) [.l t'] ∧ TapeOk t' ∧ c.nm = nm ∧ CpOk ps c
theorem defined_ok (C : Orc) (hD : DrawS C) (ws : List Str) (hw : WsOk ws) (room : Nat)
    (h42 : ∀ t, TapeOk t → ∃ (ss : List Str) (t' : List D), C 42 [.l t] = .ok (.d (.list (ss.map PyData.str))) [.l t'] ∧ TapeOk t' ∧ ss.length = 3 ∧ ∀ s ∈ ss, s.length ≤ 100 ∧ sk s = true)
    (h41 : Option1S C) (h157 : ∀ os : List Str, os.length = 4 → (∀ s ∈ os, s.length ≤ 100 ∧ sk s = true) → AttS C os ws) (h394 : ∀ os : List Str, os.length = 4 → (∀ s ∈ os, s.length ≤ 100 ∧ sk s = true) → CmpS C os ws room) {t : List D} (ht : TapeOk t) :
    ∃ (ps : List Pt) (cs : List Cp) (root : Str) (t' : List D), F396 C [.l t, .d (.int (room : Int)), .d (.list (ws.map PyData.str))] = .ok (.d (defD ps (.tuple (cs.map Cp.dat)) (.str root))) [.l t'] ∧ TapeOk t' ∧ PtsOk ps ∧ CsOk ps cs ∧ cs.length ≤ 12 ∧ root ∈ ps.map (·.1) := by
  have run : WpC (F396 C [.l t, .d (.int (room : Int)), .d (.list (ws.map PyData.str))]) fun w o => ∃ (ps : List Pt) (cs : List Cp) (root : Str) (t' : List D), w = .d (defD ps (.tuple (cs.map Cp.dat)) (.str root)) ∧ o = [.l t'] ∧ TapeOk t' ∧ PtsOk ps ∧ CsOk ps cs ∧ cs.length ≤ 12 ∧ root ∈ ps.map (·.1) := by
    refine wpC_run (m := M396 C) rfl rfl rfl ?_
    simp only [List.map_cons, List.map_nil, List.cons_append, List.nil_append, List.replicate]
    unfold M396
    have hww := hw
    obtain ⟨hw1, hw2, hw3, hw4⟩ := hw
    have hwp := List.length_pos_iff.mpr hw1
    obtain ⟨o3, t1, h1, ht1, ho3, ho3k⟩ := h42 t ht
    obtain ⟨o1, t2, h2, ht2, ho1, ho1k⟩ := h41 t1 ht1
    obtain ⟨os, hos⟩ : ∃ os, os = o3 ++ [o1] := ⟨_, rfl⟩
    have hol : os.length = 4 := by rw [hos, List.length_append, List.length_singleton]; omega
    have hok : ∀ s ∈ os, s.length ≤ 100 ∧ sk s = true := fun s hs => by
      rw [hos] at hs
      rcases List.mem_append.mp hs with hs | hs
      · exact ho3k s hs
      · rw [List.mem_singleton.mp hs]; exact ⟨by omega, ho1k⟩
    have hadd : fAdd (.list (o3.map PyData.str)) (.list [.str o1]) = some (.l (os.map PyData.str)) := by
      rw [fAdd_li (by rw [List.length_map, List.length_singleton]; omega), hos, List.map_append]; rfl
    have hatt := h157 os hol hok
    have hcmp := h394 os hol hok
    have drawn (ns : List Int) (t : List D) (ht : TapeOk t) (hns : ns ≠ []) (hl : ns.length ≤ 10) : ∃ (k : Int) (t' : List D) (x : Int), C 5 [.l t, .d (.int (ns.length : Int))] = .ok (.d (.int k)) [.l t'] ∧ TapeOk t' ∧ atI (ns.map PyData.int) k = some (.int x) ∧ x ∈ ns := by
      obtain ⟨k, t', h, ht', a, b⟩ := hD t ht (ns.length : Int) (log_small (by omega))
      have := List.length_pos_iff.mpr hns
      obtain ⟨x, hx, hm⟩ := at_inI (ns := ns) a (by omega)
      exact ⟨k, t', x, h, ht', hx, hm⟩
    -- the port kinds
    obtain ⟨k3, t3, n, h3, ht3, hn, hnm⟩ := drawn [1, 2, 2, 3, 4, 6] t2 ht2 (by simp) (by decide)
    have h3 : C 5 [.l t2, .d (.int 6)] = .ok (.d (.int k3)) [.l t3] := h3
    have hn : atI [PyData.int 1, PyData.int 2, PyData.int 2, PyData.int 3, PyData.int 4, PyData.int 6] k3 = some (.int n) := hn
    have hnb : 1 ≤ n ∧ n ≤ 6 := by
      simp only [List.mem_cons, List.not_mem_nil, or_false] at hnm
      omega
    obtain ⟨nn, rfl⟩ : ∃ q : Nat, n = (q : Int) := ⟨n.toNat, by omega⟩
    obtain ⟨e', g1, t4, ps, x3, x5, x6, x7, hx3, rfl, ht4, hpl, hpnd, hpo, hpn⟩ := forN_inv (tg := tgN 5) (b := M396b0 C) (n := nn)
      (fun i e => ∃ (t4 : List D) (ps : List Pt) (x3 x5 x6 x7 : Option W), Own2 x3 (os.map PyData.str) ∧ e = [some (.l t4), some (.d (.int (room : Int))), some (.d (.list (ws.map PyData.str))), x3, some (.l (ps.map ptD)), x5, x6, x7, none, none, none] ∧ TapeOk t4 ∧ ps.length ≤ i ∧ (ps.map (·.1)).Nodup ∧ (∀ p ∈ ps, PtOk p) ∧ (0 < i → ps ≠ []))
      (e := [some (.l t3), some (.d (.int (room : Int))), some (.d (.list (ws.map PyData.str))), some (.l (os.map PyData.str)), some (.l []), none, none, none, none, none, none])
      ⟨t3, [], _, _, _, _, .inl rfl, rfl, ht3, Nat.le_refl _, List.nodup_nil, (fun _ h => by cases h), (fun h => absurd h (by omega))⟩ (fun i e hi hI => by
        obtain ⟨t4, ps, x3, x5, x6, x7, hx3, rfl, ht4, hpl, hpnd, hpo, hpn⟩ := hI
        refine ⟨_, rfl, ?_⟩
        obtain ⟨k5, t5, h5, ht5, a5, b5⟩ := hD t4 ht4 (ws.length : Int) (log_small (by omega))
        obtain ⟨s, hs, hsm⟩ := at_inS (ss := ws) a5 (by omega)
        obtain ⟨k6, t6, z, h6, ht6, hz, _⟩ := drawn [4, 4, 4, 4, 4, 4, 4, 6] t5 ht5 (by simp) (by decide)
        have h6 : C 5 [.l t5, .d (.int 8)] = .ok (.d (.int k6)) [.l t6] := h6
        have hz : atI [PyData.int 4, PyData.int 4, PyData.int 4, PyData.int 4, PyData.int 4, PyData.int 4, PyData.int 4, PyData.int 6] k6 = some (.int z) := hz
        have hin := cNotInT_s s (ps.map (·.1))
        unfold M396b0
        by_cases hb : s ∈ ps.map (·.1)
        · rw [decide_eq_true hb] at hin
          push_cast [h5, hs, h6, hz, nm_port (C := C) (ps := ps) (by omega), hin]
          exact ⟨by simp, t6, ps, _, _, _, _, hx3, rfl, ht6, by omega, hpnd, hpo, fun _ e => by rw [e] at hb; cases hb⟩
        · rw [decide_eq_false hb] at hin
          obtain ⟨k7, t7, m, h7, ht7, hm, hmm⟩ := drawn [0, 1, 1, 2, 3] t6 ht6 (by simp) (by decide)
          have h7 : C 5 [.l t6, .d (.int 5)] = .ok (.d (.int k7)) [.l t7] := h7
          have hm : atI [PyData.int 0, PyData.int 1, PyData.int 1, PyData.int 2, PyData.int 3] k7 = some (.int m) := hm
          have hmb : 0 ≤ m ∧ m ≤ 3 := by
            simp only [List.mem_cons, List.not_mem_nil, or_false] at hmm
            omega
          obtain ⟨mn, rfl⟩ : ∃ q : Nat, m = (q : Int) := ⟨m.toNat, by omega⟩
          obtain ⟨as, t8, h8, ht8, hao⟩ := hatt t7 ht7 mn (by omega) z
          have finn : ((ps ++ [(s, as)]).map (·.1)).Nodup := by rw [List.map_append]; exact List.nodup_append.mpr ⟨hpnd, by simp, fun x hx y hy => by rw [List.mem_singleton.mp hy]; rintro rfl; exact hb hx⟩
          have fin : ∀ p ∈ ps ++ [(s, as)], PtOk p := fun p hp => by
            rcases List.mem_append.mp hp with hp | hp
            · exact hpo p hp
            · rw [List.mem_singleton.mp hp]; exact ⟨hw3 s hsm, hao⟩
          rcases hx3 with rfl | rfl
          · push_cast [h5, hs, h6, hz, nm_port (C := C) (ps := ps) (by omega), hin, h7, hm, h8]
            exact ⟨by simp, t8, ps ++ [(s, as)], _, some (.d (.int (i : Int))), some (.d (.str s)), some (.d (.int z)), .inr rfl, by rw [List.map_append]; rfl, ht8, by rw [List.length_append, List.length_singleton]; omega, finn, fin, fun _ => by simp⟩
          · push_cast [h5, hs, h6, hz, nm_port (C := C) (ps := ps) (by omega), hin, h7, hm, h8]
            exact ⟨by simp, t8, ps ++ [(s, as)], _, some (.d (.int (i : Int))), some (.d (.str s)), some (.d (.int z)), .inr rfl, by rw [List.map_append]; rfl, ht8, by rw [List.length_append, List.length_singleton]; omega, finn, fin, fun _ => by simp⟩)
    have hps : PtsOk ps := ⟨hpn (by omega), by omega, hpnd, hpo⟩
    have hpp := List.length_pos_iff.mpr hps.ne
    -- the components
    obtain ⟨k8, t8, n2, h8, ht8, hn2, hnm2⟩ := drawn [1, 2, 3, 4, 6] t4 ht4 (by simp) (by decide)
    have h8 : C 5 [.l t4, .d (.int 5)] = .ok (.d (.int k8)) [.l t8] := h8
    have hn2 : atI [PyData.int 1, PyData.int 2, PyData.int 3, PyData.int 4, PyData.int 6] k8 = some (.int n2) := hn2
    have hnb2 : 1 ≤ n2 ∧ n2 ≤ 6 := by
      simp only [List.mem_cons, List.not_mem_nil, or_false] at hnm2
      omega
    obtain ⟨nn2, rfl⟩ : ∃ q : Nat, n2 = (q : Int) := ⟨n2.toNat, by omega⟩
    have pop (left : List Str) (hne : left ≠ []) (hll : left.length ≤ 1000) (t : List D) (ht : TapeOk t) : ∃ (k : Int) (s : Str) (t' : List D) (l' : List Str), C 5 [.l t, .d (.int (left.length : Int))] = .ok (.d (.int k)) [.l t'] ∧ TapeOk t' ∧
        mPopAt (left.map PyData.str) [.int k] = some (.d (.str s), l'.map PyData.str) ∧ (s :: l').Perm left ∧ l'.length ≤ left.length := by
      obtain ⟨k, t', h, ht', a, b⟩ := hD t ht (left.length : Int) (log_small (by omega))
      have := List.length_pos_iff.mpr hne
      obtain ⟨kn, rfl⟩ : ∃ q : Nat, k = (q : Int) := ⟨k.toNat, by omega⟩
      have hk : kn < left.length := by omega
      have hk2 : kn < (left.map PyData.str).length := by rw [List.length_map]; exact hk
      refine ⟨_, left[kn], t', left.eraseIdx kn, h, ht', by rw [popAt_d hk2 (by omega), er_map, List.getElem_map], er_perm left kn hk, ?_⟩
      rw [List.length_eraseIdx]; split <;> omega
    have more {cs : List Cp} {left l' : List Str} {s : Str} (h : (cs.map Cp.nm ++ left).Nodup) (hp : (s :: l').Perm left) (c : Cp) (hc : c.nm = s) : ((cs ++ [c]).map Cp.nm ++ l').Nodup := by
      rw [List.map_append, List.map_cons, List.map_nil, hc, List.append_assoc]
      exact (List.Perm.append_left _ hp).nodup_iff.mpr h
    have mok {cs : List Cp} (h : ∀ c ∈ cs, CpOk ps c) (c : Cp) (hc : CpOk ps c) : ∀ d ∈ cs ++ [c], CpOk ps d := fun d hd => by
      rcases List.mem_append.mp hd with hd | hd
      · exact h d hd
      · rw [List.mem_singleton.mp hd]; exact hc
    obtain ⟨e', g2, t9, cs, left, y3, y4, y5, y6, hy3, hy4, rfl, ht9, hcl, hle, hll⟩ := forN_inv (tg := tgN 5) (b := M396b1 C) (n := nn2)
      (fun i e => ∃ (t9 : List D) (cs : List Cp) (left : List Str) (y3 y4 y5 y6 : Option W), Own2 y3 (os.map PyData.str) ∧ Own2 y4 (ps.map ptD) ∧ e = [some (.l t9), some (.d (.int (room : Int))), some (.d (.list (ws.map PyData.str))), y3, y4, y5, y6, x7, some (.l (cs.map Cp.dat)), some (.l (left.map PyData.str)), none] ∧ TapeOk t9 ∧ cs.length ≤ i ∧ ((cs.map Cp.nm ++ left).Nodup ∧ ∀ c ∈ cs, CpOk ps c) ∧ left.length ≤ 1000)
      (e := [some (.l t8), some (.d (.int (room : Int))), some (.d (.list (ws.map PyData.str))), x3, some (.l (ps.map ptD)), x5, x6, x7, some (.l []), some (.l (ws.map PyData.str)), none])
      ⟨t8, [], ws, _, _, _, _, hx3, .inl rfl, rfl, ht8, Nat.le_refl _, ⟨hw4, (fun _ h => by cases h)⟩, hw2⟩ (fun i e hi hI => by
        obtain ⟨t9, cs, left, y3, y4, y5, y6, hy3, hy4, rfl, ht9, hcl, hle, hll⟩ := hI
        refine ⟨_, rfl, ?_⟩
        unfold M396b1
        by_cases hne : left = []
        · subst hne
          push_cast [List.map_nil]
          exact ⟨by simp, t9, cs, [], _, _, _, _, hy3, hy4, rfl, ht9, by omega, hle, hll⟩
        · have he : (left.map PyData.str).isEmpty = false := by rw [List.isEmpty_eq_false_iff]; simpa using hne
          obtain ⟨k, s, t10, l', q1, ht10, q2, q3, q4⟩ := pop left hne hll t9 ht9
          obtain ⟨d, t11, q5, ht11, hdn, hdo⟩ := hcmp ps hps s t10 ht10
          have q6 := fun e => gMu_s (i := 9) (e := e) q2
          rcases hy3 with rfl | rfl <;> rcases hy4 with rfl | rfl <;>
          · push_cast [he, q1, q6, q5]
            exact ⟨by simp, t11, cs ++ [d], l', _, _, _, some (.d (.str s)), .inr rfl, .inr rfl, by rw [List.map_append]; rfl, ht11, by rw [List.length_append, List.length_singleton]; omega, ⟨more hle.1 q3 d hdn, mok hle.2 d hdo⟩, by omega⟩)
    -- one leaf for each port kind
    obtain ⟨k10, t10, h10, ht10, a10, b10⟩ := hD t9 ht9 2 (by decide)
    obtain ⟨k13, hk13⟩ : ∃ k13 : Int, k13 = k10 := ⟨_, rfl⟩
    have leaves (z4 : Option W) : ∃ (t11 : List D) (cs2 : List Cp) (left2 : List Str) (z6 z10 : Option W), forL (tgN 10) (M396b2 C) (ps.map ptD) [some (.l t10), some (.d (.int (room : Int))), some (.d (.list (ws.map PyData.str))), y3, z4, y5, y6, x7, some (.l (cs.map Cp.dat)), some (.l (left.map PyData.str)), none] = .ok .nx [some (.l t11), some (.d (.int (room : Int))), some (.d (.list (ws.map PyData.str))), y3, z4, y5, z6, x7, some (.l (cs2.map Cp.dat)), some (.l (left2.map PyData.str)), z10] ∧ TapeOk t11 ∧ cs2.length ≤ 12 ∧ CsOk ps cs2 := by
      obtain ⟨e', g, t11, cs2, left2, z6, z10, rfl, ht11, h1, h2, _⟩ := forT_inv (dat := ptD) (tg := tgN 10) (b := M396b2 C) (xs := ps)
        (fun pre e => ∃ (t11 : List D) (cs2 : List Cp) (left2 : List Str) (z6 z10 : Option W), e = [some (.l t11), some (.d (.int (room : Int))), some (.d (.list (ws.map PyData.str))), y3, z4, y5, z6, x7, some (.l (cs2.map Cp.dat)), some (.l (left2.map PyData.str)), z10] ∧ TapeOk t11 ∧ cs2.length ≤ cs.length + pre.length ∧ ((cs2.map Cp.nm ++ left2).Nodup ∧ ∀ c ∈ cs2, CpOk ps c) ∧ left2.length ≤ 1000)
        (e := [some (.l t10), some (.d (.int (room : Int))), some (.d (.list (ws.map PyData.str))), y3, z4, y5, y6, x7, some (.l (cs.map Cp.dat)), some (.l (left.map PyData.str)), none]) ⟨t10, cs, left, _, _, rfl, ht10, by simp, hle, hll⟩ (fun pre p post e hx hI => by
          obtain ⟨t11, cs2, left2, z6, z10, rfl, ht11, hcl2, hle2, hll2⟩ := hI
          refine ⟨_, rfl, ?_⟩
          have hpre : pre.length ≤ 6 := by
            have := congrArg List.length hx
            rw [List.length_append, List.length_cons] at this
            have := hps.len
            omega
          unfold M396b2
          by_cases hne : left2 = []
          · subst hne
            push_cast [List.map_nil]
            exact ⟨by simp, t11, cs2, [], _, _, rfl, ht11, by rw [List.length_append]; omega, hle2, hll2⟩
          · have he : (left2.map PyData.str).isEmpty = false := by rw [List.isEmpty_eq_false_iff]; simpa using hne
            obtain ⟨k, s, t12, l', q1, ht12, q2, q3, q4⟩ := pop left2 hne hll2 t11 ht11
            obtain ⟨k5, t13, q5, ht13, _, _⟩ := hD t12 ht12 4 (by decide)
            have q6 := fun e => gMu_s (i := 9) (e := e) q2
            push_cast [he, q1, q6, ptD_0, q5]
            exact ⟨by simp, t13, cs2 ++ [leafC s p k5], l', some (.d (.str s)), some (.d (ptD p)), by rw [List.map_append]; rfl, ht13, by rw [List.length_append, List.length_append, List.length_singleton, List.length_singleton]; omega, ⟨more hle2.1 q3 _ rfl, mok hle2.2 _ (leafC_ok (by rw [hx]; simp) s k5)⟩, by omega⟩)
      have := hps.len
      exact ⟨t11, cs2, left2, z6, z10, g, ht11, by omega, ⟨(List.nodup_append.mp h2.1).1, h2.2⟩⟩
    have last (t : List D) (ht : TapeOk t) : ∃ (k : Int) (t' : List D) (p : Pt), C 5 [.l t, .d (.int (ps.length : Int))] = .ok (.d (.int k)) [.l t'] ∧ TapeOk t' ∧ atI (ps.map ptD) k = some (ptD p) ∧ p.1 ∈ ps.map (·.1) := by
      have := hps.len
      obtain ⟨k, t', h, ht', a, b⟩ := hD t ht (ps.length : Int) (log_small (by omega))
      obtain ⟨p, hpm, hx⟩ := at_pt (ps := ps) a (by omega)
      exact ⟨k, t', p, h, ht', hx, List.mem_map.mpr ⟨p, hpm, rfl⟩⟩
    by_cases c0 : k10 = 0
    · subst c0
      obtain ⟨t11, cs2, left2, z6, z10, g3, ht11, hc12, hcok⟩ := leaves (some (.d (.list (ps.map ptD))))
      obtain ⟨k, t12, p, q1, ht12, q2, q3⟩ := last t11 ht11
      rcases hy4 with rfl | rfl
      · push_cast [h1, h2, hadd, h3, hn, g1, h8, hn2, g2, h10, g3, q1, q2, ptD_0]
        exact ⟨ps, cs2, p.1, t12, rfl, rfl, ht12, hps, hcok, hc12, q3⟩
      · push_cast [h1, h2, hadd, h3, hn, g1, h8, hn2, g2, h10, g3, q1, q2, ptD_0]
        exact ⟨ps, cs2, p.1, t12, rfl, rfl, ht12, hps, hcok, hc12, q3⟩
    · have c0 : (k10 == 0) = false := beq_eq_false_iff_ne.mpr c0
      obtain ⟨k, t12, p, q1, ht12, q2, q3⟩ := last t10 ht10
      have hcok : CsOk ps cs := ⟨(List.nodup_append.mp hle.1).1, hle.2⟩
      rcases hy4 with rfl | rfl
      · push_cast [h1, h2, hadd, h3, hn, g1, h8, hn2, g2, h10, c0, q1, q2, ptD_0]
        exact ⟨ps, cs, p.1, t12, rfl, rfl, ht12, hps, hcok, by omega, q3⟩
      · push_cast [h1, h2, hadd, h3, hn, g1, h8, hn2, g2, h10, c0, q1, q2, ptD_0]
        exact ⟨ps, cs, p.1, t12, rfl, rfl, ht12, hps, hcok, by omega, q3⟩
  obtain ⟨w, o, h, ps, cs, root, t', rfl, rfl, r⟩ := run
  exact ⟨ps, cs, root, t', h, r⟩
def Words1S (C : Orc) : Prop := ∀ t, TapeOk t → ∀ n : Nat, 0 < n → n ≤ 100 → ∃ (ss : List Str) (t' : List D), C 39 [.l t, .d (.int (n : Int))] = .ok (.d (.list (ss.map PyData.str))) [.l t'] ∧ TapeOk t' ∧ ss ≠ [] ∧ ss.length ≤ n ∧ ss.Nodup ∧ ∀ s ∈ ss, s.length ≤ 40 ∧ sk s = true ∧ pln s = true ∧ s ≠ "plug"
theorem definition_ok (C : Orc) (room : Nat) (h39 : Words1S C) (h396 : ∀ ws : List Str, WsOk ws → ∀ t, TapeOk t → ∃ (ps : List Pt) (cs : List Cp) (root : Str) (t' : List D), C 396 [.l t, .d (.int (room : Int)), .d (.list (ws.map PyData.str))] = .ok (.d (defD ps (.tuple (cs.map Cp.dat)) (.str root))) [.l t'] ∧ TapeOk t' ∧ PtsOk ps ∧ CsOk ps cs ∧ cs.length ≤ 12 ∧ root ∈ ps.map (·.1)) {t : List D} (ht : TapeOk t) :
    ∃ (ps : List Pt) (cs : List Cp) (root : Str) (t' : List D), F395 C [.l t, .d (.int (room : Int))] = .ok (.d (defD ps (.tuple (cs.map Cp.dat)) (.str root))) [.l t'] ∧ TapeOk t' ∧ PtsOk ps ∧ CsOk ps cs ∧ cs.length ≤ 12 ∧ root ∈ ps.map (·.1) := by
  have run : WpC (F395 C [.l t, .d (.int (room : Int))]) fun w o => ∃ (ps : List Pt) (cs : List Cp) (root : Str) (t' : List D), w = .d (defD ps (.tuple (cs.map Cp.dat)) (.str root)) ∧ o = [.l t'] ∧ TapeOk t' ∧ PtsOk ps ∧ CsOk ps cs ∧ cs.length ≤ 12 ∧ root ∈ ps.map (·.1) := by
    refine wpC_run (m := M395 C) rfl rfl rfl ?_
    simp only [List.map_cons, List.map_nil, List.cons_append, List.nil_append, List.replicate]
    unfold M395
    obtain ⟨ws, t1, h1, ht1, w1, w2, w4, w3⟩ := h39 t ht 13 (by decide) (by decide)
    have h1 : C 39 [.l t, .d (.int 13)] = .ok (.d (.list (ws.map PyData.str))) [.l t1] := h1
    obtain ⟨ps, cs, root, t2, h2, ht2, hp⟩ := h396 ws ⟨w1, by omega, w3, w4⟩ t1 ht1
    push_cast [h1, h2]
    exact ⟨ps, cs, root, t2, rfl, rfl, ht2, hp⟩
  obtain ⟨w, o, h, ps, cs, root, t', rfl, rfl, r⟩ := run
  exact ⟨ps, cs, root, t', h, r⟩
/-! ### the names of the variables are different -/
theorem spl_list : ∀ {x y a b : List Nat}, 46 ∉ x → 46 ∉ y → x ++ 46 :: a = y ++ 46 :: b → x = y ∧ a = b
  | [], [], a, b, _, _, h => by simpa using h
  | [], c :: y, a, b, _, hy, h => by
    simp only [List.nil_append, List.cons_append, List.cons.injEq] at h
    exact absurd (h.1 ▸ List.mem_cons_self) hy
  | c :: x, [], a, b, hx, _, h => by
    simp only [List.nil_append, List.cons_append, List.cons.injEq] at h
    exact absurd (h.1 ▸ List.mem_cons_self) hx
  | c :: x, d :: y, a, b, hx, hy, h => by
    simp only [List.cons_append, List.cons.injEq] at h
    obtain ⟨rfl, h⟩ := h
    obtain ⟨rfl, h2⟩ := spl_list (fun z => hx (List.mem_cons_of_mem _ z)) (fun z => hy (List.mem_cons_of_mem _ z)) h
    exact ⟨rfl, h2⟩
theorem pln_mem {s : Str} (h : pln s = true) : 46 ∉ s.cps.toList := by
  intro hm
  unfold pln at h
  rw [← Array.all_toList] at h
  have := List.all_eq_true.mp h 46 hm
  simp at this
theorem str_ext {a b : Str} (h : a.cps.toList = b.cps.toList) : a = b := by
  cases a; cases b
  simp only at h
  congr
  exact Array.toList_inj.mp h
theorem app_cps (a b : Str) : (a ++ b).cps.toList = a.cps.toList ++ b.cps.toList := by
  show (a.cps ++ b.cps).toList = _
  rw [Array.toList_append]
theorem dot_cps (x a : Str) : ((x ++ ".") ++ a).cps.toList = x.cps.toList ++ 46 :: a.cps.toList := by
  rw [app_cps, app_cps, List.append_assoc]
  have : (("." : Str)).cps.toList = [46] := by decide +kernel
  rw [this]; rfl
theorem dot_inj {x y a b : Str} (hx : pln x = true) (hy : pln y = true) (h : (x ++ ".") ++ a = (y ++ ".") ++ b) : x = y ∧ a = b := by
  have h2 := congrArg (fun s : Str => s.cps.toList) h
  simp only [dot_cps] at h2
  obtain ⟨h3, h4⟩ := spl_list (pln_mem hx) (pln_mem hy) h2
  exact ⟨str_ext h3, str_ext h4⟩
theorem dot_not {x a : Str} {s : Str} (hs : pln s = true) : s ≠ (x ++ ".") ++ a := fun h => by
  have h2 := congrArg (fun s : Str => s.cps.toList) h
  simp only [dot_cps] at h2
  exact pln_mem hs (by rw [h2]; simp)
theorem nd_map {α β : Type} {f : α → β} : ∀ {l : List α}, l.Nodup → (∀ x ∈ l, ∀ y ∈ l, f x = f y → x = y) → (l.map f).Nodup
  | [], _, _ => List.nodup_nil
  | x :: l, h, hi => by
    rw [List.nodup_cons] at h
    rw [List.map_cons, List.nodup_cons]
    refine ⟨fun hm => ?_, nd_map h.2 fun a ha b hb => hi a (List.mem_cons_of_mem _ ha) b (List.mem_cons_of_mem _ hb)⟩
    obtain ⟨y, hy, e⟩ := List.mem_map.mp hm
    have := hi y (List.mem_cons_of_mem _ hy) x List.mem_cons_self e
    subst this
    exact h.1 hy
theorem nd_groups : ∀ {G : List (Str × List Str)}, (G.map (·.1)).Nodup → (∀ g ∈ G, g.2.Nodup) → (G.flatMap fun g => g.2.map fun a => (g.1, a)).Nodup
  | [], _, _ => List.nodup_nil
  | g :: G, h, hg => by
    rw [List.map_cons, List.nodup_cons] at h
    rw [List.flatMap_cons, List.nodup_append]
    refine ⟨nd_map (hg g List.mem_cons_self) (fun x _ y _ e => (Prod.mk.inj e).2), nd_groups h.2 fun x hx => hg x (List.mem_cons_of_mem _ hx), fun x hx y hy e => ?_⟩
    subst e
    obtain ⟨a, _, rfl⟩ := List.mem_map.mp hx
    obtain ⟨k, hk, h2⟩ := List.mem_flatMap.mp hy
    obtain ⟨b, _, e⟩ := List.mem_map.mp h2
    have : k.1 = g.1 := (Prod.mk.inj e).1
    exact h.1 (this ▸ List.mem_map.mpr ⟨k, hk, rfl⟩)
theorem vars_nd {ps : List Pt} {as : List At} {pg : Pt} {sl : List Sl} (hp : PtsOk ps) (ha : AtsOk as) (hg : pg ∈ ps) (hs : SlsOk ps sl) : ((varsOf as pg sl).map (·.1)).Nodup := by
  obtain ⟨G, hG⟩ : ∃ G : List (Str × List Str), G = (("plug" : Str), pg.2.map (·.1)) :: sl.map fun s => (s.1, s.2.2.map (·.1)) := ⟨_, rfl⟩
  have hplug : pln ("plug" : Str) = true := by decide +kernel
  have hdot : ("plug." : Str) = ("plug" : Str) ++ "." := by decide +kernel
  have h1 : (varsOf as pg sl).map (·.1) = as.map (·.1) ++ (G.flatMap fun g => g.2.map fun a => (g.1, a)).map (fun q : Str × Str => ((q.1 ++ ".") ++ q.2 : Str)) := by
    have e2 : (sl.flatMap fun s => s.2.2.map fun a : At => (((s.1 ++ ".") ++ a.1 : Str), a.2)).map (·.1) = ((sl.map fun s => (s.1, s.2.2.map (·.1))).flatMap fun g => g.2.map fun a => (g.1, a)).map (fun q : Str × Str => ((q.1 ++ ".") ++ q.2 : Str)) := by
      rw [List.map_flatMap, List.map_flatMap, List.flatMap_map]
      refine congrArg (fun F => List.flatMap F sl) (funext fun s => ?_)
      simp only [List.map_map]
      rfl
    unfold varsOf ats
    rw [hG, List.flatMap_cons, List.map_append, List.map_append, List.map_append, List.append_assoc, e2, hdot]
    simp only [List.map_map]
    rfl
  have hGp : ∀ g ∈ G, pln g.1 = true := fun g hgm => by
    rw [hG] at hgm
    rcases List.mem_cons.mp hgm with rfl | hgm
    · exact hplug
    · obtain ⟨s, hsm, rfl⟩ := List.mem_map.mp hgm
      exact (hs.wd s hsm).2.2.1
  have hGn : (G.map (·.1)).Nodup := by
    rw [hG, List.map_cons, List.map_map, List.nodup_cons]
    refine ⟨fun hm => ?_, hs.nd⟩
    obtain ⟨s, hsm, e⟩ := List.mem_map.mp hm
    exact (hs.wd s hsm).2.2.2 e
  have hGs : ∀ g ∈ G, g.2.Nodup := fun g hgm => by
    rw [hG] at hgm
    rcases List.mem_cons.mp hgm with rfl | hgm
    · exact (hp.ok pg hg).at_.nd
    · obtain ⟨s, hsm, rfl⟩ := List.mem_map.mp hgm
      exact (hp.ok s.2 (hs.pt s hsm)).at_.nd
  rw [h1, List.nodup_append]
  refine ⟨ha.nd, nd_map (nd_groups hGn hGs) (fun x hx y hy e => ?_), fun x hx y hy e => ?_⟩
  · obtain ⟨g, hg1, h2⟩ := List.mem_flatMap.mp hx
    obtain ⟨a, _, rfl⟩ := List.mem_map.mp h2
    obtain ⟨k, hk1, h3⟩ := List.mem_flatMap.mp hy
    obtain ⟨b, _, rfl⟩ := List.mem_map.mp h3
    obtain ⟨e1, e2⟩ := dot_inj (hGp g hg1) (hGp k hk1) e
    exact Prod.ext e1 e2
  · obtain ⟨a, ham, rfl⟩ := List.mem_map.mp hx
    obtain ⟨q, _, rfl⟩ := List.mem_map.mp hy
    exact dot_not (ha.ok a ham).wd.2.2.1 e
end Mi
set_option Elab.async false
set_option linter.all false
set_option maxRecDepth 100000
set_option maxHeartbeats 4000000
namespace L12
open PySem PySem.Spec PyProof.Rows L2 Mi
def _root_.Mi.M126b0 (C : Orc) : MS :=
 (sSeq (sSet 5 (eO2 fIx (.ex (eLc (iAny (eV 0)) (tgN 6) (tO2 cEq (.ex (eO2 fIx (.vr 6) (.ex (eC (.int 0))))) (.vr 4)) (eO2 fIx (.vr 6) (.ex (eC (.int 1)))) [6])) (.ex (eC (.int 0)))))
 (sE (eMu mExt 2 [(eLc (iAny (eV 5)) (tgT [(tgN 7), (tgN 8)]) mYes (eTup [(eO2 fAddS (.ex (eO2 fAddS (.vr 3) (.ex (eC (.str "."))))) (.vr 7)), (eV 8)]) [7, 8])])))
/-- domains_of -/
def _root_.Mi.M126 (C : Orc) : MS :=
 (sSeq (sSet 2 (eB bList [(.ex (eO2 fIx (.vr 1) (.ex (eC (.int 2)))))]))
 (sSeq (sFor (iAny (eO2 fAdd (.ex (eTup [(eTup [(eC (.str "plug")), (eO2 fIx (.vr 1) (.ex (eC (.int 1))))])])) (.ex (eO2 fIx (.vr 1) (.ex (eC (.int 3))))))) (tgT [(tgN 3), (tgN 4)])
 (M126b0 C))
 (sRet (eV 2))))
def _root_.Mi.F126 (C : Orc) : List W → CRes := runF 2 9 [[]] (Mi.M126 C)
def _root_.Mi.M1056b0 (C : Orc) : MS :=
 (sIf (tO2 cEq (.ex (eO2 fIx (.vr 2) (.ex (eC (.int 0))))) (.vr 1))
 (sRet (eV 2))
 sNx)
/-- component_of -/
def _root_.Mi.M1056 (C : Orc) : MS :=
 (sSeq (sOk (sFor (iAny (eO2 fIx (.vr 0) (.ex (eC (.int 1))))) (tgN 2)
 (M1056b0 C)))
 (sRaise "UnknownComponent" ["name"] [(eV 1)]))
def _root_.Mi.F1056 (C : Orc) : List W → CRes := runF 2 3 [[]] (Mi.M1056 C)
/-- variables_of -/
def _root_.Mi.M1057 (C : Orc) : MS :=
 (sSeq (sSet 2 (eXG (eO2 fIx (.vr 0) (.ex (eC (.int 0)))) (eCallX C 1056 [.vl (eV 0), .vl (eV 1)]) (eCall C 126 [.vl (eO2 fIx (.vr 0) (.ex (eC (.int 0)))), .vl (eCallX C 1056 [.vl (eV 0), .vl (eV 1)])])))
 (sOk (sRet (eB bTuple [(.ex (eLc (iAny (eV 2)) (tgT [(tgN 3), (tgN 4)]) mYes (eTup [(eV 3), (eCall C 124 [.vl (eV 4)])]) [3, 4]))]))))
def _root_.Mi.F1057 (C : Orc) : List W → CRes := runF 2 5 [[]] (Mi.M1057 C)
def _root_.Mi.M436b0 (C : Orc) : MS :=
 (sIf (tO2 cNotInT (.ex (eO2 fStrMul (.ex (eC (.str "z"))) (.ex (eO2 fAddI (.vr 1) (.ex (eC (.int 1))))))) (.vr 0))
 (sRet (eO2 fStrMul (.ex (eC (.str "z"))) (.ex (eO2 fAddI (.vr 1) (.ex (eC (.int 1)))))))
 sNx)
/-- _law_strange -/
def _root_.Mi.M436 (C : Orc) : MS :=
 (sSeq (sFor (iR1 (eB bLen [(.vr 0)])) (tgN 1)
 (M436b0 C))
 (sRet (eO2 fStrMul (.ex (eC (.str "z"))) (.ex (eO2 fAddI (.ex (eB bLen [(.vr 0)])) (.ex (eC (.int 1))))))))
def _root_.Mi.F436 (C : Orc) : List W → CRes := runF 1 2 [[]] (Mi.M436 C)
/-- _law_refused -/
def _root_.Mi.M1058 (C : Orc) : MS :=
 (sSeq (sTryM (sE (eCallX C 1057 [.vl (eV 0), .vl (eV 1)])) [⟨some 2, [("UnknownComponent", true)], (hvLet 3 (hvO (hvE (hIs [("UnknownComponent", false)])) (hvO (hvE (hIs [("UnknownComponent", false)])) (hvE (hIs [("UnknownComponent", false)])))) (hvRet (hvA (hvEq (hvE (hF "name")) (hvV 1)) (hvA (hvE (hIs [("UnknownComponent", true)])) (hvA (hvE (hIs [("UnknownComponent", true)])) (hvN (hvV 3)))))))⟩])
 (sRet (eC (.bool false))))
def _root_.Mi.F1058 (C : Orc) : List W → CRes := runF 2 4 [[]] (Mi.M1058 C)
def _root_.Mi.M1059b0 (C : Orc) : MS :=
 (sSeq (sSet 7 (eCallX C 1057 [.vl (eV 4), .vl (eO2 fIx (.vr 6) (.ex (eC (.int 0))))]))
 (sSeq (sSet 8 (eLc (iAny (eCall C 163 [.vl (eV 4), .vl (eV 6)])) (tgN 10) mYes (eTup [(eO2 fIx (.vr 10) (.ex (eC (.int 0)))), (eB bTuple [(.ex (eO2 fIx (.vr 10) (.ex (eC (.int 1)))))])]) [10]))
 (sSeq (sIf (tOr' (tNot' (tTru (.ex (eO1 (fIs "tuple") (.vr 7))))) (tO2 cNe (.ex (eB bRepr [(.ex (eB bList [(.vr 7)]))])) (.ex (eB bRepr [(.vr 8)]))))
 (sRet (eC (.bool false)))
 sNx)
 (sIf (tO2 cGt (.ex (eB bLen [(.ex (eLc (iAny (eV 7)) (tgN 10) (tO2 cGt (.ex (eCn (eLc (iAny (eV 7)) (tgN 11) mYes (eO2 fIx (.vr 11) (.ex (eC (.int 0)))) [11]) (eO2 fIx (.vr 10) (.ex (eC (.int 0)))))) (.ex (eC (.int 1)))) (eV 10) [10]))])) (.ex (eC (.int 0))))
 (sRet (eC (.bool false)))
 sNx))))
def _root_.Mi.M1059b1 (C : Orc) : MS :=
 (sSeq (sSet 4 (eO2 fIx (.vr 2) (.ex (eO2 fMod (.ex (eB bInt [(.vr 3)])) (.ex (eC (.int 2)))))))
 (sSeq (sSet 5 (eLc (iAny (eO2 fIx (.vr 4) (.ex (eC (.int 1))))) (tgN 6) mYes (eO2 fIx (.vr 6) (.ex (eC (.int 0)))) [6]))
 (sSeq (sFor (iAny (eO2 fIx (.vr 4) (.ex (eC (.int 1))))) (tgN 6)
 (M1059b0 C))
 (sSeq (sSet 9 (eCall C 436 [.vl (eV 5)]))
 (sSeq (sIf (tAnd' (tO2 cEq (.ex (eCall C 5 [.rf 1, .vl (eC (.int 2))])) (.ex (eC (.int 0)))) (tO2 cNotInT (.ex (eO2 fIx (.ex (eO2 fIx (.ex (eO2 fIx (.vr 4) (.ex (eC (.int 0))))) (.ex (eC (.int 0))))) (.ex (eC (.int 0))))) (.vr 5)))
 (sSet 9 (eO2 fIx (.ex (eO2 fIx (.ex (eO2 fIx (.vr 4) (.ex (eC (.int 0))))) (.ex (eC (.int 0))))) (.ex (eC (.int 0)))))
 sNx)
 (sIf (tNot' (tTru (.ex (eCall C 1058 [.vl (eV 4), .vl (eV 9)]))))
 (sRet (eC (.bool false)))
 sNx))))))
/-- law -/
def _root_.Mi.M1059 (C : Orc) : MS :=
 (sSeq (sSet 1 (eCall C 4 [.vl (eV 0)]))
 (sSeq (sSet 2 (eLst [(eCall C 395 [.rf 1, .vl (eC (.int 12))]), (eCall C 395 [.rf 1, .vl (eC (.int 12))])]))
 (sSeq (sFor (iR1 (eC (.int 4))) (tgN 3)
 (M1059b1 C))
 (sRet (eC (.bool true))))))
def _root_.Mi.F1059 (C : Orc) : List W → CRes := runF 1 12 [[]] (Mi.M1059 C)
def bodies (C : Orc) : Nat → List W → CRes
  | 124 => F124 C
  | 126 => F126 C
  | 1056 => F1056 C
  | 1057 => F1057 C
  | 4 => F4 C
  | 5 => F5 C
  | 38 => F38 C
  | 39 => F39 C
  | 41 => F41 C
  | 42 => F42 C
  | 43 => F43 C
  | 415 => F415 C
  | 154 => F154 C
  | 155 => F155 C
  | 156 => F156 C
  | 157 => F157 C
  | 158 => F158 C
  | 394 => F394 C
  | 395 => F395 C
  | 396 => F396 C
  | 162 => F162 C
  | 163 => F163 C
  | 436 => F436 C
  | 1058 => F1058 C
  | 1059 => F1059 C
  | _ => fun _ => .no
def callN : Nat → Orc
  | 0 => fun _ _ => .no
  | n + 1 => fun k ws => bodies (callN n) k ws
end L12
set_option Elab.async false
set_option linter.all false
set_option maxRecDepth 100000
set_option maxHeartbeats 4000000
namespace L12
open PySem PySem.Spec PyProof.Rows L2 Mi
def top (i : Nat) : Stmt := PySem.Challenge.pw_slotwise_k12_variables_of_components.main.body.getD i (.Pass ⟨0, 0, 0, 0⟩)
abbrev st_values_of : Stmt := top 7
abbrev N_values_of : List Str := ["domain"]
abbrev ps_values_of : List Str := ["domain"]
theorem sc_values_of : FnScope N_values_of ps_values_of (defScope st_values_of) := ⟨rfl, rfl, rfl, by decide +kernel, rfl, by decide +kernel, by decide +kernel⟩
abbrev st_domains_of : Stmt := top 8
abbrev N_domains_of : List Str := ["ports", "component", "found", "prefix", "port", "attributes", "row", "name", "domain"]
abbrev ps_domains_of : List Str := ["ports", "component"]
theorem sc_domains_of : FnScope N_domains_of ps_domains_of (defScope st_domains_of) := ⟨rfl, rfl, rfl, by decide +kernel, rfl, by decide +kernel, by decide +kernel⟩
abbrev st_component_of : Stmt := top 10
abbrev N_component_of : List Str := ["definition", "component", "found"]
abbrev ps_component_of : List Str := ["definition", "component"]
theorem sc_component_of : FnScope N_component_of ps_component_of (defScope st_component_of) := ⟨rfl, rfl, rfl, by decide +kernel, rfl, by decide +kernel, by decide +kernel⟩
abbrev st_variables_of : Stmt := top 11
abbrev N_variables_of : List Str := ["definition", "component", "domains", "name", "domain"]
abbrev ps_variables_of : List Str := ["definition", "component"]
theorem sc_variables_of : FnScope N_variables_of ps_variables_of (defScope st_variables_of) := ⟨rfl, rfl, rfl, by decide +kernel, rfl, by decide +kernel, by decide +kernel⟩
abbrev st__law_tape : Stmt := top 13
abbrev N__law_tape : List Str := ["_law_script", "_law_total", "_law_cell"]
abbrev ps__law_tape : List Str := ["_law_script"]
theorem sc__law_tape : FnScope N__law_tape ps__law_tape (defScope st__law_tape) := ⟨rfl, rfl, rfl, by decide +kernel, rfl, by decide +kernel, by decide +kernel⟩
abbrev st__law_draw : Stmt := top 14
abbrev N__law_draw : List Str := ["_law_tape_here", "_law_menu", "_law_place", "_law_number"]
abbrev ps__law_draw : List Str := ["_law_tape_here", "_law_menu"]
theorem sc__law_draw : FnScope N__law_draw ps__law_draw (defScope st__law_draw) := ⟨rfl, rfl, rfl, by decide +kernel, rfl, by decide +kernel, by decide +kernel⟩
abbrev st__law_word : Stmt := top 15
abbrev N__law_word : List Str := ["_law_tape_here", "_law_stem", "_law_letters", "_law_word_here", "_law_k"]
abbrev ps__law_word : List Str := ["_law_tape_here", "_law_stem"]
theorem sc__law_word : FnScope N__law_word ps__law_word (defScope st__law_word) := ⟨rfl, rfl, rfl, by decide +kernel, rfl, by decide +kernel, by decide +kernel⟩
abbrev st__law_words : Stmt := top 16
abbrev N__law_words : List Str := ["_law_tape_here", "_law_top", "_law_stem", "_law_words_here", "_law_k", "_law_word_here"]
abbrev ps__law_words : List Str := ["_law_tape_here", "_law_top"]
theorem sc__law_words : FnScope N__law_words ps__law_words (defScope st__law_words) := ⟨rfl, rfl, rfl, by decide +kernel, rfl, by decide +kernel, by decide +kernel⟩
abbrev st__law_option : Stmt := top 17
abbrev N__law_option : List Str := ["_law_tape_here", "_law_signs", "_law_text", "_law_k"]
abbrev ps__law_option : List Str := ["_law_tape_here"]
theorem sc__law_option : FnScope N__law_option ps__law_option (defScope st__law_option) := ⟨rfl, rfl, rfl, by decide +kernel, rfl, by decide +kernel, by decide +kernel⟩
abbrev st__law_options : Stmt := top 18
abbrev N__law_options : List Str := ["_law_tape_here", "_law_first"]
abbrev ps__law_options : List Str := ["_law_tape_here"]
theorem sc__law_options : FnScope N__law_options ps__law_options (defScope st__law_options) := ⟨rfl, rfl, rfl, by decide +kernel, rfl, by decide +kernel, by decide +kernel⟩
abbrev st__law_leaf : Stmt := top 19
abbrev N__law_leaf : List Str := ["_law_tape_here", "_law_kind", "_law_variables", "_law_options_here", "_law_names", "_law_pair"]
abbrev ps__law_leaf : List Str := ["_law_tape_here", "_law_kind", "_law_variables", "_law_options_here"]
theorem sc__law_leaf : FnScope N__law_leaf ps__law_leaf (defScope st__law_leaf) := ⟨rfl, rfl, rfl, by decide +kernel, rfl, by decide +kernel, by decide +kernel⟩
abbrev st__law_expression : Stmt := top 20
abbrev N__law_expression : List Str := ["_law_tape_here", "_law_kind", "_law_variables", "_law_options_here", "_law_places", "_law_depth", "_law_choice", "_law_operand", "_law_left", "_law_wanted", "_law_operator", "_law_first"]
abbrev ps__law_expression : List Str := ["_law_tape_here", "_law_kind", "_law_variables", "_law_options_here", "_law_places", "_law_depth"]
theorem sc__law_expression : FnScope N__law_expression ps__law_expression (defScope st__law_expression) := ⟨rfl, rfl, rfl, by decide +kernel, rfl, by decide +kernel, by decide +kernel⟩
abbrev st__law_column : Stmt := top 21
abbrev N__law_column : List Str := ["_law_domain_here"]
abbrev ps__law_column : List Str := ["_law_domain_here"]
theorem sc__law_column : FnScope N__law_column ps__law_column (defScope st__law_column) := ⟨rfl, rfl, rfl, by decide +kernel, rfl, by decide +kernel, by decide +kernel⟩
abbrev st__law_many : Stmt := top 22
abbrev N__law_many : List Str := ["_law_attributes_here", "_law_size", "_law_attribute"]
abbrev ps__law_many : List Str := ["_law_attributes_here"]
theorem sc__law_many : FnScope N__law_many ps__law_many (defScope st__law_many) := ⟨rfl, rfl, rfl, by decide +kernel, rfl, by decide +kernel, by decide +kernel⟩
abbrev st__law_domain : Stmt := top 23
abbrev N__law_domain : List Str := ["_law_tape_here", "_law_options_here", "_law_top", "_law_size", "_law_start", "_law_chosen", "_law_option_here", "_law_low"]
abbrev ps__law_domain : List Str := ["_law_tape_here", "_law_options_here", "_law_top"]
theorem sc__law_domain : FnScope N__law_domain ps__law_domain (defScope st__law_domain) := ⟨rfl, rfl, rfl, by decide +kernel, rfl, by decide +kernel, by decide +kernel⟩
abbrev st__law_attributes : Stmt := top 24
abbrev N__law_attributes : List Str := ["_law_tape_here", "_law_words_here", "_law_options_here", "_law_top", "_law_room", "_law_attributes_here", "_law_size", "_law_k", "_law_name", "_law_domain_here", "_law_values", "_law_attribute"]
abbrev ps__law_attributes : List Str := ["_law_tape_here", "_law_words_here", "_law_options_here", "_law_top", "_law_room"]
theorem sc__law_attributes : FnScope N__law_attributes ps__law_attributes (defScope st__law_attributes) := ⟨rfl, rfl, rfl, by decide +kernel, rfl, by decide +kernel, by decide +kernel⟩
abbrev st__law_table : Stmt := top 25
abbrev N__law_table : List Str := ["_law_tape_here", "_law_variables", "_law_options_here", "_law_columns", "_law_k", "_law_name", "_law_rows", "_law_row", "_law_values", "_law_value", "_law_pair"]
abbrev ps__law_table : List Str := ["_law_tape_here", "_law_variables", "_law_options_here"]
theorem sc__law_table : FnScope N__law_table ps__law_table (defScope st__law_table) := ⟨rfl, rfl, rfl, by decide +kernel, rfl, by decide +kernel, by decide +kernel⟩
abbrev st__law_component : Stmt := top 26
abbrev N__law_component : List Str := ["_law_tape_here", "_law_name", "_law_ports", "_law_words_here", "_law_options_here", "_law_room", "_law_plug", "_law_size", "_law_slots", "_law_k", "_law_port_here", "_law_slot", "_law_attributes_here", "_law_variables", "_law_kinds", "_law_rules", "_law_tables", "_law_charges", "_law_condition", "_law_price", "_law_pair"]
abbrev ps__law_component : List Str := ["_law_tape_here", "_law_name", "_law_ports", "_law_words_here", "_law_options_here", "_law_room"]
theorem sc__law_component : FnScope N__law_component ps__law_component (defScope st__law_component) := ⟨rfl, rfl, rfl, by decide +kernel, rfl, by decide +kernel, by decide +kernel⟩
abbrev st__law_definition : Stmt := top 27
abbrev N__law_definition : List Str := ["_law_tape_here", "_law_room"]
abbrev ps__law_definition : List Str := ["_law_tape_here", "_law_room"]
theorem sc__law_definition : FnScope N__law_definition ps__law_definition (defScope st__law_definition) := ⟨rfl, rfl, rfl, by decide +kernel, rfl, by decide +kernel, by decide +kernel⟩
abbrev st__law_defined : Stmt := top 28
abbrev N__law_defined : List Str := ["_law_tape_here", "_law_room", "_law_words_here", "_law_options_here", "_law_ports", "_law_k", "_law_name", "_law_size", "_law_components", "_law_left", "_law_port_here"]
abbrev ps__law_defined : List Str := ["_law_tape_here", "_law_room", "_law_words_here"]
theorem sc__law_defined : FnScope N__law_defined ps__law_defined (defScope st__law_defined) := ⟨rfl, rfl, rfl, by decide +kernel, rfl, by decide +kernel, by decide +kernel⟩
abbrev st__law_port : Stmt := top 29
abbrev N__law_port : List Str := ["_law_definition_here", "_law_name", "_law_port_here"]
abbrev ps__law_port : List Str := ["_law_definition_here", "_law_name"]
theorem sc__law_port : FnScope N__law_port ps__law_port (defScope st__law_port) := ⟨rfl, rfl, rfl, by decide +kernel, rfl, by decide +kernel, by decide +kernel⟩
abbrev st__law_all_variables : Stmt := top 30
abbrev N__law_all_variables : List Str := ["_law_definition_here", "_law_component_here", "_law_pairs", "_law_attribute", "_law_slot"]
abbrev ps__law_all_variables : List Str := ["_law_definition_here", "_law_component_here"]
theorem sc__law_all_variables : FnScope N__law_all_variables ps__law_all_variables (defScope st__law_all_variables) := ⟨rfl, rfl, rfl, by decide +kernel, rfl, by decide +kernel, by decide +kernel⟩
abbrev st__law_strange : Stmt := top 31
abbrev N__law_strange : List Str := ["_law_names", "_law_k"]
abbrev ps__law_strange : List Str := ["_law_names"]
theorem sc__law_strange : FnScope N__law_strange ps__law_strange (defScope st__law_strange) := ⟨rfl, rfl, rfl, by decide +kernel, rfl, by decide +kernel, by decide +kernel⟩
abbrev st__law_refused : Stmt := top 32
abbrev N__law_refused : List Str := ["_law_definition_here", "_law_name", "e", "_law_other"]
abbrev ps__law_refused : List Str := ["_law_definition_here", "_law_name"]
theorem sc__law_refused : FnScope N__law_refused ps__law_refused (defScope st__law_refused) := ⟨rfl, rfl, rfl, by decide +kernel, rfl, by decide +kernel, by decide +kernel⟩
abbrev st_law : Stmt := top 33
abbrev N_law : List Str := ["_law_script", "_law_tape_here", "_law_definitions", "_law_k", "_law_definition_here", "_law_names", "_law_component_here", "_law_told", "_law_due", "_law_strange_here", "_law_pair", "_law_other"]
abbrev ps_law : List Str := ["_law_script"]
theorem sc_law : FnScope N_law ps_law (defScope st_law) := ⟨rfl, rfl, rfl, by decide +kernel, rfl, by decide +kernel, by decide +kernel⟩
/-! ### the walk -/
structure Cals (P : Program) (w : World) (K : KK) (mg : Str → Option Value) (base : Heap) (lv : Nat) (C : Orc) : Prop where
  free_ValueError : mg "ValueError" = none
  free_abs : mg "abs" = none
  free_int : mg "int" = none
  free_isinstance : mg "isinstance" = none
  free_len : mg "len" = none
  free_list : mg "list" = none
  free_max : mg "max" = none
  free_range : mg "range" = none
  free_repr : mg "repr" = none
  free_str : mg "str" = none
  free_super : mg "super" = none
  free_tuple : mg "tuple" = none
  xk_UnknownComponent : ∃ C : Addr, mg "UnknownComponent" = some (.ref C) ∧ Xc K P C ["name"] ∧ XkC K C
  hb_UnknownComponent : ∃ C : Addr, mg "UnknownComponent" = some (.ref C) ∧ ∀ (y : Str) (b : Bool), List.lookup y ([("UnknownComponent", true)] : List (Str × Bool)) = some b → ∀ D : Addr, mg y = some (.ref D) → PySem.W.exmOne K (.ref D) (.ref C) = some b
  is_DuplicateComponent : ∃ C : Addr, mg "DuplicateComponent" = some (.ref C) ∧ ∀ (y : Str) (b : Bool), List.lookup y ([("UnknownComponent", false)] : List (Str × Bool)) = some b → ∀ D : Addr, mg y = some (.ref D) → PySem.W.kitOne K (.ref D) (.ref C) = some b
  is_SlotError : ∃ C : Addr, mg "SlotError" = some (.ref C) ∧ ∀ (y : Str) (b : Bool), List.lookup y ([("UnknownComponent", true)] : List (Str × Bool)) = some b → ∀ D : Addr, mg y = some (.ref D) → PySem.W.kitOne K (.ref D) (.ref C) = some b
  is_UnknownPort : ∃ C : Addr, mg "UnknownPort" = some (.ref C) ∧ ∀ (y : Str) (b : Bool), List.lookup y ([("UnknownComponent", false)] : List (Str × Bool)) = some b → ∀ D : Addr, mg y = some (.ref D) → PySem.W.kitOne K (.ref D) (.ref C) = some b
  is_UnknownVariable : ∃ C : Addr, mg "UnknownVariable" = some (.ref C) ∧ ∀ (y : Str) (b : Bool), List.lookup y ([("UnknownComponent", false)] : List (Str × Bool)) = some b → ∀ D : Addr, mg y = some (.ref D) → PySem.W.kitOne K (.ref D) (.ref C) = some b
  ist_ValueError : ∀ (y : Str) (b : Bool), List.lookup y ([("UnknownComponent", true)] : List (Str × Bool)) = some b → ∀ D : Addr, mg y = some (.ref D) → PySem.W.kitOne K (.ref D) (.type "ValueError") = some b
  f124 : Cal P w K mg base lv C "values_of" 124 1
  f126 : Cal P w K mg base lv C "domains_of" 126 2
  f1056 : CalX P w K mg base lv C "component_of" 1056 2
  f1057 : CalX P w K mg base lv C "variables_of" 1057 2
  f4 : Cal P w K mg base lv C "_law_tape" 4 1
  f5 : Cal P w K mg base lv C "_law_draw" 5 2
  f38 : Cal P w K mg base lv C "_law_word" 38 2
  f39 : Cal P w K mg base lv C "_law_words" 39 2
  f41 : Cal P w K mg base lv C "_law_option" 41 1
  f42 : Cal P w K mg base lv C "_law_options" 42 1
  f43 : Cal P w K mg base lv C "_law_leaf" 43 4
  f415 : Cal P w K mg base lv C "_law_expression" 415 6
  f154 : Cal P w K mg base lv C "_law_column" 154 1
  f155 : Cal P w K mg base lv C "_law_many" 155 1
  f156 : Cal P w K mg base lv C "_law_domain" 156 3
  f157 : Cal P w K mg base lv C "_law_attributes" 157 5
  f158 : Cal P w K mg base lv C "_law_table" 158 3
  f394 : Cal P w K mg base lv C "_law_component" 394 6
  f395 : Cal P w K mg base lv C "_law_definition" 395 2
  f396 : Cal P w K mg base lv C "_law_defined" 396 3
  f162 : Cal P w K mg base lv C "_law_port" 162 2
  f163 : Cal P w K mg base lv C "_law_all_variables" 163 2
  f436 : Cal P w K mg base lv C "_law_strange" 436 1
  f1058 : Cal P w K mg base lv C "_law_refused" 1058 2
  f1059 : Cal P w K mg base lv C "law" 1059 1
section
variable {P : Program} {w : World} {K : KK} {mg : Str → Option Value} {base : Heap} {lv : Nat} {C : Orc}
theorem s_values_of (c : Cals P w K mg base lv C) {f : Addr} {cdv : Value} {A : Around} {outer : List PySem.Env} {s : Shared} {H : Hp} (o : Ok (A.deeper (envOfC "values_of" (defScope st_values_of) s.heap.objs.size f cdv)) lv) :
    PSs (cxOf CX0 P w K mg base N_values_of "values_of" (defScope st_values_of) f cdv A outer s H E0).nox (defBody st_values_of) (tS K [] (M124 C)) :=
 (pss_consM (ps_ifM (pt_o2 op_eqM (pt_cmpR (op_eqX o.rm.units) (pd_e (pe_o2 rfl rfl op_ixM (pe_ix ix_seq (pd_v (pv 0)) (pd_e (pe_c (.int _) pe_int)) (fun _ _ => rfl)))) (pd_e (pe_c (.str _) pe_str)) (nomark _)))
 (pss_oneM (ps_retM (pe_o2 rfl rfl op_ixM (pe_ix ix_seq (pd_v (pv 0)) (pd_e (pe_c (.int _) pe_int)) (fun _ _ => rfl)))))
 pss_nilM)
 (pss_oneM (ps_retM (pe_tupRM (pe_tupRg rfl (by rfl) c.free_tuple (pr_2M (prg_2 (by rfl) c.free_range (pe_o2 rfl rfl op_ixM (pe_ix ix_seq (pd_v (pv 0)) (pd_e (pe_c (.int _) pe_int)) (fun _ _ => rfl))) (pe_o2 rfl rfl op_addI (pe_op op_add (pd_e (pe_o2 rfl rfl op_ixM (pe_ix ix_seq (pd_v (pv 0)) (pd_e (pe_c (.int _) pe_int)) (fun _ _ => rfl)))) (pd_e (pe_c (.int _) pe_int)))))))))))
theorem s_domains_of (c : Cals P w K mg base lv C) {f : Addr} {cdv : Value} {A : Around} {outer : List PySem.Env} {s : Shared} {H : Hp} (o : Ok (A.deeper (envOfC "domains_of" (defScope st_domains_of) s.heap.objs.size f cdv)) lv) :
    PSs (cxOf CX0 P w K mg base N_domains_of "domains_of" (defScope st_domains_of) f cdv A outer s H E0).nox (defBody st_domains_of) (tS K [] (M126 C)) :=
 (pss_consM (ps_setM (i := 2) sc_domains_of.nd (by rfl) rfl (by first | exact Or.inl rfl | exact Or.inr rfl) (pe_oc rfl oc_list (pe_callTy call_list_of (by rfl) c.free_list (by decide +kernel) (pa_consM (pd_e (pe_o2 rfl rfl op_ixM (pe_ix ix_seq (pd_v (pv 1)) (pd_e (pe_c (.int _) pe_int)) (fun _ _ => rfl)))) pa_nilM))))
 (pss_consM (ps_forM (ws := [3, 4]) PassesOwn.never rfl (pi_anyM (pe_o2 rfl rfl op_addAM (pe_op op_addA (pd_e (pe_tupM (pf_cons (pe_tupM (pf_cons (pe_c (.str _) pe_str) (pf_cons (pe_o2 rfl rfl op_ixM (pe_ix ix_seq (pd_v (pv 1)) (pd_e (pe_c (.int _) pe_int)) (fun _ _ => rfl))) pf_nil))) pf_nil))) (pd_e (pe_o2 rfl rfl op_ixM (pe_ix ix_seq (pd_v (pv 1)) (pd_e (pe_c (.int _) pe_int)) (fun _ _ => rfl))))))) (pg_tup rfl (pgs_cons (pg_name (i := 3) sc_domains_of.nd rfl (by first | exact Or.inl rfl | exact Or.inr rfl)) (pgs_cons (pg_name (i := 4) sc_domains_of.nd rfl (by first | exact Or.inl rfl | exact Or.inr rfl)) pgs_nil))) (tgs_tup rfl (tgs_cons (tgs_name (by rfl) (by show 3 < 9; decide) (by decide)) (tgs_cons (tgs_name (by rfl) (by show 4 < 9; decide) (by decide)) tgs_nil)))
 (pss_consM (ps_setM (i := 5) sc_domains_of.nd (by rfl) rfl (by first | exact Or.inl rfl | exact Or.inr rfl) (pe_o2 rfl rfl op_ixM (pe_ix ix_seq (pd_e (pe_lcM (own := [("row", 6)]) rfl (by rfl) (by rfl) (tgs_name (by rfl) (by show 6 < 9; decide) (by decide)) rfl sc_domains_of.nd (pi_anyM (pe_name (by rfl) (pv 0))) (blkOk_by (own := [("row", 6)]) (N := N_domains_of) (sc := defScope st_domains_of) (by decide +kernel)) (fun _ _ _ _ _ => (pg_name (i := 6) sc_domains_of.nd rfl (by first | exact Or.inl rfl | exact Or.inr rfl))) (fun _ _ _ _ _ => (pts_oneM (pt_o2 op_eqM (pt_cmpR (op_eqX o.rm.units) (pd_e (pe_o2 rfl rfl op_ixM (pe_ix ix_seq (pd_v (pv 6)) (pd_e (pe_c (.int _) pe_int)) (fun _ _ => rfl)))) (pd_v (pv 4)) (nomark _))))) (fun _ _ _ _ _ => (pe_o2 rfl rfl op_ixM (pe_ix ix_seq (pd_v (pv 6)) (pd_e (pe_c (.int _) pe_int)) (fun _ _ => rfl)))))) (pd_e (pe_c (.int _) pe_int)) (fun _ _ => rfl))))
 (pss_oneM (ps_exprM (pe_mu rfl rfl rfl om_ext (pe_bm PySem.F.plainAttrs_list PySem.F.slot_list_extend PySem.F.type_list_extend mt_extA (pv 2) (pf_cons (pe_lcM (own := [("name", 7), ("domain", 8)]) rfl (by rfl) (by rfl) (tgs_tup rfl (tgs_cons (tgs_name (by rfl) (by show 7 < 9; decide) (by decide)) (tgs_cons (tgs_name (by rfl) (by show 8 < 9; decide) (by decide)) tgs_nil))) rfl sc_domains_of.nd (pi_anyM (pe_name (by rfl) (pv 5))) (blkOk_by (own := [("name", 7), ("domain", 8)]) (N := N_domains_of) (sc := defScope st_domains_of) (by decide +kernel)) (fun _ _ _ _ _ => (pg_tup rfl (pgs_cons (pg_name (i := 7) sc_domains_of.nd rfl (by first | exact Or.inl rfl | exact Or.inr rfl)) (pgs_cons (pg_name (i := 8) sc_domains_of.nd rfl (by first | exact Or.inl rfl | exact Or.inr rfl)) pgs_nil)))) (fun _ _ _ _ _ => pts_yesM) (fun _ _ _ _ _ => (pe_tupM (pf_cons (pe_o2 rfl rfl op_addSM (pe_op op_add_str (pd_e (pe_o2 rfl rfl op_addSM (pe_op op_add_str (pd_v (pv 3)) (pd_e (pe_c (.str _) pe_str))))) (pd_v (pv 7)))) (pf_cons (pe_name (by rfl) (pv 8)) pf_nil))))) pf_nil)))))))
 (pss_oneM (ps_retM (pe_name (by rfl) (pv 2))))))
theorem s_component_of (c : Cals P w K mg base lv C) {f : Addr} {cdv : Value} {A : Around} {outer : List PySem.Env} {s : Shared} {H : Hp} {E : XK} (o : Ok (A.deeper (envOfC "component_of" (defScope st_component_of) s.heap.objs.size f cdv)) lv) :
    PSs (cxOf (L2.CX P w) P w K mg base N_component_of "component_of" (defScope st_component_of) f cdv A outer s H E) (defBody st_component_of) (tSX K mg [] (fun cls d _ H => E cls d H) (M1056 C)) :=
 (pss_consX (ps_okX (ps_forM (ws := [2]) (passes_of rfl) rfl (pi_anyM (pe_o2 rfl rfl op_ixM (pe_ix ix_seq (pd_v (pv 0)) (pd_e (pe_c (.int _) pe_int)) (fun _ _ => rfl)))) (pg_name (i := 2) sc_component_of.nd rfl (by first | exact Or.inl rfl | exact Or.inr rfl)) (tgs_name (by rfl) (by show 2 < 3; decide) (by decide))
 (pss_oneM (ps_ifM (pt_o2 op_eqM (pt_cmpR (op_eqX o.rm.units) (pd_e (pe_o2 rfl rfl op_ixM (pe_ix ix_seq (pd_v (pv 2)) (pd_e (pe_c (.int _) pe_int)) (fun _ _ => rfl)))) (pd_v (pv 1)) (nomark _)))
 (pss_oneM (ps_retM (pe_name (by rfl) (pv 2))))
 pss_nilM))))
 (pss_oneX (ps_raiseM (hx1 c.xk_UnknownComponent) c.free_super o.rm (by rfl) rfl (takes_of rfl rfl rfl rfl) rfl (by simp) (pf_cons (pe_name (by rfl) (pv 1)) pf_nil))))
theorem s_variables_of (c : Cals P w K mg base lv C) {f : Addr} {cdv : Value} {A : Around} {outer : List PySem.Env} {s : Shared} {H : Hp} {E : XK} (o : Ok (A.deeper (envOfC "variables_of" (defScope st_variables_of) s.heap.objs.size f cdv)) lv) :
    PSs (cxOf (L2.CX P w) P w K mg base N_variables_of "variables_of" (defScope st_variables_of) f cdv A outer s H E) (defBody st_variables_of) (tSX K mg [] (fun cls d _ H => E cls d H) (M1057 C)) :=
 (pss_consX (ps_setX (i := 2) sc_variables_of.nd (by rfl) rfl (by first | exact Or.inl rfl | exact Or.inr rfl) (pe_fnA o c.f126 (by rfl) (pe_o2 rfl rfl op_ixM (pe_ix ix_seq (pd_v (pv 0)) (pd_e (pe_c (.int _) pe_int)) (fun _ _ => rfl))) (pe_fnX o c.f1056 (takes_of rfl rfl rfl rfl) rfl (by rfl) (pg_valM (pe_name (by rfl) (pv 0)) (pg_valM (pe_name (by rfl) (pv 1)) pg_nilM)))))
 (pss_oneX (ps_okX (ps_retM (pe_oc rfl oc_tuple (pe_callTy call_tuple_of (by rfl) c.free_tuple (by decide +kernel) (pa_consM (pd_e (pe_lcM (own := [("name", 3), ("domain", 4)]) rfl (by rfl) (by rfl) (tgs_tup rfl (tgs_cons (tgs_name (by rfl) (by show 3 < 5; decide) (by decide)) (tgs_cons (tgs_name (by rfl) (by show 4 < 5; decide) (by decide)) tgs_nil))) rfl sc_variables_of.nd (pi_anyM (pe_name (by rfl) (pv 2))) (blkOk_by (own := [("name", 3), ("domain", 4)]) (N := N_variables_of) (sc := defScope st_variables_of) (by decide +kernel)) (fun _ _ _ _ _ => (pg_tup rfl (pgs_cons (pg_name (i := 3) sc_variables_of.nd rfl (by first | exact Or.inl rfl | exact Or.inr rfl)) (pgs_cons (pg_name (i := 4) sc_variables_of.nd rfl (by first | exact Or.inl rfl | exact Or.inr rfl)) pgs_nil)))) (fun _ _ _ _ _ => pts_yesM) (fun _ _ _ _ _ => (pe_tupM (pf_cons (pe_name (by rfl) (pv 3)) (pf_cons (pe_fn o c.f124 rfl (by rfl) (pg_valM (pe_name (by rfl) (pv 4)) pg_nilM)) pf_nil)))))) pa_nilM)))))))
theorem s__law_tape (c : Cals P w K mg base lv C) {f : Addr} {cdv : Value} {A : Around} {outer : List PySem.Env} {s : Shared} {H : Hp} (o : Ok (A.deeper (envOfC "_law_tape" (defScope st__law_tape) s.heap.objs.size f cdv)) lv) :
    PSs (cxOf CX0 P w K mg base N__law_tape "_law_tape" (defScope st__law_tape) f cdv A outer s H E0).nox (defBody st__law_tape) (tS K [] (M4 C)) :=
 (pss_consM (ps_setM (i := 1) sc__law_tape.nd (by rfl) rfl (by first | exact Or.inl rfl | exact Or.inr rfl) (pe_c (.int _) pe_int))
 (pss_consM (ps_forM (ws := [2]) PassesOwn.never rfl (pi_anyM (pe_name (by rfl) (pv 0))) (pg_name (i := 2) sc__law_tape.nd rfl (by first | exact Or.inl rfl | exact Or.inr rfl)) (tgs_name (by rfl) (by show 2 < 3; decide) (by decide))
 (pss_oneM (ps_setM (i := 1) sc__law_tape.nd (by rfl) rfl (by first | exact Or.inl rfl | exact Or.inr rfl) (pe_o2 rfl rfl op_modM (pe_op op_mod (pd_e (pe_oc rfl oc_int (pe_callTy call_int1 (by rfl) c.free_int (by decide +kernel) (pa_consM (pd_e (pe_o2 rfl rfl op_addI (pe_op op_add (pd_e (pe_o2 rfl rfl op_mulM (pe_op op_mulX (pd_v (pv 1)) (pd_e (pe_c (.int _) pe_int))))) (pd_e (pe_oc rfl oc_abs (pe_callB call_abs (by rfl) c.free_abs (by decide +kernel) (pa_consM (pd_e (pe_oc rfl oc_int (pe_callTy call_int1 (by rfl) c.free_int (by decide +kernel) (pa_consM (pd_v (pv 2)) pa_nilM)))) pa_nilM))))))) pa_nilM)))) (pd_e (pe_c (.int _) pe_int)))))))
 (pss_oneM (ps_retOM (pe_lstM (pf_cons (pe_oc rfl oc_list (pe_callTy call_list_of (by rfl) c.free_list (by decide +kernel) (pa_consM (pd_v (pv 0)) pa_nilM))) (pf_cons (pe_c (.int _) pe_int) (pf_cons (pe_c (.int _) pe_int) (pf_cons (pe_name (by rfl) (pv 1)) pf_nil)))))))))
theorem s__law_draw (c : Cals P w K mg base lv C) {f : Addr} {cdv : Value} {A : Around} {outer : List PySem.Env} {s : Shared} {H : Hp} (o : Ok (A.deeper (envOfC "_law_draw" (defScope st__law_draw) s.heap.objs.size f cdv)) lv) :
    PSs (cxOf CX0 P w K mg base N__law_draw "_law_draw" (defScope st__law_draw) f cdv A outer s H E0).nox (defBody st__law_draw) (tS K [0] (M5 C)) :=
 (pss_consM (ps_ifM (pt_o2 op_eqM (pt_cmpR (op_eqX o.rm.units) (pd_e (pe_o2 rfl rfl op_ixM (pe_ix ix_seq (pd_v (pv 0)) (pd_e (pe_c (.int _) pe_int)) (fun _ _ => rfl)))) (pd_e (pe_c (.int _) pe_int)) (nomark _)))
 (pss_consM (ps_setM (i := 2) sc__law_draw.nd (by rfl) rfl (by first | exact Or.inl rfl | exact Or.inr rfl) (pe_o2 rfl rfl op_ixM (pe_ix ix_seq (pd_v (pv 0)) (pd_e (pe_c (.int _) pe_int)) (fun _ _ => rfl))))
 (pss_consM (ps_setM (i := 3) sc__law_draw.nd (by rfl) rfl (by first | exact Or.inl rfl | exact Or.inr rfl) (pe_c (.int _) pe_int))
 (pss_consM (ps_ifM (pt_o2 op_cmpM (pt_cmpR op_lt (pd_v (pv 2)) (pd_e (pe_oc rfl oc_len (pe_callB call_len (by rfl) c.free_len PySem.boot_len (pa_consM (pd_e (pe_o2 rfl rfl op_ixM (pe_ix ix_seq (pd_v (pv 0)) (pd_e (pe_c (.int _) pe_int)) (fun _ _ => rfl)))) pa_nilM)))) (nomark _)))
 (pss_oneM (ps_setM (i := 3) sc__law_draw.nd (by rfl) rfl (by first | exact Or.inl rfl | exact Or.inr rfl) (pe_oc rfl oc_abs (pe_callB call_abs (by rfl) c.free_abs (by decide +kernel) (pa_consM (pd_e (pe_oc rfl oc_int (pe_callTy call_int1 (by rfl) c.free_int (by decide +kernel) (pa_consM (pd_e (pe_o2 rfl rfl op_ixM (pe_ix ix_seq (pd_e (pe_o2 rfl rfl op_ixM (pe_ix ix_seq (pd_v (pv 0)) (pd_e (pe_c (.int _) pe_int)) (fun _ _ => rfl)))) (pd_v (pv 2)) (fun _ _ => rfl)))) pa_nilM)))) pa_nilM)))))
 (pss_consM (ps_putM rfl (ps_asg (pe_o2 rfl rfl op_modM (pe_op op_mod (pd_e (pe_oc rfl oc_int (pe_callTy call_int1 (by rfl) c.free_int (by decide +kernel) (pa_consM (pd_e (pe_o2 rfl rfl op_addI (pe_op op_add (pd_e (pe_o2 rfl rfl op_addI (pe_op op_add (pd_e (pe_o2 rfl rfl op_mulM (pe_op op_mulX (pd_e (pe_o2 rfl rfl op_ixM (pe_ix ix_seq (pd_v (pv 0)) (pd_e (pe_c (.int _) pe_int)) (fun _ _ => rfl)))) (pd_e (pe_c (.int _) pe_int))))) (pd_v (pv 2))))) (pd_e (pe_c (.int _) pe_int))))) pa_nilM)))) (pd_e (pe_c (.int _) pe_int)))) (pg_sub (pv 0) (pe_c (.int _) pe_int) set_list)))
 (pss_oneM (ps_setM (i := 3) sc__law_draw.nd (by rfl) rfl (by first | exact Or.inl rfl | exact Or.inr rfl) (pe_o2 rfl rfl op_ixM (pe_ix ix_seq (pd_v (pv 0)) (pd_e (pe_c (.int _) pe_int)) (fun _ _ => rfl)))))))
 (pss_consM (ps_putM rfl (ps_asg (pe_o2 rfl rfl op_addI (pe_op op_add (pd_v (pv 2)) (pd_e (pe_c (.int _) pe_int)))) (pg_sub (pv 0) (pe_c (.int _) pe_int) set_list)))
 (pss_consM (ps_ifM (pt_o2 op_cmpM (pt_cmpR op_lt (pd_v (pv 3)) (pd_e (pe_o2 rfl rfl op_powM (pe_op op_pow (pd_e (pe_c (.int _) pe_int)) (pd_e (pe_c (.int _) pe_int))))) (nomark _)))
 (pss_consM (ps_setM (i := 3) sc__law_draw.nd (by rfl) rfl (by first | exact Or.inl rfl | exact Or.inr rfl) (pe_o2 rfl rfl op_modM (pe_op op_mod (pd_e (pe_oc rfl oc_int (pe_callTy call_int1 (by rfl) c.free_int (by decide +kernel) (pa_consM (pd_e (pe_o2 rfl rfl op_addI (pe_op op_add (pd_e (pe_o2 rfl rfl op_addI (pe_op op_add (pd_e (pe_o2 rfl rfl op_mulM (pe_op op_mulX (pd_v (pv 3)) (pd_e (pe_c (.int _) pe_int))))) (pd_e (pe_o2 rfl rfl op_mulM (pe_op op_mulX (pd_v (pv 2)) (pd_e (pe_c (.int _) pe_int)))))))) (pd_e (pe_c (.int _) pe_int))))) pa_nilM)))) (pd_e (pe_c (.int _) pe_int)))))
 (pss_consM (ps_setM (i := 3) sc__law_draw.nd (by rfl) rfl (by first | exact Or.inl rfl | exact Or.inr rfl) (pe_o2 rfl rfl op_modM (pe_op op_mod (pd_e (pe_oc rfl oc_int (pe_callTy call_int1 (by rfl) c.free_int (by decide +kernel) (pa_consM (pd_e (pe_o2 rfl rfl op_mulM (pe_op op_mulX (pd_v (pv 3)) (pd_e (pe_c (.int _) pe_int))))) pa_nilM)))) (pd_e (pe_c (.int _) pe_int)))))
 (pss_oneM (ps_retM (pe_o2 rfl rfl op_modM (pe_op op_mod (pd_e (pe_oc rfl oc_int (pe_callTy call_int1 (by rfl) c.free_int (by decide +kernel) (pa_consM (pd_v (pv 3)) pa_nilM)))) (pd_e (pe_oc rfl oc_max (pe_callB (call_max2 rfl) (by rfl) c.free_max (by decide +kernel) (pa_consM (pd_v (pv 1)) (pa_consM (pd_e (pe_c (.int _) pe_int)) pa_nilM)))))))))))
 pss_nilM)
 (pss_oneM (ps_putM rfl (ps_asg (pe_name (by rfl) (pv 3)) (pg_sub (pv 0) (pe_c (.int _) pe_int) set_list)))))))))
 pss_nilM)
 (pss_consM (ps_setM (i := 3) sc__law_draw.nd (by rfl) rfl (by first | exact Or.inl rfl | exact Or.inr rfl) (pe_o2 rfl rfl op_ixM (pe_ix ix_seq (pd_v (pv 0)) (pd_e (pe_c (.int _) pe_int)) (fun _ _ => rfl))))
 (pss_consM (ps_putM rfl (ps_asg (pe_o2 rfl rfl op_divM (pe_op op_fdivW (pd_v (pv 3)) (pd_e (pe_oc rfl oc_max (pe_callB (call_max2 rfl) (by rfl) c.free_max (by decide +kernel) (pa_consM (pd_v (pv 1)) (pa_consM (pd_e (pe_c (.int _) pe_int)) pa_nilM))))))) (pg_sub (pv 0) (pe_c (.int _) pe_int) set_list)))
 (pss_oneM (ps_retM (pe_o2 rfl rfl op_modM (pe_op op_mod (pd_e (pe_oc rfl oc_int (pe_callTy call_int1 (by rfl) c.free_int (by decide +kernel) (pa_consM (pd_v (pv 3)) pa_nilM)))) (pd_e (pe_oc rfl oc_max (pe_callB (call_max2 rfl) (by rfl) c.free_max (by decide +kernel) (pa_consM (pd_v (pv 1)) (pa_consM (pd_e (pe_c (.int _) pe_int)) pa_nilM))))))))))))
theorem s__law_word (c : Cals P w K mg base lv C) {f : Addr} {cdv : Value} {A : Around} {outer : List PySem.Env} {s : Shared} {H : Hp} (o : Ok (A.deeper (envOfC "_law_word" (defScope st__law_word) s.heap.objs.size f cdv)) lv) :
    PSs (cxOf CX0 P w K mg base N__law_word "_law_word" (defScope st__law_word) f cdv A outer s H E0).nox (defBody st__law_word) (tS K [0] (M38 C)) :=
 (pss_consM (ps_setM (i := 2) sc__law_word.nd (by rfl) rfl (by first | exact Or.inl rfl | exact Or.inr rfl) (pe_c (.str _) pe_str))
 (pss_consM (ps_setM (i := 3) sc__law_word.nd (by rfl) rfl (by first | exact Or.inl rfl | exact Or.inr rfl) (pe_o2 rfl rfl op_addAM (pe_op op_addA (pd_v (pv 1)) (pd_e (pe_o2 rfl rfl op_ixM (pe_ix ix_seq (pd_v (pv 2)) (pd_e (pe_fn o c.f5 rfl (by rfl) (pg_refM (pv 0) (pg_valM (pe_c (.int _) pe_int) pg_nilM)))) (fun _ _ => rfl)))))))
 (pss_consM (ps_forM (ws := [4]) PassesOwn.never rfl (pi_r1M rfl (pi_range1 (by rfl) c.free_range (pf_cons (pe_o2 rfl rfl op_ixM (pe_ix ix_seq (pd_e (pe_lstM (pf_cons (pe_c (.int _) pe_int) (pf_cons (pe_c (.int _) pe_int) (pf_cons (pe_c (.int _) pe_int) (pf_cons (pe_c (.int _) pe_int) (pf_cons (pe_c (.int _) pe_int) (pf_cons (pe_c (.int _) pe_int) pf_nil)))))))) (pd_e (pe_fn o c.f5 rfl (by rfl) (pg_refM (pv 0) (pg_valM (pe_c (.int _) pe_int) pg_nilM)))) (fun _ _ => rfl))) pf_nil))) (pg_name (i := 4) sc__law_word.nd rfl (by first | exact Or.inl rfl | exact Or.inr rfl)) (tgs_name (by rfl) (by show 4 < 5; decide) (by decide))
 (pss_oneM (ps_setM (i := 3) sc__law_word.nd (by rfl) rfl (by first | exact Or.inl rfl | exact Or.inr rfl) (pe_o2 rfl rfl op_addAM (pe_op op_addA (pd_v (pv 3)) (pd_e (pe_o2 rfl rfl op_ixM (pe_ix ix_seq (pd_v (pv 2)) (pd_e (pe_fn o c.f5 rfl (by rfl) (pg_refM (pv 0) (pg_valM (pe_c (.int _) pe_int) pg_nilM)))) (fun _ _ => rfl)))))))))
 (pss_consM (ps_ifM (pt_o2 op_inTM (pt_cmpR op_in_seq (pd_v (pv 3)) (pd_e (pe_lstM (pf_cons (pe_c (.str _) pe_str) (pf_cons (pe_c (.str _) pe_str) (pf_cons (pe_c (.str _) pe_str) (pf_cons (pe_c (.str _) pe_str) (pf_cons (pe_c (.str _) pe_str) (pf_cons (pe_c (.str _) pe_str) (pf_cons (pe_c (.str _) pe_str) (pf_cons (pe_c (.str _) pe_str) pf_nil)))))))))) (by rfl)))
 (pss_oneM (ps_setM (i := 3) sc__law_word.nd (by rfl) rfl (by first | exact Or.inl rfl | exact Or.inr rfl) (pe_o2 rfl rfl op_addSM (pe_op op_add_str (pd_v (pv 3)) (pd_e (pe_c (.str _) pe_str))))))
 pss_nilM)
 (pss_oneM (ps_retM (pe_name (by rfl) (pv 3))))))))
theorem s__law_words (c : Cals P w K mg base lv C) {f : Addr} {cdv : Value} {A : Around} {outer : List PySem.Env} {s : Shared} {H : Hp} (o : Ok (A.deeper (envOfC "_law_words" (defScope st__law_words) s.heap.objs.size f cdv)) lv) :
    PSs (cxOf CX0 P w K mg base N__law_words "_law_words" (defScope st__law_words) f cdv A outer s H E0).nox (defBody st__law_words) (tS K [0] (M39 C)) :=
 (pss_consM (ps_setM (i := 2) sc__law_words.nd (by rfl) rfl (by first | exact Or.inl rfl | exact Or.inr rfl) (pe_o2 rfl rfl op_ixM (pe_ix ix_seq (pd_e (pe_lstM (pf_cons (pe_c (.str _) pe_str) (pf_cons (pe_c (.str _) pe_str) (pf_cons (pe_c (.str _) pe_str) (pf_cons (pe_c (.str _) pe_str) (pf_cons (pe_c (.str _) pe_str) (pf_cons (pe_c (.str _) pe_str) (pf_cons (pe_c (.str _) pe_str) (pf_cons (pe_c (.str _) pe_str) pf_nil)))))))))) (pd_e (pe_fn o c.f5 rfl (by rfl) (pg_refM (pv 0) (pg_valM (pe_c (.int _) pe_int) pg_nilM)))) (fun _ _ => rfl))))
 (pss_consM (ps_setM (i := 3) sc__law_words.nd (by rfl) rfl (by first | exact Or.inl rfl | exact Or.inr rfl) (pe_lstM pf_nil))
 (pss_consM (ps_forM (ws := [4]) PassesOwn.never rfl (pi_r1M rfl (pi_range1 (by rfl) c.free_range (pf_cons (pe_name (by rfl) (pv 1)) pf_nil))) (pg_name (i := 4) sc__law_words.nd rfl (by first | exact Or.inl rfl | exact Or.inr rfl)) (tgs_name (by rfl) (by show 4 < 6; decide) (by decide))
 (pss_consM (ps_setM (i := 5) sc__law_words.nd (by rfl) rfl (by first | exact Or.inl rfl | exact Or.inr rfl) (pe_fn o c.f38 rfl (by rfl) (pg_refM (pv 0) (pg_valM (pe_name (by rfl) (pv 2)) pg_nilM))))
 (pss_oneM (ps_ifM (pt_o2 op_notInTM (pt_cmpR op_notIn_seq (pd_v (pv 5)) (pd_v (pv 3)) (by rfl)))
 (pss_oneM (ps_exprM (pe_mu rfl rfl rfl om_app (pe_bm PySem.F.plainAttrs_list PySem.F.slot_list_append PySem.F.type_list_append mt_append (pv 3) (pf_cons (pe_name (by rfl) (pv 5)) pf_nil)))))
 pss_nilM))))
 (pss_oneM (ps_retM (pe_name (by rfl) (pv 3)))))))
theorem s__law_option (c : Cals P w K mg base lv C) {f : Addr} {cdv : Value} {A : Around} {outer : List PySem.Env} {s : Shared} {H : Hp} (o : Ok (A.deeper (envOfC "_law_option" (defScope st__law_option) s.heap.objs.size f cdv)) lv) :
    PSs (cxOf CX0 P w K mg base N__law_option "_law_option" (defScope st__law_option) f cdv A outer s H E0).nox (defBody st__law_option) (tS K [0] (M41 C)) :=
 (pss_consM (ps_setM (i := 1) sc__law_option.nd (by rfl) rfl (by first | exact Or.inl rfl | exact Or.inr rfl) (pe_c (.str _) pe_str))
 (pss_consM (ps_setM (i := 2) sc__law_option.nd (by rfl) rfl (by first | exact Or.inl rfl | exact Or.inr rfl) (pe_o2 rfl rfl op_ixM (pe_ix ix_seq (pd_e (pe_lstM (pf_cons (pe_c (.str _) pe_str) (pf_cons (pe_c (.str _) pe_str) (pf_cons (pe_c (.str _) pe_str) (pf_cons (pe_c (.str _) pe_str) (pf_cons (pe_c (.str _) pe_str) pf_nil))))))) (pd_e (pe_fn o c.f5 rfl (by rfl) (pg_refM (pv 0) (pg_valM (pe_c (.int _) pe_int) pg_nilM)))) (fun _ _ => rfl))))
 (pss_consM (ps_forM (ws := [3]) PassesOwn.never rfl (pi_r1M rfl (pi_range1 (by rfl) c.free_range (pf_cons (pe_o2 rfl rfl op_ixM (pe_ix ix_seq (pd_e (pe_lstM (pf_cons (pe_c (.int _) pe_int) (pf_cons (pe_c (.int _) pe_int) (pf_cons (pe_c (.int _) pe_int) (pf_cons (pe_c (.int _) pe_int) (pf_cons (pe_c (.int _) pe_int) pf_nil))))))) (pd_e (pe_fn o c.f5 rfl (by rfl) (pg_refM (pv 0) (pg_valM (pe_c (.int _) pe_int) pg_nilM)))) (fun _ _ => rfl))) pf_nil))) (pg_name (i := 3) sc__law_option.nd rfl (by first | exact Or.inl rfl | exact Or.inr rfl)) (tgs_name (by rfl) (by show 3 < 4; decide) (by decide))
 (pss_oneM (ps_setM (i := 2) sc__law_option.nd (by rfl) rfl (by first | exact Or.inl rfl | exact Or.inr rfl) (pe_o2 rfl rfl op_addAM (pe_op op_addA (pd_v (pv 2)) (pd_e (pe_o2 rfl rfl op_ixM (pe_ix ix_seq (pd_v (pv 1)) (pd_e (pe_fn o c.f5 rfl (by rfl) (pg_refM (pv 0) (pg_valM (pe_c (.int _) pe_int) pg_nilM)))) (fun _ _ => rfl)))))))))
 (pss_oneM (ps_retM (pe_name (by rfl) (pv 2)))))))
theorem s__law_options (c : Cals P w K mg base lv C) {f : Addr} {cdv : Value} {A : Around} {outer : List PySem.Env} {s : Shared} {H : Hp} (o : Ok (A.deeper (envOfC "_law_options" (defScope st__law_options) s.heap.objs.size f cdv)) lv) :
    PSs (cxOf CX0 P w K mg base N__law_options "_law_options" (defScope st__law_options) f cdv A outer s H E0).nox (defBody st__law_options) (tS K [0] (M42 C)) :=
 (pss_consM (ps_setM (i := 1) sc__law_options.nd (by rfl) rfl (by first | exact Or.inl rfl | exact Or.inr rfl) (pe_fn o c.f41 rfl (by rfl) (pg_refM (pv 0) pg_nilM)))
 (pss_oneM (ps_retM (pe_lstM (pf_cons (pe_name (by rfl) (pv 1)) (pf_cons (pe_o2 rfl rfl op_addAM (pe_op op_addA (pd_e (pe_slM (pd_v (pv 1)) po_noneM (po_someM (pe_o1 rfl op_negM (pe_un un_neg (pd_e (pe_c (.int _) pe_int))))))) (pd_e (pe_o2 rfl rfl op_ixM (pe_ix ix_seq (pd_e (pe_lstM (pf_cons (pe_c (.str _) pe_str) (pf_cons (pe_c (.str _) pe_str) (pf_cons (pe_c (.str _) pe_str) pf_nil))))) (pd_e (pe_fn o c.f5 rfl (by rfl) (pg_refM (pv 0) (pg_valM (pe_c (.int _) pe_int) pg_nilM)))) (fun _ _ => rfl)))))) (pf_cons (pe_fn o c.f41 rfl (by rfl) (pg_refM (pv 0) pg_nilM)) pf_nil)))))))
theorem s__law_leaf (c : Cals P w K mg base lv C) {f : Addr} {cdv : Value} {A : Around} {outer : List PySem.Env} {s : Shared} {H : Hp} (o : Ok (A.deeper (envOfC "_law_leaf" (defScope st__law_leaf) s.heap.objs.size f cdv)) lv) :
    PSs (cxOf CX0 P w K mg base N__law_leaf "_law_leaf" (defScope st__law_leaf) f cdv A outer s H E0).nox (defBody st__law_leaf) (tS K [0] (M43 C)) :=
 (pss_consM (ps_setLcM (i := 4) (own := [("_law_pair", 5)]) rfl (by rfl) (by rfl) (by rfl) (tgs_name (by rfl) (by show 5 < 6; decide) (by decide)) rfl sc__law_leaf.nd rfl rfl (sw_true rfl rfl rfl (by decide +kernel)) (pi_anyM (pe_name (by rfl) (pv 2))) (blkOk_by (own := [("_law_pair", 5)]) (N := N__law_leaf) (sc := defScope st__law_leaf) (by decide +kernel)) (fun _ _ _ _ _ => (pg_name (i := 5) sc__law_leaf.nd rfl (by first | exact Or.inl rfl | exact Or.inr rfl))) (fun _ _ _ _ _ => (pts_oneM (pt_o2 op_eqM (pt_cmpR (op_eqX o.rm.units) (pd_e (pe_o2 rfl rfl op_ixM (pe_ix ix_seq (pd_v (pv 5)) (pd_e (pe_c (.int _) pe_int)) (fun _ _ => rfl)))) (pd_v (pv 1)) (nomark _))))) (fun _ _ _ _ _ => (pe_o2 rfl rfl op_ixM (pe_ix ix_seq (pd_v (pv 5)) (pd_e (pe_c (.int _) pe_int)) (fun _ _ => rfl)))))
 (pss_consM (ps_ifM (PW.pt (pw_andM (pt_truM (pd_v (pv 4))) (pw_and1 (pt_o2 op_cmpM (pt_cmpR op_gt (pd_e (pe_fn o c.f5 rfl (by rfl) (pg_refM (pv 0) (pg_valM (pe_c (.int _) pe_int) pg_nilM)))) (pd_e (pe_c (.int _) pe_int)) (nomark _))))))
 (pss_oneM (ps_retM (pe_tupM (pf_cons (pe_c (.str _) pe_str) (pf_cons (pe_o2 rfl rfl op_ixM (pe_ix ix_seq (pd_v (pv 4)) (pd_e (pe_fn o c.f5 rfl (by rfl) (pg_refM (pv 0) (pg_valM (pe_oc rfl oc_len (pe_callB call_len (by rfl) c.free_len PySem.boot_len (pa_consM (pd_v (pv 4)) pa_nilM))) pg_nilM)))) (fun _ _ => rfl))) pf_nil)))))
 pss_nilM)
 (pss_consM (ps_ifM (pt_o2 op_eqM (pt_cmpR (op_eqX o.rm.units) (pd_v (pv 1)) (pd_e (pe_c (.str _) pe_str)) (nomark _)))
 (pss_oneM (ps_retM (pe_tupM (pf_cons (pe_c (.str _) pe_str) (pf_cons (pe_o2 rfl rfl op_ixM (pe_ix ix_seq (pd_v (pv 3)) (pd_e (pe_fn o c.f5 rfl (by rfl) (pg_refM (pv 0) (pg_valM (pe_oc rfl oc_len (pe_callB call_len (by rfl) c.free_len PySem.boot_len (pa_consM (pd_v (pv 3)) pa_nilM))) pg_nilM)))) (fun _ _ => rfl))) pf_nil)))))
 pss_nilM)
 (pss_consM (ps_ifM (pt_o2 op_eqM (pt_cmpR (op_eqX o.rm.units) (pd_v (pv 1)) (pd_e (pe_c (.str _) pe_str)) (nomark _)))
 (pss_oneM (ps_retM (pe_o2 rfl rfl op_ixM (pe_ix ix_seq (pd_e (pe_lstM (pf_cons (pe_tupM (pf_cons (pe_c (.str _) pe_str) pf_nil)) (pf_cons (pe_tupM (pf_cons (pe_c (.str _) pe_str) pf_nil)) pf_nil)))) (pd_e (pe_fn o c.f5 rfl (by rfl) (pg_refM (pv 0) (pg_valM (pe_c (.int _) pe_int) pg_nilM)))) (fun _ _ => rfl)))))
 pss_nilM)
 (pss_oneM (ps_retM (pe_tupM (pf_cons (pe_c (.str _) pe_str) (pf_cons (pe_fn o c.f5 rfl (by rfl) (pg_refM (pv 0) (pg_valM (pe_o2 rfl rfl op_ixM (pe_ix ix_seq (pd_e (pe_lstM (pf_cons (pe_c (.int _) pe_int) (pf_cons (pe_c (.int _) pe_int) (pf_cons (pe_c (.int _) pe_int) (pf_cons (pe_c (.int _) pe_int) pf_nil)))))) (pd_e (pe_fn o c.f5 rfl (by rfl) (pg_refM (pv 0) (pg_valM (pe_c (.int _) pe_int) pg_nilM)))) (fun _ _ => rfl))) pg_nilM))) pf_nil)))))))))
theorem s__law_expression (c : Cals P w K mg base lv C) {f : Addr} {cdv : Value} {A : Around} {outer : List PySem.Env} {s : Shared} {H : Hp} (o : Ok (A.deeper (envOfC "_law_expression" (defScope st__law_expression) s.heap.objs.size f cdv)) lv) :
    PSs (cxOf CX0 P w K mg base N__law_expression "_law_expression" (defScope st__law_expression) f cdv A outer s H E0).nox (defBody st__law_expression) (tS K [0] (M415 C)) :=
 (pss_consM (ps_setM (i := 6) sc__law_expression.nd (by rfl) rfl (by first | exact Or.inl rfl | exact Or.inr rfl) (pe_fn o c.f5 rfl (by rfl) (pg_refM (pv 0) (pg_valM (pe_c (.int _) pe_int) pg_nilM))))
 (pss_consM (ps_ifM (PW.pt (pw_orM (pt_o2 op_eqM (pt_cmpR (op_eqX o.rm.units) (pd_v (pv 1)) (pd_e (pe_c (.str _) pe_str)) (nomark _))) (pw_orM (pt_o2 op_eqM (pt_cmpR (op_eqX o.rm.units) (pd_v (pv 4)) (pd_e (pe_c (.int _) pe_int)) (nomark _))) (pw_orM (pt_o2 op_eqM (pt_cmpR (op_eqX o.rm.units) (pd_v (pv 5)) (pd_e (pe_c (.int _) pe_int)) (nomark _))) (pw_or1 (pt_o2 op_eqM (pt_cmpR (op_eqX o.rm.units) (pd_v (pv 6)) (pd_e (pe_c (.int _) pe_int)) (nomark _))))))))
 (pss_oneM (ps_retM (pe_fn o c.f43 rfl (by rfl) (pg_refM (pv 0) (pg_valM (pe_name (by rfl) (pv 1)) (pg_valM (pe_name (by rfl) (pv 2)) (pg_valM (pe_name (by rfl) (pv 3)) pg_nilM)))))))
 pss_nilM)
 (pss_consM (ps_ifM (PW.pt (pw_orM (pt_o2 op_cmpM (pt_cmpR op_lt (pd_v (pv 6)) (pd_e (pe_c (.int _) pe_int)) (nomark _))) (pw_or1 (pt_o2 op_eqM (pt_cmpR (op_eqX o.rm.units) (pd_v (pv 4)) (pd_e (pe_c (.int _) pe_int)) (nomark _))))))
 (pss_consM (ps_setM (i := 7) sc__law_expression.nd (by rfl) rfl (by first | exact Or.inl rfl | exact Or.inr rfl) (pe_fn o c.f415 rfl (by rfl) (pg_refM (pv 0) (pg_valM (pe_name (by rfl) (pv 1)) (pg_valM (pe_name (by rfl) (pv 2)) (pg_valM (pe_name (by rfl) (pv 3)) (pg_valM (pe_o2 rfl rfl op_subM (pe_op op_sub (pd_v (pv 4)) (pd_e (pe_c (.int _) pe_int)))) (pg_valM (pe_o2 rfl rfl op_subM (pe_op op_sub (pd_v (pv 5)) (pd_e (pe_c (.int _) pe_int)))) pg_nilM))))))))
 (pss_oneM (ps_retM (pe_tupM (pf_cons (pe_o2 rfl rfl op_ixM (pe_ix ix_seq (pd_e (pe_lstM (pf_cons (pe_c (.str _) pe_str) (pf_cons (pe_c (.str _) pe_str) pf_nil)))) (pd_e (pe_oc rfl oc_int (pe_callTy call_int1 (by rfl) c.free_int (by decide +kernel) (pa_consM (pd_e (pe_o2 rfl rfl op_eqM.op (pe_cmpR (op_eqX o.rm.units) (pd_v (pv 1)) (pd_e (pe_c (.str _) pe_str)) (nomark _)))) pa_nilM)))) (fun _ _ => rfl))) (pf_cons (pe_name (by rfl) (pv 7)) pf_nil))))))
 pss_nilM)
 (pss_consM (ps_setM (i := 8) sc__law_expression.nd (by rfl) rfl (by first | exact Or.inl rfl | exact Or.inr rfl) (pe_o2 rfl rfl op_addI (pe_op op_add (pd_e (pe_c (.int _) pe_int)) (pd_e (pe_fn o c.f5 rfl (by rfl) (pg_refM (pv 0) (pg_valM (pe_o2 rfl rfl op_subM (pe_op op_sub (pd_v (pv 4)) (pd_e (pe_c (.int _) pe_int)))) pg_nilM)))))))
 (pss_consM (ps_setM (i := 9) sc__law_expression.nd (by rfl) rfl (by first | exact Or.inl rfl | exact Or.inr rfl) (pe_c (.str _) pe_str))
 (pss_consM (ps_setM (i := 10) sc__law_expression.nd (by rfl) rfl (by first | exact Or.inl rfl | exact Or.inr rfl) (pe_o2 rfl rfl op_ixM (pe_ix ix_seq (pd_e (pe_lstM (pf_cons (pe_c (.str _) pe_str) (pf_cons (pe_c (.str _) pe_str) (pf_cons (pe_c (.str _) pe_str) pf_nil))))) (pd_e (pe_o2 rfl rfl op_modM (pe_op op_mod (pd_e (pe_oc rfl oc_int (pe_callTy call_int1 (by rfl) c.free_int (by decide +kernel) (pa_consM (pd_v (pv 6)) pa_nilM)))) (pd_e (pe_c (.int _) pe_int))))) (fun _ _ => rfl))))
 (pss_consM (ps_ifM (pt_o2 op_eqM (pt_cmpR (op_eqX o.rm.units) (pd_v (pv 1)) (pd_e (pe_c (.str _) pe_str)) (nomark _)))
 (pss_consM (ps_setM (i := 10) sc__law_expression.nd (by rfl) rfl (by first | exact Or.inl rfl | exact Or.inr rfl) (pe_o2 rfl rfl op_ixM (pe_ix ix_seq (pd_e (pe_lstM (pf_cons (pe_c (.str _) pe_str) (pf_cons (pe_c (.str _) pe_str) (pf_cons (pe_c (.str _) pe_str) (pf_cons (pe_c (.str _) pe_str) (pf_cons (pe_c (.str _) pe_str) (pf_cons (pe_c (.str _) pe_str) (pf_cons (pe_c (.str _) pe_str) (pf_cons (pe_c (.str _) pe_str) (pf_cons (pe_c (.str _) pe_str) pf_nil))))))))))) (pd_e (pe_o2 rfl rfl op_subM (pe_op op_sub (pd_v (pv 6)) (pd_e (pe_c (.int _) pe_int))))) (fun _ _ => rfl))))
 (pss_oneM (ps_ifM (pt_o2 op_cmpM (pt_cmpR op_lt (pd_v (pv 6)) (pd_e (pe_c (.int _) pe_int)) (nomark _)))
 (pss_oneM (ps_setM (i := 9) sc__law_expression.nd (by rfl) rfl (by first | exact Or.inl rfl | exact Or.inr rfl) (pe_c (.str _) pe_str)))
 (pss_oneM (ps_ifM (pt_o2 op_cmpM (pt_cmpR op_lt (pd_v (pv 6)) (pd_e (pe_c (.int _) pe_int)) (nomark _)))
 (pss_oneM (ps_setM (i := 9) sc__law_expression.nd (by rfl) rfl (by first | exact Or.inl rfl | exact Or.inr rfl) (pe_o2 rfl rfl op_ixM (pe_ix ix_seq (pd_e (pe_lstM (pf_cons (pe_c (.str _) pe_str) (pf_cons (pe_c (.str _) pe_str) pf_nil)))) (pd_e (pe_fn o c.f5 rfl (by rfl) (pg_refM (pv 0) (pg_valM (pe_c (.int _) pe_int) pg_nilM)))) (fun _ _ => rfl)))))
 (pss_oneM (ps_setM (i := 10) sc__law_expression.nd (by rfl) rfl (by first | exact Or.inl rfl | exact Or.inr rfl) (pe_o2 rfl rfl op_addAM (pe_op op_addA (pd_v (pv 10)) (pd_e (pe_o2 rfl rfl op_ixM (pe_ix ix_seq (pd_e (pe_lstM (pf_cons (pe_c (.str _) pe_str) (pf_cons (pe_c (.str _) pe_str) pf_nil)))) (pd_e (pe_fn o c.f5 rfl (by rfl) (pg_refM (pv 0) (pg_valM (pe_c (.int _) pe_int) pg_nilM)))) (fun _ _ => rfl)))))))))))))
 pss_nilM)
 (pss_consM (ps_setM (i := 11) sc__law_expression.nd (by rfl) rfl (by first | exact Or.inl rfl | exact Or.inr rfl) (pe_fn o c.f415 rfl (by rfl) (pg_refM (pv 0) (pg_valM (pe_name (by rfl) (pv 9)) (pg_valM (pe_name (by rfl) (pv 2)) (pg_valM (pe_name (by rfl) (pv 3)) (pg_valM (pe_name (by rfl) (pv 8)) (pg_valM (pe_o2 rfl rfl op_subM (pe_op op_sub (pd_v (pv 5)) (pd_e (pe_c (.int _) pe_int)))) pg_nilM))))))))
 (pss_oneM (ps_retM (pe_tupM (pf_cons (pe_name (by rfl) (pv 10)) (pf_cons (pe_name (by rfl) (pv 11)) (pf_cons (pe_fn o c.f415 rfl (by rfl) (pg_refM (pv 0) (pg_valM (pe_name (by rfl) (pv 9)) (pg_valM (pe_name (by rfl) (pv 2)) (pg_valM (pe_name (by rfl) (pv 3)) (pg_valM (pe_o2 rfl rfl op_subM (pe_op op_sub (pd_e (pe_o2 rfl rfl op_subM (pe_op op_sub (pd_v (pv 4)) (pd_e (pe_c (.int _) pe_int))))) (pd_v (pv 8)))) (pg_valM (pe_o2 rfl rfl op_subM (pe_op op_sub (pd_v (pv 5)) (pd_e (pe_c (.int _) pe_int)))) pg_nilM))))))) pf_nil))))))))))))))
theorem s__law_column (c : Cals P w K mg base lv C) {f : Addr} {cdv : Value} {A : Around} {outer : List PySem.Env} {s : Shared} {H : Hp} (o : Ok (A.deeper (envOfC "_law_column" (defScope st__law_column) s.heap.objs.size f cdv)) lv) :
    PSs (cxOf CX0 P w K mg base N__law_column "_law_column" (defScope st__law_column) f cdv A outer s H E0).nox (defBody st__law_column) (tS K [] (M154 C)) :=
 (pss_consM (ps_ifM (pt_o2 op_eqM (pt_cmpR (op_eqX o.rm.units) (pd_e (pe_o2 rfl rfl op_ixM (pe_ix ix_seq (pd_v (pv 0)) (pd_e (pe_c (.int _) pe_int)) (fun _ _ => rfl)))) (pd_e (pe_c (.str _) pe_str)) (nomark _)))
 (pss_oneM (ps_retM (pe_oc rfl oc_list (pe_callTy call_list_of (by rfl) c.free_list (by decide +kernel) (pa_consM (pd_e (pe_o2 rfl rfl op_ixM (pe_ix ix_seq (pd_v (pv 0)) (pd_e (pe_c (.int _) pe_int)) (fun _ _ => rfl)))) pa_nilM)))))
 pss_nilM)
 (pss_oneM (ps_retM (pe_lstRM (pe_listRg rfl (by rfl) c.free_list (pr_2M (prg_2 (by rfl) c.free_range (pe_o2 rfl rfl op_ixM (pe_ix ix_seq (pd_v (pv 0)) (pd_e (pe_c (.int _) pe_int)) (fun _ _ => rfl))) (pe_o2 rfl rfl op_addI (pe_op op_add (pd_e (pe_o2 rfl rfl op_ixM (pe_ix ix_seq (pd_v (pv 0)) (pd_e (pe_c (.int _) pe_int)) (fun _ _ => rfl)))) (pd_e (pe_c (.int _) pe_int)))))))))))
theorem s__law_many (c : Cals P w K mg base lv C) {f : Addr} {cdv : Value} {A : Around} {outer : List PySem.Env} {s : Shared} {H : Hp} (o : Ok (A.deeper (envOfC "_law_many" (defScope st__law_many) s.heap.objs.size f cdv)) lv) :
    PSs (cxOf CX0 P w K mg base N__law_many "_law_many" (defScope st__law_many) f cdv A outer s H E0).nox (defBody st__law_many) (tS K [] (M155 C)) :=
 (pss_consM (ps_setM (i := 1) sc__law_many.nd (by rfl) rfl (by first | exact Or.inl rfl | exact Or.inr rfl) (pe_c (.int _) pe_int))
 (pss_consM (ps_forM (ws := [2]) PassesOwn.never rfl (pi_anyM (pe_name (by rfl) (pv 0))) (pg_name (i := 2) sc__law_many.nd rfl (by first | exact Or.inl rfl | exact Or.inr rfl)) (tgs_name (by rfl) (by show 2 < 3; decide) (by decide))
 (pss_oneM (ps_setM (i := 1) sc__law_many.nd (by rfl) rfl (by first | exact Or.inl rfl | exact Or.inr rfl) (pe_o2 rfl rfl op_mulM (pe_op op_mulX (pd_v (pv 1)) (pd_e (pe_oc rfl oc_len (pe_callB call_len (by rfl) c.free_len PySem.boot_len (pa_consM (pd_e (pe_fn o c.f154 rfl (by rfl) (pg_valM (pe_o2 rfl rfl op_ixM (pe_ix ix_seq (pd_v (pv 2)) (pd_e (pe_c (.int _) pe_int)) (fun _ _ => rfl))) pg_nilM))) pa_nilM)))))))))
 (pss_oneM (ps_retM (pe_name (by rfl) (pv 1))))))
theorem s__law_domain (c : Cals P w K mg base lv C) {f : Addr} {cdv : Value} {A : Around} {outer : List PySem.Env} {s : Shared} {H : Hp} (o : Ok (A.deeper (envOfC "_law_domain" (defScope st__law_domain) s.heap.objs.size f cdv)) lv) :
    PSs (cxOf CX0 P w K mg base N__law_domain "_law_domain" (defScope st__law_domain) f cdv A outer s H E0).nox (defBody st__law_domain) (tS K [0] (M156 C)) :=
 (pss_consM (ps_setM (i := 3) sc__law_domain.nd (by rfl) rfl (by first | exact Or.inl rfl | exact Or.inr rfl) (pe_o2 rfl rfl op_addI (pe_op op_add (pd_e (pe_c (.int _) pe_int)) (pd_e (pe_fn o c.f5 rfl (by rfl) (pg_refM (pv 0) (pg_valM (pe_name (by rfl) (pv 2)) pg_nilM)))))))
 (pss_consM (ps_ifM (pt_o2 op_eqM (pt_cmpR (op_eqX o.rm.units) (pd_e (pe_fn o c.f5 rfl (by rfl) (pg_refM (pv 0) (pg_valM (pe_c (.int _) pe_int) pg_nilM)))) (pd_e (pe_c (.int _) pe_int)) (nomark _)))
 (pss_consM (ps_setM (i := 4) sc__law_domain.nd (by rfl) rfl (by first | exact Or.inl rfl | exact Or.inr rfl) (pe_fn o c.f5 rfl (by rfl) (pg_refM (pv 0) (pg_valM (pe_oc rfl oc_len (pe_callB call_len (by rfl) c.free_len PySem.boot_len (pa_consM (pd_v (pv 1)) pa_nilM))) pg_nilM))))
 (pss_consM (ps_setM (i := 5) sc__law_domain.nd (by rfl) rfl (by first | exact Or.inl rfl | exact Or.inr rfl) (pe_lstM pf_nil))
 (pss_consM (ps_forM (ws := [6]) PassesOwn.never rfl (pi_anyM (pe_o2 rfl rfl op_stpM (pe_stepA (pd_e (pe_slM (pd_e (pe_o2 rfl rfl op_addAM (pe_op op_addA (pd_v (pv 1)) (pd_v (pv 1))))) (po_someM (pe_name (by rfl) (pv 4))) (po_someM (pe_o2 rfl rfl op_addAM (pe_op op_addA (pd_v (pv 4)) (pd_v (pv 3))))))) (pd_e (pe_o2 rfl rfl op_ixM (pe_ix ix_seq (pd_e (pe_lstM (pf_cons (pe_c (.int _) pe_int) (pf_cons (pe_o1 rfl op_negM (pe_un un_neg (pd_e (pe_c (.int _) pe_int)))) pf_nil)))) (pd_e (pe_fn o c.f5 rfl (by rfl) (pg_refM (pv 0) (pg_valM (pe_c (.int _) pe_int) pg_nilM)))) (fun _ _ => rfl))))))) (pg_name (i := 6) sc__law_domain.nd rfl (by first | exact Or.inl rfl | exact Or.inr rfl)) (tgs_name (by rfl) (by show 6 < 8; decide) (by decide))
 (pss_oneM (ps_ifM (pt_o2 op_notInTM (pt_cmpR op_notIn_seq (pd_v (pv 6)) (pd_v (pv 5)) (by rfl)))
 (pss_oneM (ps_exprM (pe_mu rfl rfl rfl om_app (pe_bm PySem.F.plainAttrs_list PySem.F.slot_list_append PySem.F.type_list_append mt_append (pv 5) (pf_cons (pe_name (by rfl) (pv 6)) pf_nil)))))
 pss_nilM)))
 (pss_oneM (ps_retM (pe_tupM (pf_cons (pe_c (.str _) pe_str) (pf_cons (pe_oc rfl oc_tuple (pe_callTy call_tuple_of (by rfl) c.free_tuple (by decide +kernel) (pa_consM (pd_v (pv 5)) pa_nilM))) pf_nil))))))))
 pss_nilM)
 (pss_consM (ps_setM (i := 7) sc__law_domain.nd (by rfl) rfl (by first | exact Or.inl rfl | exact Or.inr rfl) (pe_o2 rfl rfl op_ixM (pe_ix ix_seq (pd_e (pe_lstM (pf_cons (pe_c (.int _) pe_int) (pf_cons (pe_c (.int _) pe_int) (pf_cons (pe_o1 rfl op_negM (pe_un un_neg (pd_e (pe_c (.int _) pe_int)))) (pf_cons (pe_c (.int _) pe_int) (pf_cons (pe_c (.int _) pe_int) (pf_cons (pe_o1 rfl op_negM (pe_un un_neg (pd_e (pe_c (.int _) pe_int)))) pf_nil)))))))) (pd_e (pe_fn o c.f5 rfl (by rfl) (pg_refM (pv 0) (pg_valM (pe_c (.int _) pe_int) pg_nilM)))) (fun _ _ => rfl))))
 (pss_oneM (ps_retM (pe_tupM (pf_cons (pe_c (.str _) pe_str) (pf_cons (pe_name (by rfl) (pv 7)) (pf_cons (pe_o2 rfl rfl op_subM (pe_op op_sub (pd_e (pe_o2 rfl rfl op_addAM (pe_op op_addA (pd_v (pv 7)) (pd_v (pv 3))))) (pd_e (pe_c (.int _) pe_int)))) pf_nil)))))))))
theorem s__law_attributes (c : Cals P w K mg base lv C) {f : Addr} {cdv : Value} {A : Around} {outer : List PySem.Env} {s : Shared} {H : Hp} (o : Ok (A.deeper (envOfC "_law_attributes" (defScope st__law_attributes) s.heap.objs.size f cdv)) lv) :
    PSs (cxOf CX0 P w K mg base N__law_attributes "_law_attributes" (defScope st__law_attributes) f cdv A outer s H E0).nox (defBody st__law_attributes) (tS K [0] (M157 C)) :=
 (pss_consM (ps_setM (i := 5) sc__law_attributes.nd (by rfl) rfl (by first | exact Or.inl rfl | exact Or.inr rfl) (pe_lstM pf_nil))
 (pss_consM (ps_setM (i := 6) sc__law_attributes.nd (by rfl) rfl (by first | exact Or.inl rfl | exact Or.inr rfl) (pe_c (.int _) pe_int))
 (pss_consM (ps_forM (ws := [7]) PassesOwn.never rfl (pi_r1M rfl (pi_range1 (by rfl) c.free_range (pf_cons (pe_name (by rfl) (pv 3)) pf_nil))) (pg_name (i := 7) sc__law_attributes.nd rfl (by first | exact Or.inl rfl | exact Or.inr rfl)) (tgs_name (by rfl) (by show 7 < 12; decide) (by decide))
 (pss_consM (ps_setM (i := 8) sc__law_attributes.nd (by rfl) rfl (by first | exact Or.inl rfl | exact Or.inr rfl) (pe_o2 rfl rfl op_ixM (pe_ix ix_seq (pd_v (pv 1)) (pd_e (pe_fn o c.f5 rfl (by rfl) (pg_refM (pv 0) (pg_valM (pe_oc rfl oc_len (pe_callB call_len (by rfl) c.free_len PySem.boot_len (pa_consM (pd_v (pv 1)) pa_nilM))) pg_nilM)))) (fun _ _ => rfl))))
 (pss_consM (ps_setM (i := 9) sc__law_attributes.nd (by rfl) rfl (by first | exact Or.inl rfl | exact Or.inr rfl) (pe_fn o c.f156 rfl (by rfl) (pg_refM (pv 0) (pg_valM (pe_name (by rfl) (pv 2)) (pg_valM (pe_o2 rfl rfl op_ixM (pe_ix ix_seq (pd_e (pe_lstM (pf_cons (pe_c (.int _) pe_int) (pf_cons (pe_c (.int _) pe_int) (pf_cons (pe_c (.int _) pe_int) (pf_cons (pe_c (.int _) pe_int) pf_nil)))))) (pd_e (pe_fn o c.f5 rfl (by rfl) (pg_refM (pv 0) (pg_valM (pe_c (.int _) pe_int) pg_nilM)))) (fun _ _ => rfl))) pg_nilM)))))
 (pss_consM (ps_setM (i := 10) sc__law_attributes.nd (by rfl) rfl (by first | exact Or.inl rfl | exact Or.inr rfl) (pe_oc rfl oc_len (pe_callB call_len (by rfl) c.free_len PySem.boot_len (pa_consM (pd_e (pe_fn o c.f154 rfl (by rfl) (pg_valM (pe_name (by rfl) (pv 9)) pg_nilM))) pa_nilM))))
 (pss_oneM (ps_ifM (PW.pt (pw_andM (pt_o2 op_notInTM (pt_cmpR op_notIn_seq (pd_v (pv 8)) (pd_e (pe_lcV (i := 5) (own := [("_law_attribute", 11)]) (by rfl) rfl (by rfl) (by rfl) (tgs_name (by rfl) (by show 11 < 12; decide) (by decide)) rfl sc__law_attributes.nd (pv 5) (blkOk_by (own := [("_law_attribute", 11)]) (N := N__law_attributes) (sc := defScope st__law_attributes) (by decide +kernel)) (fun _ _ _ _ _ => (pg_name (i := 11) sc__law_attributes.nd rfl (by first | exact Or.inl rfl | exact Or.inr rfl))) (fun _ _ _ _ _ => pts_yesM) (fun _ _ _ _ _ => (pe_o2 rfl rfl op_ixM (pe_ix ix_seq (pd_v (pv 11)) (pd_e (pe_c (.int _) pe_int)) (fun _ _ => rfl)))))) (by rfl))) (pw_and1 (pt_o2 op_cmpM (pt_cmpR op_le (pd_e (pe_o2 rfl rfl op_mulM (pe_op op_mulX (pd_v (pv 6)) (pd_v (pv 10))))) (pd_v (pv 4)) (nomark _))))))
 (pss_consM (ps_exprM (pe_mu rfl rfl rfl om_app (pe_bm PySem.F.plainAttrs_list PySem.F.slot_list_append PySem.F.type_list_append mt_append (pv 5) (pf_cons (pe_tupM (pf_cons (pe_name (by rfl) (pv 8)) (pf_cons (pe_name (by rfl) (pv 9)) pf_nil))) pf_nil))))
 (pss_oneM (ps_setM (i := 6) sc__law_attributes.nd (by rfl) rfl (by first | exact Or.inl rfl | exact Or.inr rfl) (pe_o2 rfl rfl op_mulM (pe_op op_mulX (pd_v (pv 6)) (pd_v (pv 10)))))))
 pss_nilM))))))
 (pss_oneM (ps_retM (pe_oc rfl oc_tuple (pe_callTy call_tuple_of (by rfl) c.free_tuple (by decide +kernel) (pa_consM (pd_v (pv 5)) pa_nilM))))))))
theorem s__law_table (c : Cals P w K mg base lv C) {f : Addr} {cdv : Value} {A : Around} {outer : List PySem.Env} {s : Shared} {H : Hp} (o : Ok (A.deeper (envOfC "_law_table" (defScope st__law_table) s.heap.objs.size f cdv)) lv) :
    PSs (cxOf CX0 P w K mg base N__law_table "_law_table" (defScope st__law_table) f cdv A outer s H E0).nox (defBody st__law_table) (tS K [0] (M158 C)) :=
 (pss_consM (ps_setM (i := 3) sc__law_table.nd (by rfl) rfl (by first | exact Or.inl rfl | exact Or.inr rfl) (pe_lstM pf_nil))
 (pss_consM (ps_forM (ws := [4]) PassesOwn.never rfl (pi_r1M rfl (pi_range1 (by rfl) c.free_range (pf_cons (pe_o2 rfl rfl op_addI (pe_op op_add (pd_e (pe_c (.int _) pe_int)) (pd_e (pe_fn o c.f5 rfl (by rfl) (pg_refM (pv 0) (pg_valM (pe_c (.int _) pe_int) pg_nilM)))))) pf_nil))) (pg_name (i := 4) sc__law_table.nd rfl (by first | exact Or.inl rfl | exact Or.inr rfl)) (tgs_name (by rfl) (by show 4 < 11; decide) (by decide))
 (pss_consM (ps_setM (i := 5) sc__law_table.nd (by rfl) rfl (by first | exact Or.inl rfl | exact Or.inr rfl) (pe_o2 rfl rfl op_ixM (pe_ix ix_seq (pd_e (pe_o2 rfl rfl op_ixM (pe_ix ix_seq (pd_v (pv 1)) (pd_e (pe_fn o c.f5 rfl (by rfl) (pg_refM (pv 0) (pg_valM (pe_oc rfl oc_len (pe_callB call_len (by rfl) c.free_len PySem.boot_len (pa_consM (pd_v (pv 1)) pa_nilM))) pg_nilM)))) (fun _ _ => rfl)))) (pd_e (pe_c (.int _) pe_int)) (fun _ _ => rfl))))
 (pss_oneM (ps_ifM (pt_o2 op_notInTM (pt_cmpR op_notIn_seq (pd_v (pv 5)) (pd_v (pv 3)) (by rfl)))
 (pss_oneM (ps_exprM (pe_mu rfl rfl rfl om_app (pe_bm PySem.F.plainAttrs_list PySem.F.slot_list_append PySem.F.type_list_append mt_append (pv 3) (pf_cons (pe_name (by rfl) (pv 5)) pf_nil)))))
 pss_nilM))))
 (pss_consM (ps_setM (i := 6) sc__law_table.nd (by rfl) rfl (by first | exact Or.inl rfl | exact Or.inr rfl) (pe_lstM pf_nil))
 (pss_consM (ps_forM (ws := [4]) PassesOwn.never rfl (pi_r1M rfl (pi_range1 (by rfl) c.free_range (pf_cons (pe_o2 rfl rfl op_ixM (pe_ix ix_seq (pd_e (pe_lstM (pf_cons (pe_c (.int _) pe_int) (pf_cons (pe_c (.int _) pe_int) (pf_cons (pe_c (.int _) pe_int) (pf_cons (pe_c (.int _) pe_int) pf_nil)))))) (pd_e (pe_fn o c.f5 rfl (by rfl) (pg_refM (pv 0) (pg_valM (pe_c (.int _) pe_int) pg_nilM)))) (fun _ _ => rfl))) pf_nil))) (pg_name (i := 4) sc__law_table.nd rfl (by first | exact Or.inl rfl | exact Or.inr rfl)) (tgs_name (by rfl) (by show 4 < 11; decide) (by decide))
 (pss_consM (ps_setM (i := 7) sc__law_table.nd (by rfl) rfl (by first | exact Or.inl rfl | exact Or.inr rfl) (pe_lstM pf_nil))
 (pss_consM (ps_forM (ws := [5]) PassesOwn.never rfl (pi_anyM (pe_name (by rfl) (pv 3))) (pg_name (i := 5) sc__law_table.nd rfl (by first | exact Or.inl rfl | exact Or.inr rfl)) (tgs_name (by rfl) (by show 5 < 11; decide) (by decide))
 (pss_consM (ps_setM (i := 8) sc__law_table.nd (by rfl) rfl (by first | exact Or.inl rfl | exact Or.inr rfl) (pe_o2 rfl rfl op_ixM (pe_ix ix_seq (pd_e (pe_lcM (own := [("_law_pair", 10)]) rfl (by rfl) (by rfl) (tgs_name (by rfl) (by show 10 < 11; decide) (by decide)) rfl sc__law_table.nd (pi_anyM (pe_name (by rfl) (pv 1))) (blkOk_by (own := [("_law_pair", 10)]) (N := N__law_table) (sc := defScope st__law_table) (by decide +kernel)) (fun _ _ _ _ _ => (pg_name (i := 10) sc__law_table.nd rfl (by first | exact Or.inl rfl | exact Or.inr rfl))) (fun _ _ _ _ _ => (pts_oneM (pt_o2 op_eqM (pt_cmpR (op_eqX o.rm.units) (pd_e (pe_o2 rfl rfl op_ixM (pe_ix ix_seq (pd_v (pv 10)) (pd_e (pe_c (.int _) pe_int)) (fun _ _ => rfl)))) (pd_v (pv 5)) (nomark _))))) (fun _ _ _ _ _ => (pe_o2 rfl rfl op_ixM (pe_ix ix_seq (pd_v (pv 10)) (pd_e (pe_c (.int _) pe_int)) (fun _ _ => rfl)))))) (pd_e (pe_c (.int _) pe_int)) (fun _ _ => rfl))))
 (pss_consM (ps_setM (i := 9) sc__law_table.nd (by rfl) rfl (by first | exact Or.inl rfl | exact Or.inr rfl) (pe_o2 rfl rfl op_ixM (pe_ix ix_seq (pd_v (pv 8)) (pd_e (pe_fn o c.f5 rfl (by rfl) (pg_refM (pv 0) (pg_valM (pe_oc rfl oc_len (pe_callB call_len (by rfl) c.free_len PySem.boot_len (pa_consM (pd_v (pv 8)) pa_nilM))) pg_nilM)))) (fun _ _ => rfl))))
 (pss_consM (ps_ifM (pt_o2 op_eqM (pt_cmpR (op_eqX o.rm.units) (pd_e (pe_fn o c.f5 rfl (by rfl) (pg_refM (pv 0) (pg_valM (pe_c (.int _) pe_int) pg_nilM)))) (pd_e (pe_c (.int _) pe_int)) (nomark _)))
 (pss_oneM (ps_setM (i := 9) sc__law_table.nd (by rfl) rfl (by first | exact Or.inl rfl | exact Or.inr rfl) (pe_o2 rfl rfl op_ixM (pe_ix ix_seq (pd_e (pe_lstM (pf_cons (pe_c (.int _) pe_int) (pf_cons (pe_o2 rfl rfl op_ixM (pe_ix ix_seq (pd_v (pv 2)) (pd_e (pe_c (.int _) pe_int)) (fun _ _ => rfl))) (pf_cons (pe_o1 rfl op_negM (pe_un un_neg (pd_e (pe_c (.int _) pe_int)))) (pf_cons (pe_c (.int _) pe_int) pf_nil)))))) (pd_e (pe_fn o c.f5 rfl (by rfl) (pg_refM (pv 0) (pg_valM (pe_c (.int _) pe_int) pg_nilM)))) (fun _ _ => rfl)))))
 pss_nilM)
 (pss_oneM (ps_exprM (pe_mu rfl rfl rfl om_app (pe_bm PySem.F.plainAttrs_list PySem.F.slot_list_append PySem.F.type_list_append mt_append (pv 7) (pf_cons (pe_name (by rfl) (pv 9)) pf_nil)))))))))
 (pss_oneM (ps_exprM (pe_mu rfl rfl rfl om_app (pe_bm PySem.F.plainAttrs_list PySem.F.slot_list_append PySem.F.type_list_append mt_append (pv 6) (pf_cons (pe_oc rfl oc_tuple (pe_callTy call_tuple_of (by rfl) c.free_tuple (by decide +kernel) (pa_consM (pd_v (pv 7)) pa_nilM))) pf_nil))))))))
 (pss_oneM (ps_retM (pe_tupM (pf_cons (pe_oc rfl oc_tuple (pe_callTy call_tuple_of (by rfl) c.free_tuple (by decide +kernel) (pa_consM (pd_v (pv 3)) pa_nilM))) (pf_cons (pe_oc rfl oc_tuple (pe_callTy call_tuple_of (by rfl) c.free_tuple (by decide +kernel) (pa_consM (pd_v (pv 6)) pa_nilM))) pf_nil)))))))))
theorem s__law_component (c : Cals P w K mg base lv C) {f : Addr} {cdv : Value} {A : Around} {outer : List PySem.Env} {s : Shared} {H : Hp} (o : Ok (A.deeper (envOfC "_law_component" (defScope st__law_component) s.heap.objs.size f cdv)) lv) :
    PSs (cxOf CX0 P w K mg base N__law_component "_law_component" (defScope st__law_component) f cdv A outer s H E0).nox (defBody st__law_component) (tS K [0] (M394 C)) :=
 (pss_consM (ps_setM (i := 6) sc__law_component.nd (by rfl) rfl (by first | exact Or.inl rfl | exact Or.inr rfl) (pe_o2 rfl rfl op_ixM (pe_ix ix_seq (pd_v (pv 2)) (pd_e (pe_fn o c.f5 rfl (by rfl) (pg_refM (pv 0) (pg_valM (pe_oc rfl oc_len (pe_callB call_len (by rfl) c.free_len PySem.boot_len (pa_consM (pd_v (pv 2)) pa_nilM))) pg_nilM)))) (fun _ _ => rfl))))
 (pss_consM (ps_setM (i := 7) sc__law_component.nd (by rfl) rfl (by first | exact Or.inl rfl | exact Or.inr rfl) (pe_fn o c.f155 rfl (by rfl) (pg_valM (pe_o2 rfl rfl op_ixM (pe_ix ix_seq (pd_v (pv 6)) (pd_e (pe_c (.int _) pe_int)) (fun _ _ => rfl))) pg_nilM)))
 (pss_consM (ps_setM (i := 8) sc__law_component.nd (by rfl) rfl (by first | exact Or.inl rfl | exact Or.inr rfl) (pe_lstM pf_nil))
 (pss_consM (ps_forM (ws := [9]) PassesOwn.never rfl (pi_r1M rfl (pi_range1 (by rfl) c.free_range (pf_cons (pe_o2 rfl rfl op_ixM (pe_ix ix_seq (pd_e (pe_lstM (pf_cons (pe_c (.int _) pe_int) (pf_cons (pe_c (.int _) pe_int) (pf_cons (pe_c (.int _) pe_int) (pf_cons (pe_c (.int _) pe_int) (pf_cons (pe_c (.int _) pe_int) (pf_cons (pe_c (.int _) pe_int) pf_nil)))))))) (pd_e (pe_fn o c.f5 rfl (by rfl) (pg_refM (pv 0) (pg_valM (pe_c (.int _) pe_int) pg_nilM)))) (fun _ _ => rfl))) pf_nil))) (pg_name (i := 9) sc__law_component.nd rfl (by first | exact Or.inl rfl | exact Or.inr rfl)) (tgs_name (by rfl) (by show 9 < 21; decide) (by decide))
 (pss_consM (ps_setM (i := 10) sc__law_component.nd (by rfl) rfl (by first | exact Or.inl rfl | exact Or.inr rfl) (pe_o2 rfl rfl op_ixM (pe_ix ix_seq (pd_v (pv 2)) (pd_e (pe_fn o c.f5 rfl (by rfl) (pg_refM (pv 0) (pg_valM (pe_oc rfl oc_len (pe_callB call_len (by rfl) c.free_len PySem.boot_len (pa_consM (pd_v (pv 2)) pa_nilM))) pg_nilM)))) (fun _ _ => rfl))))
 (pss_consM (ps_setM (i := 11) sc__law_component.nd (by rfl) rfl (by first | exact Or.inl rfl | exact Or.inr rfl) (pe_o2 rfl rfl op_ixM (pe_ix ix_seq (pd_v (pv 3)) (pd_e (pe_fn o c.f5 rfl (by rfl) (pg_refM (pv 0) (pg_valM (pe_oc rfl oc_len (pe_callB call_len (by rfl) c.free_len PySem.boot_len (pa_consM (pd_v (pv 3)) pa_nilM))) pg_nilM)))) (fun _ _ => rfl))))
 (pss_oneM (ps_ifM (PW.pt (pw_andM (pt_o2 op_notInTM (pt_cmpR op_notIn_seq (pd_v (pv 11)) (pd_e (pe_lcV (i := 8) (own := [("_law_pair", 20)]) (by rfl) rfl (by rfl) (by rfl) (tgs_name (by rfl) (by show 20 < 21; decide) (by decide)) rfl sc__law_component.nd (pv 8) (blkOk_by (own := [("_law_pair", 20)]) (N := N__law_component) (sc := defScope st__law_component) (by decide +kernel)) (fun _ _ _ _ _ => (pg_name (i := 20) sc__law_component.nd rfl (by first | exact Or.inl rfl | exact Or.inr rfl))) (fun _ _ _ _ _ => pts_yesM) (fun _ _ _ _ _ => (pe_o2 rfl rfl op_ixM (pe_ix ix_seq (pd_v (pv 20)) (pd_e (pe_c (.int _) pe_int)) (fun _ _ => rfl)))))) (by rfl))) (pw_and1 (pt_o2 op_cmpM (pt_cmpR op_le (pd_e (pe_o2 rfl rfl op_mulM (pe_op op_mulX (pd_v (pv 7)) (pd_e (pe_fn o c.f155 rfl (by rfl) (pg_valM (pe_o2 rfl rfl op_ixM (pe_ix ix_seq (pd_v (pv 10)) (pd_e (pe_c (.int _) pe_int)) (fun _ _ => rfl))) pg_nilM)))))) (pd_v (pv 5)) (nomark _))))))
 (pss_consM (ps_exprM (pe_mu rfl rfl rfl om_app (pe_bm PySem.F.plainAttrs_list PySem.F.slot_list_append PySem.F.type_list_append mt_append (pv 8) (pf_cons (pe_tupM (pf_cons (pe_name (by rfl) (pv 11)) (pf_cons (pe_o2 rfl rfl op_ixM (pe_ix ix_seq (pd_v (pv 10)) (pd_e (pe_c (.int _) pe_int)) (fun _ _ => rfl))) pf_nil))) pf_nil))))
 (pss_oneM (ps_setM (i := 7) sc__law_component.nd (by rfl) rfl (by first | exact Or.inl rfl | exact Or.inr rfl) (pe_o2 rfl rfl op_mulM (pe_op op_mulX (pd_v (pv 7)) (pd_e (pe_fn o c.f155 rfl (by rfl) (pg_valM (pe_o2 rfl rfl op_ixM (pe_ix ix_seq (pd_v (pv 10)) (pd_e (pe_c (.int _) pe_int)) (fun _ _ => rfl))) pg_nilM))))))))
 pss_nilM)))))
 (pss_consM (ps_setM (i := 12) sc__law_component.nd (by rfl) rfl (by first | exact Or.inl rfl | exact Or.inr rfl) (pe_fn o c.f157 rfl (by rfl) (pg_refM (pv 0) (pg_valM (pe_name (by rfl) (pv 3)) (pg_valM (pe_name (by rfl) (pv 4)) (pg_valM (pe_o2 rfl rfl op_ixM (pe_ix ix_seq (pd_e (pe_lstM (pf_cons (pe_c (.int _) pe_int) (pf_cons (pe_c (.int _) pe_int) (pf_cons (pe_c (.int _) pe_int) (pf_cons (pe_c (.int _) pe_int) (pf_cons (pe_c (.int _) pe_int) pf_nil))))))) (pd_e (pe_fn o c.f5 rfl (by rfl) (pg_refM (pv 0) (pg_valM (pe_c (.int _) pe_int) pg_nilM)))) (fun _ _ => rfl))) (pg_valM (pe_o2 rfl rfl op_divM (pe_op op_fdivW (pd_v (pv 5)) (pd_v (pv 7)))) pg_nilM)))))))
 (pss_consM (ps_setM (i := 13) sc__law_component.nd (by rfl) rfl (by first | exact Or.inl rfl | exact Or.inr rfl) (pe_fn o c.f163 rfl (by rfl) (pg_valM (pe_tupM (pf_cons (pe_name (by rfl) (pv 2)) (pf_cons (pe_tupM pf_nil) (pf_cons (pe_c (.str _) pe_str) pf_nil)))) (pg_valM (pe_tupM (pf_cons (pe_name (by rfl) (pv 1)) (pf_cons (pe_o2 rfl rfl op_ixM (pe_ix ix_seq (pd_v (pv 6)) (pd_e (pe_c (.int _) pe_int)) (fun _ _ => rfl))) (pf_cons (pe_name (by rfl) (pv 12)) (pf_cons (pe_name (by rfl) (pv 8)) pf_nil))))) pg_nilM))))
 (pss_consM (ps_setLcM (i := 14) (own := [("_law_pair", 20)]) rfl (by rfl) (by rfl) (by rfl) (tgs_name (by rfl) (by show 20 < 21; decide) (by decide)) rfl sc__law_component.nd rfl rfl (sw_true rfl rfl rfl (by decide +kernel)) (pi_anyM (pe_name (by rfl) (pv 13))) (blkOk_by (own := [("_law_pair", 20)]) (N := N__law_component) (sc := defScope st__law_component) (by decide +kernel)) (fun _ _ _ _ _ => (pg_name (i := 20) sc__law_component.nd rfl (by first | exact Or.inl rfl | exact Or.inr rfl))) (fun _ _ _ _ _ => pts_yesM) (fun _ _ _ _ _ => (pe_tupM (pf_cons (pe_o2 rfl rfl op_ixM (pe_ix ix_seq (pd_v (pv 20)) (pd_e (pe_c (.int _) pe_int)) (fun _ _ => rfl))) (pf_cons (pe_o2 rfl rfl op_ixM (pe_ix ix_seq (pd_e (pe_lstM (pf_cons (pe_c (.str _) pe_str) (pf_cons (pe_c (.str _) pe_str) pf_nil)))) (pd_e (pe_oc rfl oc_int (pe_callTy call_int1 (by rfl) c.free_int (by decide +kernel) (pa_consM (pd_e (pe_o1 rfl (op_isi kit_str) (pe_isi (n := "str") (pd_e (pe_o2 rfl rfl op_ixM (pe_ix ix_seq (pd_e (pe_o2 rfl rfl op_ixM (pe_ix ix_seq (pd_v (pv 20)) (pd_e (pe_c (.int _) pe_int)) (fun _ _ => rfl)))) (pd_e (pe_c (.int _) pe_int)) (fun _ _ => rfl)))) (by rfl) c.free_isinstance (by decide +kernel) (by rfl) c.free_str (by decide +kernel)))) pa_nilM)))) (fun _ _ => rfl))) pf_nil)))))
 (pss_consM (ps_setM (i := 15) sc__law_component.nd (by rfl) rfl (by first | exact Or.inl rfl | exact Or.inr rfl) (pe_lstM pf_nil))
 (pss_consM (ps_forM (ws := [9]) PassesOwn.never rfl (pi_r1M rfl (pi_range1 (by rfl) c.free_range (pf_cons (pe_o2 rfl rfl op_ixM (pe_ix ix_seq (pd_e (pe_lstM (pf_cons (pe_c (.int _) pe_int) (pf_cons (pe_c (.int _) pe_int) (pf_cons (pe_c (.int _) pe_int) (pf_cons (pe_c (.int _) pe_int) (pf_cons (pe_c (.int _) pe_int) pf_nil))))))) (pd_e (pe_fn o c.f5 rfl (by rfl) (pg_refM (pv 0) (pg_valM (pe_c (.int _) pe_int) pg_nilM)))) (fun _ _ => rfl))) pf_nil))) (pg_name (i := 9) sc__law_component.nd rfl (by first | exact Or.inl rfl | exact Or.inr rfl)) (tgs_name (by rfl) (by show 9 < 21; decide) (by decide))
 (pss_oneM (ps_exprM (pe_mu rfl rfl rfl om_app (pe_bm PySem.F.plainAttrs_list PySem.F.slot_list_append PySem.F.type_list_append mt_append (pv 15) (pf_cons (pe_fn o c.f415 rfl (by rfl) (pg_refM (pv 0) (pg_valM (pe_c (.str _) pe_str) (pg_valM (pe_name (by rfl) (pv 14)) (pg_valM (pe_name (by rfl) (pv 4)) (pg_valM (pe_o2 rfl rfl op_ixM (pe_ix ix_seq (pd_e (pe_lstM (pf_cons (pe_c (.int _) pe_int) (pf_cons (pe_c (.int _) pe_int) (pf_cons (pe_c (.int _) pe_int) (pf_cons (pe_c (.int _) pe_int) (pf_cons (pe_c (.int _) pe_int) (pf_cons (pe_c (.int _) pe_int) pf_nil)))))))) (pd_e (pe_fn o c.f5 rfl (by rfl) (pg_refM (pv 0) (pg_valM (pe_c (.int _) pe_int) pg_nilM)))) (fun _ _ => rfl))) (pg_valM (pe_c (.int _) pe_int) pg_nilM))))))) pf_nil))))))
 (pss_consM (ps_setM (i := 16) sc__law_component.nd (by rfl) rfl (by first | exact Or.inl rfl | exact Or.inr rfl) (pe_lstM pf_nil))
 (pss_consM (ps_forM (ws := [9]) PassesOwn.never rfl (pi_r1M rfl (pi_range1 (by rfl) c.free_range (pf_cons (pe_o2 rfl rfl op_ixM (pe_ix ix_seq (pd_e (pe_lstM (pf_cons (pe_c (.int _) pe_int) (pf_cons (pe_c (.int _) pe_int) (pf_cons (pe_c (.int _) pe_int) (pf_cons (pe_c (.int _) pe_int) (pf_cons (pe_c (.int _) pe_int) pf_nil))))))) (pd_e (pe_fn o c.f5 rfl (by rfl) (pg_refM (pv 0) (pg_valM (pe_c (.int _) pe_int) pg_nilM)))) (fun _ _ => rfl))) pf_nil))) (pg_name (i := 9) sc__law_component.nd rfl (by first | exact Or.inl rfl | exact Or.inr rfl)) (tgs_name (by rfl) (by show 9 < 21; decide) (by decide))
 (pss_oneM (ps_ifM (pt_truM (pd_v (pv 13)))
 (pss_oneM (ps_exprM (pe_mu rfl rfl rfl om_app (pe_bm PySem.F.plainAttrs_list PySem.F.slot_list_append PySem.F.type_list_append mt_append (pv 16) (pf_cons (pe_fn o c.f158 rfl (by rfl) (pg_refM (pv 0) (pg_valM (pe_name (by rfl) (pv 13)) (pg_valM (pe_name (by rfl) (pv 4)) pg_nilM)))) pf_nil)))))
 pss_nilM)))
 (pss_consM (ps_setM (i := 17) sc__law_component.nd (by rfl) rfl (by first | exact Or.inl rfl | exact Or.inr rfl) (pe_lstM pf_nil))
 (pss_consM (ps_forM (ws := [9]) PassesOwn.never rfl (pi_r1M rfl (pi_range1 (by rfl) c.free_range (pf_cons (pe_o2 rfl rfl op_ixM (pe_ix ix_seq (pd_e (pe_lstM (pf_cons (pe_c (.int _) pe_int) (pf_cons (pe_c (.int _) pe_int) (pf_cons (pe_c (.int _) pe_int) (pf_cons (pe_c (.int _) pe_int) (pf_cons (pe_c (.int _) pe_int) pf_nil))))))) (pd_e (pe_fn o c.f5 rfl (by rfl) (pg_refM (pv 0) (pg_valM (pe_c (.int _) pe_int) pg_nilM)))) (fun _ _ => rfl))) pf_nil))) (pg_name (i := 9) sc__law_component.nd rfl (by first | exact Or.inl rfl | exact Or.inr rfl)) (tgs_name (by rfl) (by show 9 < 21; decide) (by decide))
 (pss_consM (ps_setM (i := 18) sc__law_component.nd (by rfl) rfl (by first | exact Or.inl rfl | exact Or.inr rfl) (pe_fn o c.f415 rfl (by rfl) (pg_refM (pv 0) (pg_valM (pe_c (.str _) pe_str) (pg_valM (pe_name (by rfl) (pv 14)) (pg_valM (pe_name (by rfl) (pv 4)) (pg_valM (pe_o2 rfl rfl op_ixM (pe_ix ix_seq (pd_e (pe_lstM (pf_cons (pe_c (.int _) pe_int) (pf_cons (pe_c (.int _) pe_int) (pf_cons (pe_c (.int _) pe_int) (pf_cons (pe_c (.int _) pe_int) (pf_cons (pe_c (.int _) pe_int) (pf_cons (pe_c (.int _) pe_int) pf_nil)))))))) (pd_e (pe_fn o c.f5 rfl (by rfl) (pg_refM (pv 0) (pg_valM (pe_c (.int _) pe_int) pg_nilM)))) (fun _ _ => rfl))) (pg_valM (pe_c (.int _) pe_int) pg_nilM))))))))
 (pss_oneM (ps_exprM (pe_mu rfl rfl rfl om_app (pe_bm PySem.F.plainAttrs_list PySem.F.slot_list_append PySem.F.type_list_append mt_append (pv 17) (pf_cons (pe_tupM (pf_cons (pe_name (by rfl) (pv 18)) (pf_cons (pe_o2 rfl rfl op_ixM (pe_ix ix_seq (pd_e (pe_lstM (pf_cons (pe_c (.int _) pe_int) (pf_cons (pe_c (.int _) pe_int) (pf_cons (pe_c (.int _) pe_int) (pf_cons (pe_c (.int _) pe_int) (pf_cons (pe_c (.int _) pe_int) pf_nil))))))) (pd_e (pe_fn o c.f5 rfl (by rfl) (pg_refM (pv 0) (pg_valM (pe_c (.int _) pe_int) pg_nilM)))) (fun _ _ => rfl))) pf_nil))) pf_nil)))))))
 (pss_consM (ps_setM (i := 19) sc__law_component.nd (by rfl) rfl (by first | exact Or.inl rfl | exact Or.inr rfl) (pe_o2 rfl rfl op_ixM (pe_ix ix_seq (pd_e (pe_lstM (pf_cons (pe_c (.int _) pe_int) (pf_cons (pe_c (.int _) pe_int) (pf_cons (pe_c (.int _) pe_int) (pf_cons (pe_c (.int _) pe_int) (pf_cons (pe_c (.int _) pe_int) (pf_cons (pe_c (.int _) pe_int) pf_nil)))))))) (pd_e (pe_fn o c.f5 rfl (by rfl) (pg_refM (pv 0) (pg_valM (pe_c (.int _) pe_int) pg_nilM)))) (fun _ _ => rfl))))
 (pss_oneM (ps_retM (pe_tupM (pf_cons (pe_name (by rfl) (pv 1)) (pf_cons (pe_o2 rfl rfl op_ixM (pe_ix ix_seq (pd_v (pv 6)) (pd_e (pe_c (.int _) pe_int)) (fun _ _ => rfl))) (pf_cons (pe_name (by rfl) (pv 12)) (pf_cons (pe_oc rfl oc_tuple (pe_callTy call_tuple_of (by rfl) c.free_tuple (by decide +kernel) (pa_consM (pd_v (pv 8)) pa_nilM))) (pf_cons (pe_oc rfl oc_tuple (pe_callTy call_tuple_of (by rfl) c.free_tuple (by decide +kernel) (pa_consM (pd_v (pv 15)) pa_nilM))) (pf_cons (pe_oc rfl oc_tuple (pe_callTy call_tuple_of (by rfl) c.free_tuple (by decide +kernel) (pa_consM (pd_v (pv 16)) pa_nilM))) (pf_cons (pe_name (by rfl) (pv 19)) (pf_cons (pe_oc rfl oc_tuple (pe_callTy call_tuple_of (by rfl) c.free_tuple (by decide +kernel) (pa_consM (pd_v (pv 17)) pa_nilM))) pf_nil)))))))))))))))))))))))))
theorem s__law_definition (c : Cals P w K mg base lv C) {f : Addr} {cdv : Value} {A : Around} {outer : List PySem.Env} {s : Shared} {H : Hp} (o : Ok (A.deeper (envOfC "_law_definition" (defScope st__law_definition) s.heap.objs.size f cdv)) lv) :
    PSs (cxOf CX0 P w K mg base N__law_definition "_law_definition" (defScope st__law_definition) f cdv A outer s H E0).nox (defBody st__law_definition) (tS K [0] (M395 C)) :=
 (pss_oneM (ps_retM (pe_fn o c.f396 rfl (by rfl) (pg_refM (pv 0) (pg_valM (pe_name (by rfl) (pv 1)) (pg_valM (pe_fn o c.f39 rfl (by rfl) (pg_refM (pv 0) (pg_valM (pe_c (.int _) pe_int) pg_nilM))) pg_nilM))))))
theorem s__law_defined (c : Cals P w K mg base lv C) {f : Addr} {cdv : Value} {A : Around} {outer : List PySem.Env} {s : Shared} {H : Hp} (o : Ok (A.deeper (envOfC "_law_defined" (defScope st__law_defined) s.heap.objs.size f cdv)) lv) :
    PSs (cxOf CX0 P w K mg base N__law_defined "_law_defined" (defScope st__law_defined) f cdv A outer s H E0).nox (defBody st__law_defined) (tS K [0] (M396 C)) :=
 (pss_consM (ps_setM (i := 3) sc__law_defined.nd (by rfl) rfl (by first | exact Or.inl rfl | exact Or.inr rfl) (pe_o2 rfl rfl op_addAM (pe_op op_addA (pd_e (pe_fn o c.f42 rfl (by rfl) (pg_refM (pv 0) pg_nilM))) (pd_e (pe_lstM (pf_cons (pe_fn o c.f41 rfl (by rfl) (pg_refM (pv 0) pg_nilM)) pf_nil))))))
 (pss_consM (ps_setM (i := 4) sc__law_defined.nd (by rfl) rfl (by first | exact Or.inl rfl | exact Or.inr rfl) (pe_lstM pf_nil))
 (pss_consM (ps_forM (ws := [5]) PassesOwn.never rfl (pi_r1M rfl (pi_range1 (by rfl) c.free_range (pf_cons (pe_o2 rfl rfl op_ixM (pe_ix ix_seq (pd_e (pe_lstM (pf_cons (pe_c (.int _) pe_int) (pf_cons (pe_c (.int _) pe_int) (pf_cons (pe_c (.int _) pe_int) (pf_cons (pe_c (.int _) pe_int) (pf_cons (pe_c (.int _) pe_int) (pf_cons (pe_c (.int _) pe_int) pf_nil)))))))) (pd_e (pe_fn o c.f5 rfl (by rfl) (pg_refM (pv 0) (pg_valM (pe_c (.int _) pe_int) pg_nilM)))) (fun _ _ => rfl))) pf_nil))) (pg_name (i := 5) sc__law_defined.nd rfl (by first | exact Or.inl rfl | exact Or.inr rfl)) (tgs_name (by rfl) (by show 5 < 11; decide) (by decide))
 (pss_consM (ps_setM (i := 6) sc__law_defined.nd (by rfl) rfl (by first | exact Or.inl rfl | exact Or.inr rfl) (pe_o2 rfl rfl op_ixM (pe_ix ix_seq (pd_v (pv 2)) (pd_e (pe_fn o c.f5 rfl (by rfl) (pg_refM (pv 0) (pg_valM (pe_oc rfl oc_len (pe_callB call_len (by rfl) c.free_len PySem.boot_len (pa_consM (pd_v (pv 2)) pa_nilM))) pg_nilM)))) (fun _ _ => rfl))))
 (pss_consM (ps_setM (i := 7) sc__law_defined.nd (by rfl) rfl (by first | exact Or.inl rfl | exact Or.inr rfl) (pe_o2 rfl rfl op_ixM (pe_ix ix_seq (pd_e (pe_lstM (pf_cons (pe_c (.int _) pe_int) (pf_cons (pe_c (.int _) pe_int) (pf_cons (pe_c (.int _) pe_int) (pf_cons (pe_c (.int _) pe_int) (pf_cons (pe_c (.int _) pe_int) (pf_cons (pe_c (.int _) pe_int) (pf_cons (pe_c (.int _) pe_int) (pf_cons (pe_c (.int _) pe_int) pf_nil)))))))))) (pd_e (pe_fn o c.f5 rfl (by rfl) (pg_refM (pv 0) (pg_valM (pe_c (.int _) pe_int) pg_nilM)))) (fun _ _ => rfl))))
 (pss_oneM (ps_ifM (pt_o2 op_notInTM (pt_cmpR op_notIn_seq (pd_v (pv 6)) (pd_e (pe_lcV (i := 4) (own := [("_law_port_here", 10)]) (by rfl) rfl (by rfl) (by rfl) (tgs_name (by rfl) (by show 10 < 11; decide) (by decide)) rfl sc__law_defined.nd (pv 4) (blkOk_by (own := [("_law_port_here", 10)]) (N := N__law_defined) (sc := defScope st__law_defined) (by decide +kernel)) (fun _ _ _ _ _ => (pg_name (i := 10) sc__law_defined.nd rfl (by first | exact Or.inl rfl | exact Or.inr rfl))) (fun _ _ _ _ _ => pts_yesM) (fun _ _ _ _ _ => (pe_o2 rfl rfl op_ixM (pe_ix ix_seq (pd_v (pv 10)) (pd_e (pe_c (.int _) pe_int)) (fun _ _ => rfl)))))) (by rfl)))
 (pss_oneM (ps_exprM (pe_mu rfl rfl rfl om_app (pe_bm PySem.F.plainAttrs_list PySem.F.slot_list_append PySem.F.type_list_append mt_append (pv 4) (pf_cons (pe_tupM (pf_cons (pe_name (by rfl) (pv 6)) (pf_cons (pe_fn o c.f157 rfl (by rfl) (pg_refM (pv 0) (pg_valM (pe_name (by rfl) (pv 2)) (pg_valM (pe_name (by rfl) (pv 3)) (pg_valM (pe_o2 rfl rfl op_ixM (pe_ix ix_seq (pd_e (pe_lstM (pf_cons (pe_c (.int _) pe_int) (pf_cons (pe_c (.int _) pe_int) (pf_cons (pe_c (.int _) pe_int) (pf_cons (pe_c (.int _) pe_int) (pf_cons (pe_c (.int _) pe_int) pf_nil))))))) (pd_e (pe_fn o c.f5 rfl (by rfl) (pg_refM (pv 0) (pg_valM (pe_c (.int _) pe_int) pg_nilM)))) (fun _ _ => rfl))) (pg_valM (pe_name (by rfl) (pv 7)) pg_nilM)))))) pf_nil))) pf_nil)))))
 pss_nilM)))))
 (pss_consM (ps_setM (i := 8) sc__law_defined.nd (by rfl) rfl (by first | exact Or.inl rfl | exact Or.inr rfl) (pe_lstM pf_nil))
 (pss_consM (ps_setM (i := 9) sc__law_defined.nd (by rfl) rfl (by first | exact Or.inl rfl | exact Or.inr rfl) (pe_oc rfl oc_list (pe_callTy call_list_of (by rfl) c.free_list (by decide +kernel) (pa_consM (pd_v (pv 2)) pa_nilM))))
 (pss_consM (ps_forM (ws := [5]) PassesOwn.never rfl (pi_r1M rfl (pi_range1 (by rfl) c.free_range (pf_cons (pe_o2 rfl rfl op_ixM (pe_ix ix_seq (pd_e (pe_lstM (pf_cons (pe_c (.int _) pe_int) (pf_cons (pe_c (.int _) pe_int) (pf_cons (pe_c (.int _) pe_int) (pf_cons (pe_c (.int _) pe_int) (pf_cons (pe_c (.int _) pe_int) pf_nil))))))) (pd_e (pe_fn o c.f5 rfl (by rfl) (pg_refM (pv 0) (pg_valM (pe_c (.int _) pe_int) pg_nilM)))) (fun _ _ => rfl))) pf_nil))) (pg_name (i := 5) sc__law_defined.nd rfl (by first | exact Or.inl rfl | exact Or.inr rfl)) (tgs_name (by rfl) (by show 5 < 11; decide) (by decide))
 (pss_oneM (ps_ifM (pt_truM (pd_v (pv 9)))
 (pss_consM (ps_setM (i := 6) sc__law_defined.nd (by rfl) rfl (by first | exact Or.inl rfl | exact Or.inr rfl) (pe_mu rfl rfl rfl om_popAt (pe_bm PySem.F.plainAttrs_list PySem.F.slot_list_pop PySem.F.type_list_pop mt_popAt (pv 9) (pf_cons (pe_fn o c.f5 rfl (by rfl) (pg_refM (pv 0) (pg_valM (pe_oc rfl oc_len (pe_callB call_len (by rfl) c.free_len PySem.boot_len (pa_consM (pd_v (pv 9)) pa_nilM))) pg_nilM))) pf_nil))))
 (pss_oneM (ps_exprM (pe_mu rfl rfl rfl om_app (pe_bm PySem.F.plainAttrs_list PySem.F.slot_list_append PySem.F.type_list_append mt_append (pv 8) (pf_cons (pe_fn o c.f394 rfl (by rfl) (pg_refM (pv 0) (pg_valM (pe_name (by rfl) (pv 6)) (pg_valM (pe_name (by rfl) (pv 4)) (pg_valM (pe_name (by rfl) (pv 2)) (pg_valM (pe_name (by rfl) (pv 3)) (pg_valM (pe_name (by rfl) (pv 1)) pg_nilM))))))) pf_nil))))))
 pss_nilM)))
 (pss_consM (ps_ifM (pt_o2 op_eqM (pt_cmpR (op_eqX o.rm.units) (pd_e (pe_fn o c.f5 rfl (by rfl) (pg_refM (pv 0) (pg_valM (pe_c (.int _) pe_int) pg_nilM)))) (pd_e (pe_c (.int _) pe_int)) (nomark _)))
 (pss_oneM (ps_forM (ws := [10]) PassesOwn.never rfl (pi_anyM (pe_name (by rfl) (pv 4))) (pg_name (i := 10) sc__law_defined.nd rfl (by first | exact Or.inl rfl | exact Or.inr rfl)) (tgs_name (by rfl) (by show 10 < 11; decide) (by decide))
 (pss_oneM (ps_ifM (pt_truM (pd_v (pv 9)))
 (pss_consM (ps_setM (i := 6) sc__law_defined.nd (by rfl) rfl (by first | exact Or.inl rfl | exact Or.inr rfl) (pe_mu rfl rfl rfl om_popAt (pe_bm PySem.F.plainAttrs_list PySem.F.slot_list_pop PySem.F.type_list_pop mt_popAt (pv 9) (pf_cons (pe_fn o c.f5 rfl (by rfl) (pg_refM (pv 0) (pg_valM (pe_oc rfl oc_len (pe_callB call_len (by rfl) c.free_len PySem.boot_len (pa_consM (pd_v (pv 9)) pa_nilM))) pg_nilM))) pf_nil))))
 (pss_oneM (ps_exprM (pe_mu rfl rfl rfl om_app (pe_bm PySem.F.plainAttrs_list PySem.F.slot_list_append PySem.F.type_list_append mt_append (pv 8) (pf_cons (pe_tupM (pf_cons (pe_name (by rfl) (pv 6)) (pf_cons (pe_o2 rfl rfl op_ixM (pe_ix ix_seq (pd_v (pv 10)) (pd_e (pe_c (.int _) pe_int)) (fun _ _ => rfl))) (pf_cons (pe_tupM pf_nil) (pf_cons (pe_tupM pf_nil) (pf_cons (pe_tupM pf_nil) (pf_cons (pe_tupM pf_nil) (pf_cons (pe_fn o c.f5 rfl (by rfl) (pg_refM (pv 0) (pg_valM (pe_c (.int _) pe_int) pg_nilM))) (pf_cons (pe_tupM pf_nil) pf_nil))))))))) pf_nil))))))
 pss_nilM))))
 pss_nilM)
 (pss_oneM (ps_retM (pe_tupM (pf_cons (pe_oc rfl oc_tuple (pe_callTy call_tuple_of (by rfl) c.free_tuple (by decide +kernel) (pa_consM (pd_v (pv 4)) pa_nilM))) (pf_cons (pe_oc rfl oc_tuple (pe_callTy call_tuple_of (by rfl) c.free_tuple (by decide +kernel) (pa_consM (pd_v (pv 8)) pa_nilM))) (pf_cons (pe_o2 rfl rfl op_ixM (pe_ix ix_seq (pd_e (pe_o2 rfl rfl op_ixM (pe_ix ix_seq (pd_v (pv 4)) (pd_e (pe_fn o c.f5 rfl (by rfl) (pg_refM (pv 0) (pg_valM (pe_oc rfl oc_len (pe_callB call_len (by rfl) c.free_len PySem.boot_len (pa_consM (pd_v (pv 4)) pa_nilM))) pg_nilM)))) (fun _ _ => rfl)))) (pd_e (pe_c (.int _) pe_int)) (fun _ _ => rfl))) pf_nil)))))))))))))
theorem s__law_port (c : Cals P w K mg base lv C) {f : Addr} {cdv : Value} {A : Around} {outer : List PySem.Env} {s : Shared} {H : Hp} (o : Ok (A.deeper (envOfC "_law_port" (defScope st__law_port) s.heap.objs.size f cdv)) lv) :
    PSs (cxOf CX0 P w K mg base N__law_port "_law_port" (defScope st__law_port) f cdv A outer s H E0).nox (defBody st__law_port) (tS K [] (M162 C)) :=
 (pss_consM (ps_forM (ws := [2]) PassesOwn.never rfl (pi_anyM (pe_o2 rfl rfl op_ixM (pe_ix ix_seq (pd_v (pv 0)) (pd_e (pe_c (.int _) pe_int)) (fun _ _ => rfl)))) (pg_name (i := 2) sc__law_port.nd rfl (by first | exact Or.inl rfl | exact Or.inr rfl)) (tgs_name (by rfl) (by show 2 < 3; decide) (by decide))
 (pss_oneM (ps_ifM (pt_o2 op_eqM (pt_cmpR (op_eqX o.rm.units) (pd_e (pe_o2 rfl rfl op_ixM (pe_ix ix_seq (pd_v (pv 2)) (pd_e (pe_c (.int _) pe_int)) (fun _ _ => rfl)))) (pd_v (pv 1)) (nomark _)))
 (pss_oneM (ps_retM (pe_name (by rfl) (pv 2))))
 pss_nilM)))
 (pss_oneM (ps_retM (pe_o2 rfl rfl op_ixM (pe_ix ix_seq (pd_e (pe_o2 rfl rfl op_ixM (pe_ix ix_seq (pd_v (pv 0)) (pd_e (pe_c (.int _) pe_int)) (fun _ _ => rfl)))) (pd_e (pe_c (.int _) pe_int)) (fun _ _ => rfl))))))
theorem s__law_all_variables (c : Cals P w K mg base lv C) {f : Addr} {cdv : Value} {A : Around} {outer : List PySem.Env} {s : Shared} {H : Hp} (o : Ok (A.deeper (envOfC "_law_all_variables" (defScope st__law_all_variables) s.heap.objs.size f cdv)) lv) :
    PSs (cxOf CX0 P w K mg base N__law_all_variables "_law_all_variables" (defScope st__law_all_variables) f cdv A outer s H E0).nox (defBody st__law_all_variables) (tS K [] (M163 C)) :=
 (pss_consM (ps_setLcM (i := 2) (own := [("_law_attribute", 3)]) rfl (by rfl) (by rfl) (by rfl) (tgs_name (by rfl) (by show 3 < 5; decide) (by decide)) rfl sc__law_all_variables.nd rfl rfl (sw_true rfl rfl rfl (by decide +kernel)) (pi_anyM (pe_o2 rfl rfl op_ixM (pe_ix ix_seq (pd_v (pv 1)) (pd_e (pe_c (.int _) pe_int)) (fun _ _ => rfl)))) (blkOk_by (own := [("_law_attribute", 3)]) (N := N__law_all_variables) (sc := defScope st__law_all_variables) (by decide +kernel)) (fun _ _ _ _ _ => (pg_name (i := 3) sc__law_all_variables.nd rfl (by first | exact Or.inl rfl | exact Or.inr rfl))) (fun _ _ _ _ _ => pts_yesM) (fun _ _ _ _ _ => (pe_tupM (pf_cons (pe_o2 rfl rfl op_ixM (pe_ix ix_seq (pd_v (pv 3)) (pd_e (pe_c (.int _) pe_int)) (fun _ _ => rfl))) (pf_cons (pe_fn o c.f154 rfl (by rfl) (pg_valM (pe_o2 rfl rfl op_ixM (pe_ix ix_seq (pd_v (pv 3)) (pd_e (pe_c (.int _) pe_int)) (fun _ _ => rfl))) pg_nilM)) pf_nil)))))
 (pss_consM (ps_forM (ws := [3]) PassesOwn.never rfl (pi_anyM (pe_o2 rfl rfl op_ixM (pe_ix ix_seq (pd_e (pe_fn o c.f162 rfl (by rfl) (pg_valM (pe_name (by rfl) (pv 0)) (pg_valM (pe_o2 rfl rfl op_ixM (pe_ix ix_seq (pd_v (pv 1)) (pd_e (pe_c (.int _) pe_int)) (fun _ _ => rfl))) pg_nilM)))) (pd_e (pe_c (.int _) pe_int)) (fun _ _ => rfl)))) (pg_name (i := 3) sc__law_all_variables.nd rfl (by first | exact Or.inl rfl | exact Or.inr rfl)) (tgs_name (by rfl) (by show 3 < 5; decide) (by decide))
 (pss_oneM (ps_exprM (pe_mu rfl rfl rfl om_app (pe_bm PySem.F.plainAttrs_list PySem.F.slot_list_append PySem.F.type_list_append mt_append (pv 2) (pf_cons (pe_tupM (pf_cons (pe_o2 rfl rfl op_addSM (pe_op op_add_str (pd_e (pe_c (.str _) pe_str)) (pd_e (pe_o2 rfl rfl op_ixM (pe_ix ix_seq (pd_v (pv 3)) (pd_e (pe_c (.int _) pe_int)) (fun _ _ => rfl)))))) (pf_cons (pe_fn o c.f154 rfl (by rfl) (pg_valM (pe_o2 rfl rfl op_ixM (pe_ix ix_seq (pd_v (pv 3)) (pd_e (pe_c (.int _) pe_int)) (fun _ _ => rfl))) pg_nilM)) pf_nil))) pf_nil))))))
 (pss_consM (ps_forM (ws := [4]) PassesOwn.never rfl (pi_anyM (pe_o2 rfl rfl op_ixM (pe_ix ix_seq (pd_v (pv 1)) (pd_e (pe_c (.int _) pe_int)) (fun _ _ => rfl)))) (pg_name (i := 4) sc__law_all_variables.nd rfl (by first | exact Or.inl rfl | exact Or.inr rfl)) (tgs_name (by rfl) (by show 4 < 5; decide) (by decide))
 (pss_oneM (ps_forM (ws := [3]) PassesOwn.never rfl (pi_anyM (pe_o2 rfl rfl op_ixM (pe_ix ix_seq (pd_e (pe_fn o c.f162 rfl (by rfl) (pg_valM (pe_name (by rfl) (pv 0)) (pg_valM (pe_o2 rfl rfl op_ixM (pe_ix ix_seq (pd_v (pv 4)) (pd_e (pe_c (.int _) pe_int)) (fun _ _ => rfl))) pg_nilM)))) (pd_e (pe_c (.int _) pe_int)) (fun _ _ => rfl)))) (pg_name (i := 3) sc__law_all_variables.nd rfl (by first | exact Or.inl rfl | exact Or.inr rfl)) (tgs_name (by rfl) (by show 3 < 5; decide) (by decide))
 (pss_oneM (ps_exprM (pe_mu rfl rfl rfl om_app (pe_bm PySem.F.plainAttrs_list PySem.F.slot_list_append PySem.F.type_list_append mt_append (pv 2) (pf_cons (pe_tupM (pf_cons (pe_o2 rfl rfl op_addSM (pe_op op_add_str (pd_e (pe_o2 rfl rfl op_addSM (pe_op op_add_str (pd_e (pe_o2 rfl rfl op_ixM (pe_ix ix_seq (pd_v (pv 4)) (pd_e (pe_c (.int _) pe_int)) (fun _ _ => rfl)))) (pd_e (pe_c (.str _) pe_str))))) (pd_e (pe_o2 rfl rfl op_ixM (pe_ix ix_seq (pd_v (pv 3)) (pd_e (pe_c (.int _) pe_int)) (fun _ _ => rfl)))))) (pf_cons (pe_fn o c.f154 rfl (by rfl) (pg_valM (pe_o2 rfl rfl op_ixM (pe_ix ix_seq (pd_v (pv 3)) (pd_e (pe_c (.int _) pe_int)) (fun _ _ => rfl))) pg_nilM)) pf_nil))) pf_nil))))))))
 (pss_oneM (ps_retM (pe_name (by rfl) (pv 2)))))))
theorem s__law_strange (c : Cals P w K mg base lv C) {f : Addr} {cdv : Value} {A : Around} {outer : List PySem.Env} {s : Shared} {H : Hp} (o : Ok (A.deeper (envOfC "_law_strange" (defScope st__law_strange) s.heap.objs.size f cdv)) lv) :
    PSs (cxOf CX0 P w K mg base N__law_strange "_law_strange" (defScope st__law_strange) f cdv A outer s H E0).nox (defBody st__law_strange) (tS K [] (M436 C)) :=
 (pss_consM (ps_forM (ws := [1]) PassesOwn.never rfl (pi_r1M rfl (pi_range1 (by rfl) c.free_range (pf_cons (pe_oc rfl oc_len (pe_callB call_len (by rfl) c.free_len PySem.boot_len (pa_consM (pd_v (pv 0)) pa_nilM))) pf_nil))) (pg_name (i := 1) sc__law_strange.nd rfl (by first | exact Or.inl rfl | exact Or.inr rfl)) (tgs_name (by rfl) (by show 1 < 2; decide) (by decide))
 (pss_oneM (ps_ifM (pt_o2 op_notInTM (pt_cmpR op_notIn_seq (pd_e (pe_o2 rfl rfl op_strMulM (pe_op op_strMul (pd_e (pe_c (.str _) pe_str)) (pd_e (pe_o2 rfl rfl op_addI (pe_op op_add (pd_v (pv 1)) (pd_e (pe_c (.int _) pe_int)))))))) (pd_v (pv 0)) (by rfl)))
 (pss_oneM (ps_retM (pe_o2 rfl rfl op_strMulM (pe_op op_strMul (pd_e (pe_c (.str _) pe_str)) (pd_e (pe_o2 rfl rfl op_addI (pe_op op_add (pd_v (pv 1)) (pd_e (pe_c (.int _) pe_int)))))))))
 pss_nilM)))
 (pss_oneM (ps_retM (pe_o2 rfl rfl op_strMulM (pe_op op_strMul (pd_e (pe_c (.str _) pe_str)) (pd_e (pe_o2 rfl rfl op_addI (pe_op op_add (pd_e (pe_oc rfl oc_len (pe_callB call_len (by rfl) c.free_len PySem.boot_len (pa_consM (pd_v (pv 0)) pa_nilM)))) (pd_e (pe_c (.int _) pe_int))))))))))
theorem s__law_refused (c : Cals P w K mg base lv C) {f : Addr} {cdv : Value} {A : Around} {outer : List PySem.Env} {s : Shared} {H : Hp} (o : Ok (A.deeper (envOfC "_law_refused" (defScope st__law_refused) s.heap.objs.size f cdv)) lv) :
    PSs (cxOf CX0 P w K mg base N__law_refused "_law_refused" (defScope st__law_refused) f cdv A outer s H E0).nox (defBody st__law_refused) (tS K [] (M1058 C)) :=
 (pss_consM (sxOk (ps_tryM rfl rfl sc__law_refused.nd takes_none5 (fun W2 pn xe tk hp => (pss_oneX (ps_exprX (pe_fnX o c.f1057 tk rfl (by rfl) (pg_valM (pe_name (by rfl) (pv 0)) (pg_valM (pe_name (by rfl) (pv 1)) pg_nilM)))))) (.named (i := 2) rfl rfl (by rfl) ⟨by rfl, by decide, .inl c.hb_UnknownComponent.choose_spec.1⟩ c.hb_UnknownComponent.choose_spec.2 (fun a oe cls d pn x hz hf hx hl => (hs_let (j := 3) sc__law_refused.nd (by rfl) rfl (by first | exact Or.inl rfl | exact Or.inr rfl) rfl (hv_or (hv_e (he_is (tb := [("UnknownComponent", false)]) (by rfl) c.free_isinstance hz hf hx rv_ref (hk_is (by rfl) hl (hk_cons (hk_c c.xk_UnknownComponent) hk_nil) (c.is_UnknownPort.choose_spec.2)) (pv 2) (pe_glob (by rfl) c.is_UnknownPort.choose_spec.1 rfl))) (hv_or (hv_e (he_is (tb := [("UnknownComponent", false)]) (by rfl) c.free_isinstance hz hf hx rv_ref (hk_is (by rfl) hl (hk_cons (hk_c c.xk_UnknownComponent) hk_nil) (c.is_UnknownVariable.choose_spec.2)) (pv 2) (pe_glob (by rfl) c.is_UnknownVariable.choose_spec.1 rfl))) (hv_one (hv_e (he_is (tb := [("UnknownComponent", false)]) (by rfl) c.free_isinstance hz hf hx rv_ref (hk_is (by rfl) hl (hk_cons (hk_c c.xk_UnknownComponent) hk_nil) (c.is_DuplicateComponent.choose_spec.2)) (pv 2) (pe_glob (by rfl) c.is_DuplicateComponent.choose_spec.1 rfl)))))) (hs_one (hs_retV (hv_and (hv_eq (hv_e (he_f hz hf hx (hk_of (R := fun y => ∀ C : Addr, mg y = some (.ref C) → XkC K C ∧ PySem.W.findIn K (.ref C) "name" = some none) (by rfl) hl (hk_cons (hk_f c.xk_UnknownComponent (by simp)) hk_nil)) (pv 2))) (hv_v (pv 1))) (hv_and (hv_e (he_is (tb := [("UnknownComponent", true)]) (by rfl) c.free_isinstance hz hf hx rv_ref (hk_is (by rfl) hl (hk_cons (hk_c c.xk_UnknownComponent) hk_nil) (c.is_SlotError.choose_spec.2)) (pv 2) (pe_glob (by rfl) c.is_SlotError.choose_spec.1 rfl))) (hv_and (hv_e (he_is (tb := [("UnknownComponent", true)]) (c := .ty "ValueError") (by rfl) c.free_isinstance hz hf hx rv_ty (hk_is (by rfl) hl (hk_cons (hk_c c.xk_UnknownComponent) hk_nil) c.ist_ValueError) (pv 2) (pe_bltn (by rfl) c.free_ValueError (by decide +kernel) rfl))) (hv_one (hv_not (hv_v (pv 3))))))))))) .nil)))
 (pss_oneM (ps_retM (pe_c (.bool _) pe_bl))))
theorem s_law (c : Cals P w K mg base lv C) {f : Addr} {cdv : Value} {A : Around} {outer : List PySem.Env} {s : Shared} {H : Hp} (o : Ok (A.deeper (envOfC "law" (defScope st_law) s.heap.objs.size f cdv)) lv) :
    PSs (cxOf CX0 P w K mg base N_law "law" (defScope st_law) f cdv A outer s H E0).nox (defBody st_law) (tS K [] (M1059 C)) :=
 (pss_consM (ps_setM (i := 1) sc_law.nd (by rfl) rfl (by first | exact Or.inl rfl | exact Or.inr rfl) (pe_fn o c.f4 rfl (by rfl) (pg_valM (pe_name (by rfl) (pv 0)) pg_nilM)))
 (pss_consM (ps_setM (i := 2) sc_law.nd (by rfl) rfl (by first | exact Or.inl rfl | exact Or.inr rfl) (pe_lstM (pf_cons (pe_fn o c.f395 rfl (by rfl) (pg_refM (pv 1) (pg_valM (pe_c (.int _) pe_int) pg_nilM))) (pf_cons (pe_fn o c.f395 rfl (by rfl) (pg_refM (pv 1) (pg_valM (pe_c (.int _) pe_int) pg_nilM))) pf_nil))))
 (pss_consM (ps_forM (ws := [3]) PassesOwn.never rfl (pi_r1M rfl (pi_range1 (by rfl) c.free_range (pf_cons (pe_c (.int _) pe_int) pf_nil))) (pg_name (i := 3) sc_law.nd rfl (by first | exact Or.inl rfl | exact Or.inr rfl)) (tgs_name (by rfl) (by show 3 < 12; decide) (by decide))
 (pss_consM (ps_setM (i := 4) sc_law.nd (by rfl) rfl (by first | exact Or.inl rfl | exact Or.inr rfl) (pe_o2 rfl rfl op_ixM (pe_ix ix_seq (pd_v (pv 2)) (pd_e (pe_o2 rfl rfl op_modM (pe_op op_mod (pd_e (pe_oc rfl oc_int (pe_callTy call_int1 (by rfl) c.free_int (by decide +kernel) (pa_consM (pd_v (pv 3)) pa_nilM)))) (pd_e (pe_c (.int _) pe_int))))) (fun _ _ => rfl))))
 (pss_consM (ps_setLcM (i := 5) (own := [("_law_component_here", 6)]) rfl (by rfl) (by rfl) (by rfl) (tgs_name (by rfl) (by show 6 < 12; decide) (by decide)) rfl sc_law.nd rfl rfl (sw_true rfl rfl rfl (by decide +kernel)) (pi_anyM (pe_o2 rfl rfl op_ixM (pe_ix ix_seq (pd_v (pv 4)) (pd_e (pe_c (.int _) pe_int)) (fun _ _ => rfl)))) (blkOk_by (own := [("_law_component_here", 6)]) (N := N_law) (sc := defScope st_law) (by decide +kernel)) (fun _ _ _ _ _ => (pg_name (i := 6) sc_law.nd rfl (by first | exact Or.inl rfl | exact Or.inr rfl))) (fun _ _ _ _ _ => pts_yesM) (fun _ _ _ _ _ => (pe_o2 rfl rfl op_ixM (pe_ix ix_seq (pd_v (pv 6)) (pd_e (pe_c (.int _) pe_int)) (fun _ _ => rfl)))))
 (pss_consM (ps_forM (ws := [6]) PassesOwn.never rfl (pi_anyM (pe_o2 rfl rfl op_ixM (pe_ix ix_seq (pd_v (pv 4)) (pd_e (pe_c (.int _) pe_int)) (fun _ _ => rfl)))) (pg_name (i := 6) sc_law.nd rfl (by first | exact Or.inl rfl | exact Or.inr rfl)) (tgs_name (by rfl) (by show 6 < 12; decide) (by decide))
 (pss_consM (ps_setM (i := 7) sc_law.nd (by rfl) rfl (by first | exact Or.inl rfl | exact Or.inr rfl) (pe_fnC o c.f1057 rfl (by rfl) (pg_valM (pe_name (by rfl) (pv 4)) (pg_valM (pe_o2 rfl rfl op_ixM (pe_ix ix_seq (pd_v (pv 6)) (pd_e (pe_c (.int _) pe_int)) (fun _ _ => rfl))) pg_nilM))))
 (pss_consM (ps_setLcM (i := 8) (own := [("_law_pair", 10)]) rfl (by rfl) (by rfl) (by rfl) (tgs_name (by rfl) (by show 10 < 12; decide) (by decide)) rfl sc_law.nd rfl rfl (sw_true rfl rfl rfl (by decide +kernel)) (pi_anyM (pe_fn o c.f163 rfl (by rfl) (pg_valM (pe_name (by rfl) (pv 4)) (pg_valM (pe_name (by rfl) (pv 6)) pg_nilM)))) (blkOk_by (own := [("_law_pair", 10)]) (N := N_law) (sc := defScope st_law) (by decide +kernel)) (fun _ _ _ _ _ => (pg_name (i := 10) sc_law.nd rfl (by first | exact Or.inl rfl | exact Or.inr rfl))) (fun _ _ _ _ _ => pts_yesM) (fun _ _ _ _ _ => (pe_tupM (pf_cons (pe_o2 rfl rfl op_ixM (pe_ix ix_seq (pd_v (pv 10)) (pd_e (pe_c (.int _) pe_int)) (fun _ _ => rfl))) (pf_cons (pe_oc rfl oc_tuple (pe_callTy call_tuple_of (by rfl) c.free_tuple (by decide +kernel) (pa_consM (pd_e (pe_o2 rfl rfl op_ixM (pe_ix ix_seq (pd_v (pv 10)) (pd_e (pe_c (.int _) pe_int)) (fun _ _ => rfl)))) pa_nilM))) pf_nil)))))
 (pss_consM (ps_ifM (PW.pt (pw_orM (pt_notM (pt_truM (pd_e (pe_o1 rfl (op_isi kit_tuple) (pe_isi (n := "tuple") (pd_v (pv 7)) (by rfl) c.free_isinstance (by decide +kernel) (by rfl) c.free_tuple (by decide +kernel)))))) (pw_or1 (pt_o2 op_neM (pt_cmpR (op_neX o.rm.units) (pd_e (pe_oc rfl oc_repr (pe_callB (call_repr o.gd o.un66) (by rfl) c.free_repr (by decide +kernel) (pa_consM (pd_e (pe_oc rfl oc_list (pe_callTy call_list_of (by rfl) c.free_list (by decide +kernel) (pa_consM (pd_v (pv 7)) pa_nilM)))) pa_nilM)))) (pd_e (pe_oc rfl oc_repr (pe_callB (call_repr o.gd o.un66) (by rfl) c.free_repr (by decide +kernel) (pa_consM (pd_v (pv 8)) pa_nilM)))) (nomark _))))))
 (pss_oneM (ps_retM (pe_c (.bool _) pe_bl)))
 pss_nilM)
 (pss_oneM (ps_ifM (pt_o2 op_cmpM (pt_cmpR op_gt (pd_e (pe_oc rfl oc_len (pe_callB call_len (by rfl) c.free_len PySem.boot_len (pa_consM (pd_e (pe_lcM (own := [("_law_pair", 10)]) rfl (by rfl) (by rfl) (tgs_name (by rfl) (by show 10 < 12; decide) (by decide)) rfl sc_law.nd (pi_anyM (pe_name (by rfl) (pv 7))) (blkOk_by (own := [("_law_pair", 10)]) (N := N_law) (sc := defScope st_law) (by decide +kernel)) (fun _ _ _ _ _ => (pg_name (i := 10) sc_law.nd rfl (by first | exact Or.inl rfl | exact Or.inr rfl))) (fun _ _ _ _ _ => (pts_oneM (pt_o2 op_cmpM (pt_cmpR op_gt (pd_e (pe_cn (pe_bm PySem.F.plainAttrs_list PySem.F.slot_list_count PySem.F.type_list_count (mt_cntD (Nat.lt_of_le_of_lt (Nat.add_le_add_left (by decide) _) o.un65)) (pe_lcM (own := [("_law_other", 11)]) rfl (by rfl) (by rfl) (tgs_name (by rfl) (by show 11 < 12; decide) (by decide)) rfl sc_law.nd (pi_anyM (pe_name (by rfl) (pv 7))) (blkOk_by (own := [("_law_other", 11)]) (N := N_law) (sc := { kind := .function, names := [(".0", .local), ("_law_pair", .local), ("_law_told", .cell)], isGenerator := false, isCoroutine := false }) (by decide +kernel)) (fun _ _ _ _ _ => (pg_name (i := 11) sc_law.nd rfl (by first | exact Or.inl rfl | exact Or.inr rfl))) (fun _ _ _ _ _ => pts_yesM) (fun _ _ _ _ _ => (pe_o2 rfl rfl op_ixM (pe_ix ix_seq (pd_v (pv 11)) (pd_e (pe_c (.int _) pe_int)) (fun _ _ => rfl))))) (pa_cons (pe_o2 rfl rfl op_ixM (pe_ix ix_seq (pd_v (pv 10)) (pd_e (pe_c (.int _) pe_int)) (fun _ _ => rfl))) pa_nil)))) (pd_e (pe_c (.int _) pe_int)) (nomark _))))) (fun _ _ _ _ _ => (pe_name (by rfl) (pv 10))))) pa_nilM)))) (pd_e (pe_c (.int _) pe_int)) (nomark _)))
 (pss_oneM (ps_retM (pe_c (.bool _) pe_bl)))
 pss_nilM))))))
 (pss_consM (ps_setM (i := 9) sc_law.nd (by rfl) rfl (by first | exact Or.inl rfl | exact Or.inr rfl) (pe_fn o c.f436 rfl (by rfl) (pg_valM (pe_name (by rfl) (pv 5)) pg_nilM)))
 (pss_consM (ps_ifM (PW.pt (pw_andM (pt_o2 op_eqM (pt_cmpR (op_eqX o.rm.units) (pd_e (pe_fn o c.f5 rfl (by rfl) (pg_refM (pv 1) (pg_valM (pe_c (.int _) pe_int) pg_nilM)))) (pd_e (pe_c (.int _) pe_int)) (nomark _))) (pw_and1 (pt_o2 op_notInTM (pt_cmpR op_notIn_seq (pd_e (pe_o2 rfl rfl op_ixM (pe_ix ix_seq (pd_e (pe_o2 rfl rfl op_ixM (pe_ix ix_seq (pd_e (pe_o2 rfl rfl op_ixM (pe_ix ix_seq (pd_v (pv 4)) (pd_e (pe_c (.int _) pe_int)) (fun _ _ => rfl)))) (pd_e (pe_c (.int _) pe_int)) (fun _ _ => rfl)))) (pd_e (pe_c (.int _) pe_int)) (fun _ _ => rfl)))) (pd_v (pv 5)) (by rfl))))))
 (pss_oneM (ps_setM (i := 9) sc_law.nd (by rfl) rfl (by first | exact Or.inl rfl | exact Or.inr rfl) (pe_o2 rfl rfl op_ixM (pe_ix ix_seq (pd_e (pe_o2 rfl rfl op_ixM (pe_ix ix_seq (pd_e (pe_o2 rfl rfl op_ixM (pe_ix ix_seq (pd_v (pv 4)) (pd_e (pe_c (.int _) pe_int)) (fun _ _ => rfl)))) (pd_e (pe_c (.int _) pe_int)) (fun _ _ => rfl)))) (pd_e (pe_c (.int _) pe_int)) (fun _ _ => rfl)))))
 pss_nilM)
 (pss_oneM (ps_ifM (pt_notM (pt_truM (pd_e (pe_fn o c.f1058 rfl (by rfl) (pg_valM (pe_name (by rfl) (pv 4)) (pg_valM (pe_name (by rfl) (pv 9)) pg_nilM))))))
 (pss_oneM (ps_retM (pe_c (.bool _) pe_bl)))
 pss_nilM))))))))
 (pss_oneM (ps_retM (pe_c (.bool _) pe_bl))))))
structure Hd (P : Program) (K : KK) (mg : Str → Option Value) : Prop where
  free_ValueError : mg "ValueError" = none
  free_abs : mg "abs" = none
  free_int : mg "int" = none
  free_isinstance : mg "isinstance" = none
  free_len : mg "len" = none
  free_list : mg "list" = none
  free_max : mg "max" = none
  free_range : mg "range" = none
  free_repr : mg "repr" = none
  free_str : mg "str" = none
  free_super : mg "super" = none
  free_tuple : mg "tuple" = none
  xk_UnknownComponent : ∃ C : Addr, mg "UnknownComponent" = some (.ref C) ∧ Xc K P C ["name"] ∧ XkC K C
  hb_UnknownComponent : ∃ C : Addr, mg "UnknownComponent" = some (.ref C) ∧ ∀ (y : Str) (b : Bool), List.lookup y ([("UnknownComponent", true)] : List (Str × Bool)) = some b → ∀ D : Addr, mg y = some (.ref D) → PySem.W.exmOne K (.ref D) (.ref C) = some b
  is_DuplicateComponent : ∃ C : Addr, mg "DuplicateComponent" = some (.ref C) ∧ ∀ (y : Str) (b : Bool), List.lookup y ([("UnknownComponent", false)] : List (Str × Bool)) = some b → ∀ D : Addr, mg y = some (.ref D) → PySem.W.kitOne K (.ref D) (.ref C) = some b
  is_SlotError : ∃ C : Addr, mg "SlotError" = some (.ref C) ∧ ∀ (y : Str) (b : Bool), List.lookup y ([("UnknownComponent", true)] : List (Str × Bool)) = some b → ∀ D : Addr, mg y = some (.ref D) → PySem.W.kitOne K (.ref D) (.ref C) = some b
  is_UnknownPort : ∃ C : Addr, mg "UnknownPort" = some (.ref C) ∧ ∀ (y : Str) (b : Bool), List.lookup y ([("UnknownComponent", false)] : List (Str × Bool)) = some b → ∀ D : Addr, mg y = some (.ref D) → PySem.W.kitOne K (.ref D) (.ref C) = some b
  is_UnknownVariable : ∃ C : Addr, mg "UnknownVariable" = some (.ref C) ∧ ∀ (y : Str) (b : Bool), List.lookup y ([("UnknownComponent", false)] : List (Str × Bool)) = some b → ∀ D : Addr, mg y = some (.ref D) → PySem.W.kitOne K (.ref D) (.ref C) = some b
  ist_ValueError : ∀ (y : Str) (b : Bool), List.lookup y ([("UnknownComponent", true)] : List (Str × Bool)) = some b → ∀ D : Addr, mg y = some (.ref D) → PySem.W.kitOne K (.ref D) (.type "ValueError") = some b
  d124 : ∃ (f : Addr) (fd : FuncData), mg "values_of" = some (.ref f) ∧ FunD K "values_of" "values_of" (defArgs st_values_of) (defBody st_values_of) (defScope st_values_of) [] [] f fd
  d126 : ∃ (f : Addr) (fd : FuncData), mg "domains_of" = some (.ref f) ∧ FunD K "domains_of" "domains_of" (defArgs st_domains_of) (defBody st_domains_of) (defScope st_domains_of) [] [] f fd
  d1056 : ∃ (f : Addr) (fd : FuncData), mg "component_of" = some (.ref f) ∧ FunD K "component_of" "component_of" (defArgs st_component_of) (defBody st_component_of) (defScope st_component_of) [] [] f fd
  d1057 : ∃ (f : Addr) (fd : FuncData), mg "variables_of" = some (.ref f) ∧ FunD K "variables_of" "variables_of" (defArgs st_variables_of) (defBody st_variables_of) (defScope st_variables_of) [] [] f fd
  d4 : ∃ (f : Addr) (fd : FuncData), mg "_law_tape" = some (.ref f) ∧ FunD K "_law_tape" "_law_tape" (defArgs st__law_tape) (defBody st__law_tape) (defScope st__law_tape) [] [] f fd
  d5 : ∃ (f : Addr) (fd : FuncData), mg "_law_draw" = some (.ref f) ∧ FunD K "_law_draw" "_law_draw" (defArgs st__law_draw) (defBody st__law_draw) (defScope st__law_draw) [] [] f fd
  d38 : ∃ (f : Addr) (fd : FuncData), mg "_law_word" = some (.ref f) ∧ FunD K "_law_word" "_law_word" (defArgs st__law_word) (defBody st__law_word) (defScope st__law_word) [] [] f fd
  d39 : ∃ (f : Addr) (fd : FuncData), mg "_law_words" = some (.ref f) ∧ FunD K "_law_words" "_law_words" (defArgs st__law_words) (defBody st__law_words) (defScope st__law_words) [] [] f fd
  d41 : ∃ (f : Addr) (fd : FuncData), mg "_law_option" = some (.ref f) ∧ FunD K "_law_option" "_law_option" (defArgs st__law_option) (defBody st__law_option) (defScope st__law_option) [] [] f fd
  d42 : ∃ (f : Addr) (fd : FuncData), mg "_law_options" = some (.ref f) ∧ FunD K "_law_options" "_law_options" (defArgs st__law_options) (defBody st__law_options) (defScope st__law_options) [] [] f fd
  d43 : ∃ (f : Addr) (fd : FuncData), mg "_law_leaf" = some (.ref f) ∧ FunD K "_law_leaf" "_law_leaf" (defArgs st__law_leaf) (defBody st__law_leaf) (defScope st__law_leaf) [] [] f fd
  d415 : ∃ (f : Addr) (fd : FuncData), mg "_law_expression" = some (.ref f) ∧ FunD K "_law_expression" "_law_expression" (defArgs st__law_expression) (defBody st__law_expression) (defScope st__law_expression) [] [] f fd
  d154 : ∃ (f : Addr) (fd : FuncData), mg "_law_column" = some (.ref f) ∧ FunD K "_law_column" "_law_column" (defArgs st__law_column) (defBody st__law_column) (defScope st__law_column) [] [] f fd
  d155 : ∃ (f : Addr) (fd : FuncData), mg "_law_many" = some (.ref f) ∧ FunD K "_law_many" "_law_many" (defArgs st__law_many) (defBody st__law_many) (defScope st__law_many) [] [] f fd
  d156 : ∃ (f : Addr) (fd : FuncData), mg "_law_domain" = some (.ref f) ∧ FunD K "_law_domain" "_law_domain" (defArgs st__law_domain) (defBody st__law_domain) (defScope st__law_domain) [] [] f fd
  d157 : ∃ (f : Addr) (fd : FuncData), mg "_law_attributes" = some (.ref f) ∧ FunD K "_law_attributes" "_law_attributes" (defArgs st__law_attributes) (defBody st__law_attributes) (defScope st__law_attributes) [] [] f fd
  d158 : ∃ (f : Addr) (fd : FuncData), mg "_law_table" = some (.ref f) ∧ FunD K "_law_table" "_law_table" (defArgs st__law_table) (defBody st__law_table) (defScope st__law_table) [] [] f fd
  d394 : ∃ (f : Addr) (fd : FuncData), mg "_law_component" = some (.ref f) ∧ FunD K "_law_component" "_law_component" (defArgs st__law_component) (defBody st__law_component) (defScope st__law_component) [] [] f fd
  d395 : ∃ (f : Addr) (fd : FuncData), mg "_law_definition" = some (.ref f) ∧ FunD K "_law_definition" "_law_definition" (defArgs st__law_definition) (defBody st__law_definition) (defScope st__law_definition) [] [] f fd
  d396 : ∃ (f : Addr) (fd : FuncData), mg "_law_defined" = some (.ref f) ∧ FunD K "_law_defined" "_law_defined" (defArgs st__law_defined) (defBody st__law_defined) (defScope st__law_defined) [] [] f fd
  d162 : ∃ (f : Addr) (fd : FuncData), mg "_law_port" = some (.ref f) ∧ FunD K "_law_port" "_law_port" (defArgs st__law_port) (defBody st__law_port) (defScope st__law_port) [] [] f fd
  d163 : ∃ (f : Addr) (fd : FuncData), mg "_law_all_variables" = some (.ref f) ∧ FunD K "_law_all_variables" "_law_all_variables" (defArgs st__law_all_variables) (defBody st__law_all_variables) (defScope st__law_all_variables) [] [] f fd
  d436 : ∃ (f : Addr) (fd : FuncData), mg "_law_strange" = some (.ref f) ∧ FunD K "_law_strange" "_law_strange" (defArgs st__law_strange) (defBody st__law_strange) (defScope st__law_strange) [] [] f fd
  d1058 : ∃ (f : Addr) (fd : FuncData), mg "_law_refused" = some (.ref f) ∧ FunD K "_law_refused" "_law_refused" (defArgs st__law_refused) (defBody st__law_refused) (defScope st__law_refused) [] [] f fd
  d1059 : ∃ (f : Addr) (fd : FuncData), mg "law" = some (.ref f) ∧ FunD K "law" "law" (defArgs st_law) (defBody st_law) (defScope st_law) [] [] f fd
theorem z_values_of (h : Hd P K mg) : Cal P w K mg base 0 (callN 0) "values_of" 124 1 := by
  obtain ⟨f, fd, hm, F⟩ := h.d124
  exact .zero (fun _ => rfl) hm F.kp (F.bindsN (ps := ps_values_of) fun _ _ _ _ _ _ us hl => match us, hl with | [_], _ => rfl) rfl
theorem u_values_of (h : Hd P K mg) (c : Cals P w K mg base lv (callN lv)) : Cal P w K mg base (lv + 1) (callN (lv + 1)) "values_of" 124 1 := by
  obtain ⟨f, fd, hm, F⟩ := h.d124
  exact .succ hm F (F.bindsN (ps := ps_values_of) fun _ _ _ _ _ _ us hl => match us, hl with | [_], _ => rfl) sc_values_of rfl rfl rfl fun Pl hP cdv A outer s H o => one_P hP ▸ s_values_of c o
theorem z_domains_of (h : Hd P K mg) : Cal P w K mg base 0 (callN 0) "domains_of" 126 2 := by
  obtain ⟨f, fd, hm, F⟩ := h.d126
  exact .zero (fun _ => rfl) hm F.kp (F.bindsN (ps := ps_domains_of) fun _ _ _ _ _ _ us hl => match us, hl with | [_, _], _ => rfl) rfl
theorem u_domains_of (h : Hd P K mg) (c : Cals P w K mg base lv (callN lv)) : Cal P w K mg base (lv + 1) (callN (lv + 1)) "domains_of" 126 2 := by
  obtain ⟨f, fd, hm, F⟩ := h.d126
  exact .succ hm F (F.bindsN (ps := ps_domains_of) fun _ _ _ _ _ _ us hl => match us, hl with | [_, _], _ => rfl) sc_domains_of rfl rfl rfl fun Pl hP cdv A outer s H o => one_P hP ▸ s_domains_of c o
theorem z_component_of (h : Hd P K mg) : CalX P w K mg base 0 (callN 0) "component_of" 1056 2 := by
  obtain ⟨f, fd, hm, F⟩ := h.d1056
  exact .zero (fun _ => rfl) hm F.kp (F.bindsN (ps := ps_component_of) fun _ _ _ _ _ _ us hl => match us, hl with | [_, _], _ => rfl) rfl
theorem u_component_of (h : Hd P K mg) (c : Cals P w K mg base lv (callN lv)) : CalX P w K mg base (lv + 1) (callN (lv + 1)) "component_of" 1056 2 := by
  obtain ⟨f, fd, hm, F⟩ := h.d1056
  exact .succ hm F (F.bindsN (ps := ps_component_of) fun _ _ _ _ _ _ us hl => match us, hl with | [_, _], _ => rfl) sc_component_of rfl rfl rfl fun Pl hP cdv A outer s H E o => one_P hP ▸ s_component_of c o
theorem z_variables_of (h : Hd P K mg) : CalX P w K mg base 0 (callN 0) "variables_of" 1057 2 := by
  obtain ⟨f, fd, hm, F⟩ := h.d1057
  exact .zero (fun _ => rfl) hm F.kp (F.bindsN (ps := ps_variables_of) fun _ _ _ _ _ _ us hl => match us, hl with | [_, _], _ => rfl) rfl
theorem u_variables_of (h : Hd P K mg) (c : Cals P w K mg base lv (callN lv)) : CalX P w K mg base (lv + 1) (callN (lv + 1)) "variables_of" 1057 2 := by
  obtain ⟨f, fd, hm, F⟩ := h.d1057
  exact .succ hm F (F.bindsN (ps := ps_variables_of) fun _ _ _ _ _ _ us hl => match us, hl with | [_, _], _ => rfl) sc_variables_of rfl rfl rfl fun Pl hP cdv A outer s H E o => one_P hP ▸ s_variables_of c o
theorem z__law_tape (h : Hd P K mg) : Cal P w K mg base 0 (callN 0) "_law_tape" 4 1 := by
  obtain ⟨f, fd, hm, F⟩ := h.d4
  exact .zero (fun _ => rfl) hm F.kp (F.bindsN (ps := ps__law_tape) fun _ _ _ _ _ _ us hl => match us, hl with | [_], _ => rfl) rfl
theorem u__law_tape (h : Hd P K mg) (c : Cals P w K mg base lv (callN lv)) : Cal P w K mg base (lv + 1) (callN (lv + 1)) "_law_tape" 4 1 := by
  obtain ⟨f, fd, hm, F⟩ := h.d4
  exact .succ hm F (F.bindsN (ps := ps__law_tape) fun _ _ _ _ _ _ us hl => match us, hl with | [_], _ => rfl) sc__law_tape rfl rfl rfl fun Pl hP cdv A outer s H o => one_P hP ▸ s__law_tape c o
theorem z__law_draw (h : Hd P K mg) : Cal P w K mg base 0 (callN 0) "_law_draw" 5 2 := by
  obtain ⟨f, fd, hm, F⟩ := h.d5
  exact .zero (fun _ => rfl) hm F.kp (F.bindsN (ps := ps__law_draw) fun _ _ _ _ _ _ us hl => match us, hl with | [_, _], _ => rfl) rfl
theorem u__law_draw (h : Hd P K mg) (c : Cals P w K mg base lv (callN lv)) : Cal P w K mg base (lv + 1) (callN (lv + 1)) "_law_draw" 5 2 := by
  obtain ⟨f, fd, hm, F⟩ := h.d5
  exact .succ hm F (F.bindsN (ps := ps__law_draw) fun _ _ _ _ _ _ us hl => match us, hl with | [_, _], _ => rfl) sc__law_draw rfl rfl rfl fun Pl hP cdv A outer s H o => one_P hP ▸ s__law_draw c o
theorem z__law_word (h : Hd P K mg) : Cal P w K mg base 0 (callN 0) "_law_word" 38 2 := by
  obtain ⟨f, fd, hm, F⟩ := h.d38
  exact .zero (fun _ => rfl) hm F.kp (F.bindsN (ps := ps__law_word) fun _ _ _ _ _ _ us hl => match us, hl with | [_, _], _ => rfl) rfl
theorem u__law_word (h : Hd P K mg) (c : Cals P w K mg base lv (callN lv)) : Cal P w K mg base (lv + 1) (callN (lv + 1)) "_law_word" 38 2 := by
  obtain ⟨f, fd, hm, F⟩ := h.d38
  exact .succ hm F (F.bindsN (ps := ps__law_word) fun _ _ _ _ _ _ us hl => match us, hl with | [_, _], _ => rfl) sc__law_word rfl rfl rfl fun Pl hP cdv A outer s H o => one_P hP ▸ s__law_word c o
theorem z__law_words (h : Hd P K mg) : Cal P w K mg base 0 (callN 0) "_law_words" 39 2 := by
  obtain ⟨f, fd, hm, F⟩ := h.d39
  exact .zero (fun _ => rfl) hm F.kp (F.bindsN (ps := ps__law_words) fun _ _ _ _ _ _ us hl => match us, hl with | [_, _], _ => rfl) rfl
theorem u__law_words (h : Hd P K mg) (c : Cals P w K mg base lv (callN lv)) : Cal P w K mg base (lv + 1) (callN (lv + 1)) "_law_words" 39 2 := by
  obtain ⟨f, fd, hm, F⟩ := h.d39
  exact .succ hm F (F.bindsN (ps := ps__law_words) fun _ _ _ _ _ _ us hl => match us, hl with | [_, _], _ => rfl) sc__law_words rfl rfl rfl fun Pl hP cdv A outer s H o => one_P hP ▸ s__law_words c o
theorem z__law_option (h : Hd P K mg) : Cal P w K mg base 0 (callN 0) "_law_option" 41 1 := by
  obtain ⟨f, fd, hm, F⟩ := h.d41
  exact .zero (fun _ => rfl) hm F.kp (F.bindsN (ps := ps__law_option) fun _ _ _ _ _ _ us hl => match us, hl with | [_], _ => rfl) rfl
theorem u__law_option (h : Hd P K mg) (c : Cals P w K mg base lv (callN lv)) : Cal P w K mg base (lv + 1) (callN (lv + 1)) "_law_option" 41 1 := by
  obtain ⟨f, fd, hm, F⟩ := h.d41
  exact .succ hm F (F.bindsN (ps := ps__law_option) fun _ _ _ _ _ _ us hl => match us, hl with | [_], _ => rfl) sc__law_option rfl rfl rfl fun Pl hP cdv A outer s H o => one_P hP ▸ s__law_option c o
theorem z__law_options (h : Hd P K mg) : Cal P w K mg base 0 (callN 0) "_law_options" 42 1 := by
  obtain ⟨f, fd, hm, F⟩ := h.d42
  exact .zero (fun _ => rfl) hm F.kp (F.bindsN (ps := ps__law_options) fun _ _ _ _ _ _ us hl => match us, hl with | [_], _ => rfl) rfl
theorem u__law_options (h : Hd P K mg) (c : Cals P w K mg base lv (callN lv)) : Cal P w K mg base (lv + 1) (callN (lv + 1)) "_law_options" 42 1 := by
  obtain ⟨f, fd, hm, F⟩ := h.d42
  exact .succ hm F (F.bindsN (ps := ps__law_options) fun _ _ _ _ _ _ us hl => match us, hl with | [_], _ => rfl) sc__law_options rfl rfl rfl fun Pl hP cdv A outer s H o => one_P hP ▸ s__law_options c o
theorem z__law_leaf (h : Hd P K mg) : Cal P w K mg base 0 (callN 0) "_law_leaf" 43 4 := by
  obtain ⟨f, fd, hm, F⟩ := h.d43
  exact .zero (fun _ => rfl) hm F.kp (F.bindsN (ps := ps__law_leaf) fun _ _ _ _ _ _ us hl => match us, hl with | [_, _, _, _], _ => rfl) rfl
theorem u__law_leaf (h : Hd P K mg) (c : Cals P w K mg base lv (callN lv)) : Cal P w K mg base (lv + 1) (callN (lv + 1)) "_law_leaf" 43 4 := by
  obtain ⟨f, fd, hm, F⟩ := h.d43
  exact .succ hm F (F.bindsN (ps := ps__law_leaf) fun _ _ _ _ _ _ us hl => match us, hl with | [_, _, _, _], _ => rfl) sc__law_leaf rfl rfl rfl fun Pl hP cdv A outer s H o => one_P hP ▸ s__law_leaf c o
theorem z__law_expression (h : Hd P K mg) : Cal P w K mg base 0 (callN 0) "_law_expression" 415 6 := by
  obtain ⟨f, fd, hm, F⟩ := h.d415
  exact .zero (fun _ => rfl) hm F.kp (F.bindsN (ps := ps__law_expression) fun _ _ _ _ _ _ us hl => match us, hl with | [_, _, _, _, _, _], _ => rfl) rfl
theorem u__law_expression (h : Hd P K mg) (c : Cals P w K mg base lv (callN lv)) : Cal P w K mg base (lv + 1) (callN (lv + 1)) "_law_expression" 415 6 := by
  obtain ⟨f, fd, hm, F⟩ := h.d415
  exact .succ hm F (F.bindsN (ps := ps__law_expression) fun _ _ _ _ _ _ us hl => match us, hl with | [_, _, _, _, _, _], _ => rfl) sc__law_expression rfl rfl rfl fun Pl hP cdv A outer s H o => one_P hP ▸ s__law_expression c o
theorem z__law_column (h : Hd P K mg) : Cal P w K mg base 0 (callN 0) "_law_column" 154 1 := by
  obtain ⟨f, fd, hm, F⟩ := h.d154
  exact .zero (fun _ => rfl) hm F.kp (F.bindsN (ps := ps__law_column) fun _ _ _ _ _ _ us hl => match us, hl with | [_], _ => rfl) rfl
theorem u__law_column (h : Hd P K mg) (c : Cals P w K mg base lv (callN lv)) : Cal P w K mg base (lv + 1) (callN (lv + 1)) "_law_column" 154 1 := by
  obtain ⟨f, fd, hm, F⟩ := h.d154
  exact .succ hm F (F.bindsN (ps := ps__law_column) fun _ _ _ _ _ _ us hl => match us, hl with | [_], _ => rfl) sc__law_column rfl rfl rfl fun Pl hP cdv A outer s H o => one_P hP ▸ s__law_column c o
theorem z__law_many (h : Hd P K mg) : Cal P w K mg base 0 (callN 0) "_law_many" 155 1 := by
  obtain ⟨f, fd, hm, F⟩ := h.d155
  exact .zero (fun _ => rfl) hm F.kp (F.bindsN (ps := ps__law_many) fun _ _ _ _ _ _ us hl => match us, hl with | [_], _ => rfl) rfl
theorem u__law_many (h : Hd P K mg) (c : Cals P w K mg base lv (callN lv)) : Cal P w K mg base (lv + 1) (callN (lv + 1)) "_law_many" 155 1 := by
  obtain ⟨f, fd, hm, F⟩ := h.d155
  exact .succ hm F (F.bindsN (ps := ps__law_many) fun _ _ _ _ _ _ us hl => match us, hl with | [_], _ => rfl) sc__law_many rfl rfl rfl fun Pl hP cdv A outer s H o => one_P hP ▸ s__law_many c o
theorem z__law_domain (h : Hd P K mg) : Cal P w K mg base 0 (callN 0) "_law_domain" 156 3 := by
  obtain ⟨f, fd, hm, F⟩ := h.d156
  exact .zero (fun _ => rfl) hm F.kp (F.bindsN (ps := ps__law_domain) fun _ _ _ _ _ _ us hl => match us, hl with | [_, _, _], _ => rfl) rfl
theorem u__law_domain (h : Hd P K mg) (c : Cals P w K mg base lv (callN lv)) : Cal P w K mg base (lv + 1) (callN (lv + 1)) "_law_domain" 156 3 := by
  obtain ⟨f, fd, hm, F⟩ := h.d156
  exact .succ hm F (F.bindsN (ps := ps__law_domain) fun _ _ _ _ _ _ us hl => match us, hl with | [_, _, _], _ => rfl) sc__law_domain rfl rfl rfl fun Pl hP cdv A outer s H o => one_P hP ▸ s__law_domain c o
theorem z__law_attributes (h : Hd P K mg) : Cal P w K mg base 0 (callN 0) "_law_attributes" 157 5 := by
  obtain ⟨f, fd, hm, F⟩ := h.d157
  exact .zero (fun _ => rfl) hm F.kp (F.bindsN (ps := ps__law_attributes) fun _ _ _ _ _ _ us hl => match us, hl with | [_, _, _, _, _], _ => rfl) rfl
theorem u__law_attributes (h : Hd P K mg) (c : Cals P w K mg base lv (callN lv)) : Cal P w K mg base (lv + 1) (callN (lv + 1)) "_law_attributes" 157 5 := by
  obtain ⟨f, fd, hm, F⟩ := h.d157
  exact .succ hm F (F.bindsN (ps := ps__law_attributes) fun _ _ _ _ _ _ us hl => match us, hl with | [_, _, _, _, _], _ => rfl) sc__law_attributes rfl rfl rfl fun Pl hP cdv A outer s H o => one_P hP ▸ s__law_attributes c o
theorem z__law_table (h : Hd P K mg) : Cal P w K mg base 0 (callN 0) "_law_table" 158 3 := by
  obtain ⟨f, fd, hm, F⟩ := h.d158
  exact .zero (fun _ => rfl) hm F.kp (F.bindsN (ps := ps__law_table) fun _ _ _ _ _ _ us hl => match us, hl with | [_, _, _], _ => rfl) rfl
theorem u__law_table (h : Hd P K mg) (c : Cals P w K mg base lv (callN lv)) : Cal P w K mg base (lv + 1) (callN (lv + 1)) "_law_table" 158 3 := by
  obtain ⟨f, fd, hm, F⟩ := h.d158
  exact .succ hm F (F.bindsN (ps := ps__law_table) fun _ _ _ _ _ _ us hl => match us, hl with | [_, _, _], _ => rfl) sc__law_table rfl rfl rfl fun Pl hP cdv A outer s H o => one_P hP ▸ s__law_table c o
theorem z__law_component (h : Hd P K mg) : Cal P w K mg base 0 (callN 0) "_law_component" 394 6 := by
  obtain ⟨f, fd, hm, F⟩ := h.d394
  exact .zero (fun _ => rfl) hm F.kp (F.bindsN (ps := ps__law_component) fun _ _ _ _ _ _ us hl => match us, hl with | [_, _, _, _, _, _], _ => rfl) rfl
theorem u__law_component (h : Hd P K mg) (c : Cals P w K mg base lv (callN lv)) : Cal P w K mg base (lv + 1) (callN (lv + 1)) "_law_component" 394 6 := by
  obtain ⟨f, fd, hm, F⟩ := h.d394
  exact .succ hm F (F.bindsN (ps := ps__law_component) fun _ _ _ _ _ _ us hl => match us, hl with | [_, _, _, _, _, _], _ => rfl) sc__law_component rfl rfl rfl fun Pl hP cdv A outer s H o => one_P hP ▸ s__law_component c o
theorem z__law_definition (h : Hd P K mg) : Cal P w K mg base 0 (callN 0) "_law_definition" 395 2 := by
  obtain ⟨f, fd, hm, F⟩ := h.d395
  exact .zero (fun _ => rfl) hm F.kp (F.bindsN (ps := ps__law_definition) fun _ _ _ _ _ _ us hl => match us, hl with | [_, _], _ => rfl) rfl
theorem u__law_definition (h : Hd P K mg) (c : Cals P w K mg base lv (callN lv)) : Cal P w K mg base (lv + 1) (callN (lv + 1)) "_law_definition" 395 2 := by
  obtain ⟨f, fd, hm, F⟩ := h.d395
  exact .succ hm F (F.bindsN (ps := ps__law_definition) fun _ _ _ _ _ _ us hl => match us, hl with | [_, _], _ => rfl) sc__law_definition rfl rfl rfl fun Pl hP cdv A outer s H o => one_P hP ▸ s__law_definition c o
theorem z__law_defined (h : Hd P K mg) : Cal P w K mg base 0 (callN 0) "_law_defined" 396 3 := by
  obtain ⟨f, fd, hm, F⟩ := h.d396
  exact .zero (fun _ => rfl) hm F.kp (F.bindsN (ps := ps__law_defined) fun _ _ _ _ _ _ us hl => match us, hl with | [_, _, _], _ => rfl) rfl
theorem u__law_defined (h : Hd P K mg) (c : Cals P w K mg base lv (callN lv)) : Cal P w K mg base (lv + 1) (callN (lv + 1)) "_law_defined" 396 3 := by
  obtain ⟨f, fd, hm, F⟩ := h.d396
  exact .succ hm F (F.bindsN (ps := ps__law_defined) fun _ _ _ _ _ _ us hl => match us, hl with | [_, _, _], _ => rfl) sc__law_defined rfl rfl rfl fun Pl hP cdv A outer s H o => one_P hP ▸ s__law_defined c o
theorem z__law_port (h : Hd P K mg) : Cal P w K mg base 0 (callN 0) "_law_port" 162 2 := by
  obtain ⟨f, fd, hm, F⟩ := h.d162
  exact .zero (fun _ => rfl) hm F.kp (F.bindsN (ps := ps__law_port) fun _ _ _ _ _ _ us hl => match us, hl with | [_, _], _ => rfl) rfl
theorem u__law_port (h : Hd P K mg) (c : Cals P w K mg base lv (callN lv)) : Cal P w K mg base (lv + 1) (callN (lv + 1)) "_law_port" 162 2 := by
  obtain ⟨f, fd, hm, F⟩ := h.d162
  exact .succ hm F (F.bindsN (ps := ps__law_port) fun _ _ _ _ _ _ us hl => match us, hl with | [_, _], _ => rfl) sc__law_port rfl rfl rfl fun Pl hP cdv A outer s H o => one_P hP ▸ s__law_port c o
theorem z__law_all_variables (h : Hd P K mg) : Cal P w K mg base 0 (callN 0) "_law_all_variables" 163 2 := by
  obtain ⟨f, fd, hm, F⟩ := h.d163
  exact .zero (fun _ => rfl) hm F.kp (F.bindsN (ps := ps__law_all_variables) fun _ _ _ _ _ _ us hl => match us, hl with | [_, _], _ => rfl) rfl
theorem u__law_all_variables (h : Hd P K mg) (c : Cals P w K mg base lv (callN lv)) : Cal P w K mg base (lv + 1) (callN (lv + 1)) "_law_all_variables" 163 2 := by
  obtain ⟨f, fd, hm, F⟩ := h.d163
  exact .succ hm F (F.bindsN (ps := ps__law_all_variables) fun _ _ _ _ _ _ us hl => match us, hl with | [_, _], _ => rfl) sc__law_all_variables rfl rfl rfl fun Pl hP cdv A outer s H o => one_P hP ▸ s__law_all_variables c o
theorem z__law_strange (h : Hd P K mg) : Cal P w K mg base 0 (callN 0) "_law_strange" 436 1 := by
  obtain ⟨f, fd, hm, F⟩ := h.d436
  exact .zero (fun _ => rfl) hm F.kp (F.bindsN (ps := ps__law_strange) fun _ _ _ _ _ _ us hl => match us, hl with | [_], _ => rfl) rfl
theorem u__law_strange (h : Hd P K mg) (c : Cals P w K mg base lv (callN lv)) : Cal P w K mg base (lv + 1) (callN (lv + 1)) "_law_strange" 436 1 := by
  obtain ⟨f, fd, hm, F⟩ := h.d436
  exact .succ hm F (F.bindsN (ps := ps__law_strange) fun _ _ _ _ _ _ us hl => match us, hl with | [_], _ => rfl) sc__law_strange rfl rfl rfl fun Pl hP cdv A outer s H o => one_P hP ▸ s__law_strange c o
theorem z__law_refused (h : Hd P K mg) : Cal P w K mg base 0 (callN 0) "_law_refused" 1058 2 := by
  obtain ⟨f, fd, hm, F⟩ := h.d1058
  exact .zero (fun _ => rfl) hm F.kp (F.bindsN (ps := ps__law_refused) fun _ _ _ _ _ _ us hl => match us, hl with | [_, _], _ => rfl) rfl
theorem u__law_refused (h : Hd P K mg) (c : Cals P w K mg base lv (callN lv)) : Cal P w K mg base (lv + 1) (callN (lv + 1)) "_law_refused" 1058 2 := by
  obtain ⟨f, fd, hm, F⟩ := h.d1058
  exact .succ hm F (F.bindsN (ps := ps__law_refused) fun _ _ _ _ _ _ us hl => match us, hl with | [_, _], _ => rfl) sc__law_refused rfl rfl rfl fun Pl hP cdv A outer s H o => one_P hP ▸ s__law_refused c o
theorem z_law (h : Hd P K mg) : Cal P w K mg base 0 (callN 0) "law" 1059 1 := by
  obtain ⟨f, fd, hm, F⟩ := h.d1059
  exact .zero (fun _ => rfl) hm F.kp (F.bindsN (ps := ps_law) fun _ _ _ _ _ _ us hl => match us, hl with | [_], _ => rfl) rfl
theorem u_law (h : Hd P K mg) (c : Cals P w K mg base lv (callN lv)) : Cal P w K mg base (lv + 1) (callN (lv + 1)) "law" 1059 1 := by
  obtain ⟨f, fd, hm, F⟩ := h.d1059
  exact .succ hm F (F.bindsN (ps := ps_law) fun _ _ _ _ _ _ us hl => match us, hl with | [_], _ => rfl) sc_law rfl rfl rfl fun Pl hP cdv A outer s H o => one_P hP ▸ s_law c o
theorem cals (h : Hd P K mg) : ∀ lv, Cals P w K mg base lv (callN lv)
  | 0 => ⟨h.free_ValueError, h.free_abs, h.free_int, h.free_isinstance, h.free_len, h.free_list, h.free_max, h.free_range, h.free_repr, h.free_str, h.free_super, h.free_tuple, h.xk_UnknownComponent, h.hb_UnknownComponent, h.is_DuplicateComponent, h.is_SlotError, h.is_UnknownPort, h.is_UnknownVariable, h.ist_ValueError, z_values_of h, z_domains_of h, z_component_of h, z_variables_of h, z__law_tape h, z__law_draw h, z__law_word h, z__law_words h, z__law_option h, z__law_options h, z__law_leaf h, z__law_expression h, z__law_column h, z__law_many h, z__law_domain h, z__law_attributes h, z__law_table h, z__law_component h, z__law_definition h, z__law_defined h, z__law_port h, z__law_all_variables h, z__law_strange h, z__law_refused h, z_law h⟩
  | lv + 1 => ⟨h.free_ValueError, h.free_abs, h.free_int, h.free_isinstance, h.free_len, h.free_list, h.free_max, h.free_range, h.free_repr, h.free_str, h.free_super, h.free_tuple, h.xk_UnknownComponent, h.hb_UnknownComponent, h.is_DuplicateComponent, h.is_SlotError, h.is_UnknownPort, h.is_UnknownVariable, h.ist_ValueError, u_values_of h (cals h lv), u_domains_of h (cals h lv), u_component_of h (cals h lv), u_variables_of h (cals h lv), u__law_tape h (cals h lv), u__law_draw h (cals h lv), u__law_word h (cals h lv), u__law_words h (cals h lv), u__law_option h (cals h lv), u__law_options h (cals h lv), u__law_leaf h (cals h lv), u__law_expression h (cals h lv), u__law_column h (cals h lv), u__law_many h (cals h lv), u__law_domain h (cals h lv), u__law_attributes h (cals h lv), u__law_table h (cals h lv), u__law_component h (cals h lv), u__law_definition h (cals h lv), u__law_defined h (cals h lv), u__law_port h (cals h lv), u__law_all_variables h (cals h lv), u__law_strange h (cals h lv), u__law_refused h (cals h lv), u_law h (cals h lv)⟩
end
/-! ### the head -/
def fn : List He.DefD := [⟨("values_of", none), "values_of", "values_of", defArgs st_values_of, defBody st_values_of, defScope st_values_of, [], []⟩,
 ⟨("domains_of", none), "domains_of", "domains_of", defArgs st_domains_of, defBody st_domains_of, defScope st_domains_of, [], []⟩,
 ⟨("component_of", none), "component_of", "component_of", defArgs st_component_of, defBody st_component_of, defScope st_component_of, [], []⟩,
 ⟨("variables_of", none), "variables_of", "variables_of", defArgs st_variables_of, defBody st_variables_of, defScope st_variables_of, [], []⟩,
 ⟨("_law_tape", none), "_law_tape", "_law_tape", defArgs st__law_tape, defBody st__law_tape, defScope st__law_tape, [], []⟩,
 ⟨("_law_draw", none), "_law_draw", "_law_draw", defArgs st__law_draw, defBody st__law_draw, defScope st__law_draw, [], []⟩,
 ⟨("_law_word", none), "_law_word", "_law_word", defArgs st__law_word, defBody st__law_word, defScope st__law_word, [], []⟩,
 ⟨("_law_words", none), "_law_words", "_law_words", defArgs st__law_words, defBody st__law_words, defScope st__law_words, [], []⟩,
 ⟨("_law_option", none), "_law_option", "_law_option", defArgs st__law_option, defBody st__law_option, defScope st__law_option, [], []⟩,
 ⟨("_law_options", none), "_law_options", "_law_options", defArgs st__law_options, defBody st__law_options, defScope st__law_options, [], []⟩,
 ⟨("_law_leaf", none), "_law_leaf", "_law_leaf", defArgs st__law_leaf, defBody st__law_leaf, defScope st__law_leaf, [], []⟩,
 ⟨("_law_expression", none), "_law_expression", "_law_expression", defArgs st__law_expression, defBody st__law_expression, defScope st__law_expression, [], []⟩,
 ⟨("_law_column", none), "_law_column", "_law_column", defArgs st__law_column, defBody st__law_column, defScope st__law_column, [], []⟩,
 ⟨("_law_many", none), "_law_many", "_law_many", defArgs st__law_many, defBody st__law_many, defScope st__law_many, [], []⟩,
 ⟨("_law_domain", none), "_law_domain", "_law_domain", defArgs st__law_domain, defBody st__law_domain, defScope st__law_domain, [], []⟩,
 ⟨("_law_attributes", none), "_law_attributes", "_law_attributes", defArgs st__law_attributes, defBody st__law_attributes, defScope st__law_attributes, [], []⟩,
 ⟨("_law_table", none), "_law_table", "_law_table", defArgs st__law_table, defBody st__law_table, defScope st__law_table, [], []⟩,
 ⟨("_law_component", none), "_law_component", "_law_component", defArgs st__law_component, defBody st__law_component, defScope st__law_component, [], []⟩,
 ⟨("_law_definition", none), "_law_definition", "_law_definition", defArgs st__law_definition, defBody st__law_definition, defScope st__law_definition, [], []⟩,
 ⟨("_law_defined", none), "_law_defined", "_law_defined", defArgs st__law_defined, defBody st__law_defined, defScope st__law_defined, [], []⟩,
 ⟨("_law_port", none), "_law_port", "_law_port", defArgs st__law_port, defBody st__law_port, defScope st__law_port, [], []⟩,
 ⟨("_law_all_variables", none), "_law_all_variables", "_law_all_variables", defArgs st__law_all_variables, defBody st__law_all_variables, defScope st__law_all_variables, [], []⟩,
 ⟨("_law_strange", none), "_law_strange", "_law_strange", defArgs st__law_strange, defBody st__law_strange, defScope st__law_strange, [], []⟩,
 ⟨("_law_refused", none), "_law_refused", "_law_refused", defArgs st__law_refused, defBody st__law_refused, defScope st__law_refused, [], []⟩,
 ⟨("law", none), "law", "law", defArgs st_law, defBody st_law, defScope st_law, [], []⟩]
def fa : List He.Fa := [.glo "values_of", .glo "domains_of", .glo "component_of", .glo "variables_of", .glo "_law_tape", .glo "_law_draw", .glo "_law_word", .glo "_law_words", .glo "_law_option", .glo "_law_options", .glo "_law_leaf", .glo "_law_expression", .glo "_law_column", .glo "_law_many", .glo "_law_domain", .glo "_law_attributes", .glo "_law_table", .glo "_law_component", .glo "_law_definition", .glo "_law_defined", .glo "_law_port", .glo "_law_all_variables", .glo "_law_strange", .glo "_law_refused", .glo "law", .free "ValueError", .free "abs", .free "int", .free "isinstance", .free "len", .free "list", .free "max", .free "range", .free "repr", .free "str", .free "super", .free "tuple", .glo "UnknownComponent", .glo "DuplicateComponent", .glo "SlotError", .glo "UnknownPort", .glo "UnknownVariable"]
abbrev R : PySem.W.OpenRow := PySem.W.OpenLaw.row PySem.Challenge.rw_slotwise_k12_variables_of_components
def ex (K : PySem.W.Frag) : Bool := tbB K "UnknownComponent" [("UnknownComponent", true)] && isB K "DuplicateComponent" [("UnknownComponent", false)] && isB K "SlotError" [("UnknownComponent", true)] && isB K "UnknownPort" [("UnknownComponent", false)] && isB K "UnknownVariable" [("UnknownComponent", false)] && isTB K "ValueError" [("UnknownComponent", true)]
abbrev xs_UnknownComponent : Stmt := inClass (top 5) 0
def xd_UnknownComponent : XDef := ⟨"UnknownComponent", "UnknownComponent", "UnknownComponent.__init__", defArgs xs_UnknownComponent, defBody xs_UnknownComponent, defScope xs_UnknownComponent, ["name"]⟩
def xs : List XDef := [xd_UnknownComponent]
abbrev xfile : Str := PySem.Challenge.pw_slotwise_k12_variables_of_components.main.file
abbrev hk : PySem.W.Hook := hookY 5 fa fn xs xfile ex
def ob (s : PySem.W.SharedT) : AlY := obsY 5 fa fn xs xfile ex (HandSHeadRun.getT s)
theorem ob_eq (s : PySem.W.SharedT) : ob s = hk.obs s.abs := obsY_eq (HandSHeadRun.getT_eq s)
def names0 : List PySem.Str := ["SlotError", "UnknownVariable", "DuplicateComponent", "UnknownPort", "UnknownComponent", "values_of", "domains_of", "component_of", "variables_of", "_law_tape", "_law_draw", "_law_word", "_law_words", "_law_option", "_law_options", "_law_leaf", "_law_expression", "_law_column", "_law_many", "_law_domain", "_law_attributes", "_law_table", "_law_component", "_law_definition", "_law_defined", "_law_port", "_law_all_variables", "_law_strange", "_law_refused"]
abbrev names : List PySem.Str := names0
theorem run (w : World) : HandSHeadRun.RunEq R (PySem.W.view R.prog [33]) hk ob 5000 names w := by
  intro os
  kernel_rfl
theorem hd_of {w : World} {K : KK} {h : Heap} {mg : Str → Option Value} (X : K.In h) (G : h.Ns mainGlobals mg) (cc : SaysY fa fn xs xfile ex w K) : Hd (PySem.Challenge.rw_slotwise_k12_variables_of_components : PySem.W.OpenLaw).prog K mg := by
  have c : He.SaysD fa fn K := cc.t.d
  have m : ex K = true := cc.more
  unfold ex at m; simp only [Bool.and_eq_true] at m
  exact {
  free_ValueError := He.free_ok X G (c.fact 25 (f := .free "ValueError") rfl)
  free_abs := He.free_ok X G (c.fact 26 (f := .free "abs") rfl)
  free_int := He.free_ok X G (c.fact 27 (f := .free "int") rfl)
  free_isinstance := He.free_ok X G (c.fact 28 (f := .free "isinstance") rfl)
  free_len := He.free_ok X G (c.fact 29 (f := .free "len") rfl)
  free_list := He.free_ok X G (c.fact 30 (f := .free "list") rfl)
  free_max := He.free_ok X G (c.fact 31 (f := .free "max") rfl)
  free_range := He.free_ok X G (c.fact 32 (f := .free "range") rfl)
  free_repr := He.free_ok X G (c.fact 33 (f := .free "repr") rfl)
  free_str := He.free_ok X G (c.fact 34 (f := .free "str") rfl)
  free_super := He.free_ok X G (c.fact 35 (f := .free "super") rfl)
  free_tuple := He.free_ok X G (c.fact 36 (f := .free "tuple") rfl)
  xk_UnknownComponent := ⟨_, (He.glo_ok X G (c.fact 37 (f := .glo "UnknownComponent") rfl)), cc.xc 0 (d := xd_UnknownComponent) rfl ⟨by decide, by decide, by decide +kernel, ⟨_, rfl, rfl⟩, fun _ _ _ _ _ _ _ _ _ _ _ _ us hl => (match us, hl with | [_], _ => rfl), ⟨_, _, _, _, _, _, _, _, _, rfl, (.cons (fun _ => rfl) (by decide) .nil), fun _ => rfl, fun _ => ⟨_, rfl⟩⟩, rfl, rfl, rfl, by decide +kernel, by decide +kernel, by decide +kernel, by decide +kernel, by decide +kernel⟩ (by kernel_rfl)⟩
  hb_UnknownComponent := ⟨_, (He.glo_ok X G (c.fact 37 (f := .glo "UnknownComponent") rfl)), tb_ok X G m.1.1.1.1.1 (hk_cons (R := fun y => (He.Fa.glo y).ok K = true) (c.fact 37 (f := .glo "UnknownComponent") rfl) hk_nil)⟩
  is_DuplicateComponent := ⟨_, (He.glo_ok X G (c.fact 38 (f := .glo "DuplicateComponent") rfl)), is_ok X G m.1.1.1.1.2 (hk_cons (R := fun y => (He.Fa.glo y).ok K = true) (c.fact 37 (f := .glo "UnknownComponent") rfl) hk_nil)⟩
  is_SlotError := ⟨_, (He.glo_ok X G (c.fact 39 (f := .glo "SlotError") rfl)), is_ok X G m.1.1.1.2 (hk_cons (R := fun y => (He.Fa.glo y).ok K = true) (c.fact 37 (f := .glo "UnknownComponent") rfl) hk_nil)⟩
  is_UnknownPort := ⟨_, (He.glo_ok X G (c.fact 40 (f := .glo "UnknownPort") rfl)), is_ok X G m.1.1.2 (hk_cons (R := fun y => (He.Fa.glo y).ok K = true) (c.fact 37 (f := .glo "UnknownComponent") rfl) hk_nil)⟩
  is_UnknownVariable := ⟨_, (He.glo_ok X G (c.fact 41 (f := .glo "UnknownVariable") rfl)), is_ok X G m.1.2 (hk_cons (R := fun y => (He.Fa.glo y).ok K = true) (c.fact 37 (f := .glo "UnknownComponent") rfl) hk_nil)⟩
  ist_ValueError := ist_ok X G m.2 (hk_cons (R := fun y => (He.Fa.glo y).ok K = true) (c.fact 37 (f := .glo "UnknownComponent") rfl) hk_nil)
  d124 := by
    obtain ⟨fd, F⟩ := c.def_ 0 (d := ⟨("values_of", none), "values_of", "values_of", defArgs st_values_of, defBody st_values_of, defScope st_values_of, [], []⟩) rfl
    exact ⟨_, fd, He.glo_ok X G (c.fact 0 (f := .glo "values_of") rfl), F⟩
  d126 := by
    obtain ⟨fd, F⟩ := c.def_ 1 (d := ⟨("domains_of", none), "domains_of", "domains_of", defArgs st_domains_of, defBody st_domains_of, defScope st_domains_of, [], []⟩) rfl
    exact ⟨_, fd, He.glo_ok X G (c.fact 1 (f := .glo "domains_of") rfl), F⟩
  d1056 := by
    obtain ⟨fd, F⟩ := c.def_ 2 (d := ⟨("component_of", none), "component_of", "component_of", defArgs st_component_of, defBody st_component_of, defScope st_component_of, [], []⟩) rfl
    exact ⟨_, fd, He.glo_ok X G (c.fact 2 (f := .glo "component_of") rfl), F⟩
  d1057 := by
    obtain ⟨fd, F⟩ := c.def_ 3 (d := ⟨("variables_of", none), "variables_of", "variables_of", defArgs st_variables_of, defBody st_variables_of, defScope st_variables_of, [], []⟩) rfl
    exact ⟨_, fd, He.glo_ok X G (c.fact 3 (f := .glo "variables_of") rfl), F⟩
  d4 := by
    obtain ⟨fd, F⟩ := c.def_ 4 (d := ⟨("_law_tape", none), "_law_tape", "_law_tape", defArgs st__law_tape, defBody st__law_tape, defScope st__law_tape, [], []⟩) rfl
    exact ⟨_, fd, He.glo_ok X G (c.fact 4 (f := .glo "_law_tape") rfl), F⟩
  d5 := by
    obtain ⟨fd, F⟩ := c.def_ 5 (d := ⟨("_law_draw", none), "_law_draw", "_law_draw", defArgs st__law_draw, defBody st__law_draw, defScope st__law_draw, [], []⟩) rfl
    exact ⟨_, fd, He.glo_ok X G (c.fact 5 (f := .glo "_law_draw") rfl), F⟩
  d38 := by
    obtain ⟨fd, F⟩ := c.def_ 6 (d := ⟨("_law_word", none), "_law_word", "_law_word", defArgs st__law_word, defBody st__law_word, defScope st__law_word, [], []⟩) rfl
    exact ⟨_, fd, He.glo_ok X G (c.fact 6 (f := .glo "_law_word") rfl), F⟩
  d39 := by
    obtain ⟨fd, F⟩ := c.def_ 7 (d := ⟨("_law_words", none), "_law_words", "_law_words", defArgs st__law_words, defBody st__law_words, defScope st__law_words, [], []⟩) rfl
    exact ⟨_, fd, He.glo_ok X G (c.fact 7 (f := .glo "_law_words") rfl), F⟩
  d41 := by
    obtain ⟨fd, F⟩ := c.def_ 8 (d := ⟨("_law_option", none), "_law_option", "_law_option", defArgs st__law_option, defBody st__law_option, defScope st__law_option, [], []⟩) rfl
    exact ⟨_, fd, He.glo_ok X G (c.fact 8 (f := .glo "_law_option") rfl), F⟩
  d42 := by
    obtain ⟨fd, F⟩ := c.def_ 9 (d := ⟨("_law_options", none), "_law_options", "_law_options", defArgs st__law_options, defBody st__law_options, defScope st__law_options, [], []⟩) rfl
    exact ⟨_, fd, He.glo_ok X G (c.fact 9 (f := .glo "_law_options") rfl), F⟩
  d43 := by
    obtain ⟨fd, F⟩ := c.def_ 10 (d := ⟨("_law_leaf", none), "_law_leaf", "_law_leaf", defArgs st__law_leaf, defBody st__law_leaf, defScope st__law_leaf, [], []⟩) rfl
    exact ⟨_, fd, He.glo_ok X G (c.fact 10 (f := .glo "_law_leaf") rfl), F⟩
  d415 := by
    obtain ⟨fd, F⟩ := c.def_ 11 (d := ⟨("_law_expression", none), "_law_expression", "_law_expression", defArgs st__law_expression, defBody st__law_expression, defScope st__law_expression, [], []⟩) rfl
    exact ⟨_, fd, He.glo_ok X G (c.fact 11 (f := .glo "_law_expression") rfl), F⟩
  d154 := by
    obtain ⟨fd, F⟩ := c.def_ 12 (d := ⟨("_law_column", none), "_law_column", "_law_column", defArgs st__law_column, defBody st__law_column, defScope st__law_column, [], []⟩) rfl
    exact ⟨_, fd, He.glo_ok X G (c.fact 12 (f := .glo "_law_column") rfl), F⟩
  d155 := by
    obtain ⟨fd, F⟩ := c.def_ 13 (d := ⟨("_law_many", none), "_law_many", "_law_many", defArgs st__law_many, defBody st__law_many, defScope st__law_many, [], []⟩) rfl
    exact ⟨_, fd, He.glo_ok X G (c.fact 13 (f := .glo "_law_many") rfl), F⟩
  d156 := by
    obtain ⟨fd, F⟩ := c.def_ 14 (d := ⟨("_law_domain", none), "_law_domain", "_law_domain", defArgs st__law_domain, defBody st__law_domain, defScope st__law_domain, [], []⟩) rfl
    exact ⟨_, fd, He.glo_ok X G (c.fact 14 (f := .glo "_law_domain") rfl), F⟩
  d157 := by
    obtain ⟨fd, F⟩ := c.def_ 15 (d := ⟨("_law_attributes", none), "_law_attributes", "_law_attributes", defArgs st__law_attributes, defBody st__law_attributes, defScope st__law_attributes, [], []⟩) rfl
    exact ⟨_, fd, He.glo_ok X G (c.fact 15 (f := .glo "_law_attributes") rfl), F⟩
  d158 := by
    obtain ⟨fd, F⟩ := c.def_ 16 (d := ⟨("_law_table", none), "_law_table", "_law_table", defArgs st__law_table, defBody st__law_table, defScope st__law_table, [], []⟩) rfl
    exact ⟨_, fd, He.glo_ok X G (c.fact 16 (f := .glo "_law_table") rfl), F⟩
  d394 := by
    obtain ⟨fd, F⟩ := c.def_ 17 (d := ⟨("_law_component", none), "_law_component", "_law_component", defArgs st__law_component, defBody st__law_component, defScope st__law_component, [], []⟩) rfl
    exact ⟨_, fd, He.glo_ok X G (c.fact 17 (f := .glo "_law_component") rfl), F⟩
  d395 := by
    obtain ⟨fd, F⟩ := c.def_ 18 (d := ⟨("_law_definition", none), "_law_definition", "_law_definition", defArgs st__law_definition, defBody st__law_definition, defScope st__law_definition, [], []⟩) rfl
    exact ⟨_, fd, He.glo_ok X G (c.fact 18 (f := .glo "_law_definition") rfl), F⟩
  d396 := by
    obtain ⟨fd, F⟩ := c.def_ 19 (d := ⟨("_law_defined", none), "_law_defined", "_law_defined", defArgs st__law_defined, defBody st__law_defined, defScope st__law_defined, [], []⟩) rfl
    exact ⟨_, fd, He.glo_ok X G (c.fact 19 (f := .glo "_law_defined") rfl), F⟩
  d162 := by
    obtain ⟨fd, F⟩ := c.def_ 20 (d := ⟨("_law_port", none), "_law_port", "_law_port", defArgs st__law_port, defBody st__law_port, defScope st__law_port, [], []⟩) rfl
    exact ⟨_, fd, He.glo_ok X G (c.fact 20 (f := .glo "_law_port") rfl), F⟩
  d163 := by
    obtain ⟨fd, F⟩ := c.def_ 21 (d := ⟨("_law_all_variables", none), "_law_all_variables", "_law_all_variables", defArgs st__law_all_variables, defBody st__law_all_variables, defScope st__law_all_variables, [], []⟩) rfl
    exact ⟨_, fd, He.glo_ok X G (c.fact 21 (f := .glo "_law_all_variables") rfl), F⟩
  d436 := by
    obtain ⟨fd, F⟩ := c.def_ 22 (d := ⟨("_law_strange", none), "_law_strange", "_law_strange", defArgs st__law_strange, defBody st__law_strange, defScope st__law_strange, [], []⟩) rfl
    exact ⟨_, fd, He.glo_ok X G (c.fact 22 (f := .glo "_law_strange") rfl), F⟩
  d1058 := by
    obtain ⟨fd, F⟩ := c.def_ 23 (d := ⟨("_law_refused", none), "_law_refused", "_law_refused", defArgs st__law_refused, defBody st__law_refused, defScope st__law_refused, [], []⟩) rfl
    exact ⟨_, fd, He.glo_ok X G (c.fact 23 (f := .glo "_law_refused") rfl), F⟩
  d1059 := by
    obtain ⟨fd, F⟩ := c.def_ 24 (d := ⟨("law", none), "law", "law", defArgs st_law, defBody st_law, defScope st_law, [], []⟩) rfl
    exact ⟨_, fd, He.glo_ok X G (c.fact 24 (f := .glo "law") rfl), F⟩
  }
end L12
set_option Elab.async false
set_option linter.all false
set_option maxRecDepth 100000
set_option maxHeartbeats 4000000
namespace Mi
open PySem L2
local macro_rules | `(tactic| push_cast [$hs,*]) => `(tactic| simp -implicitDefEqProofs (disch := first | omega | (simp only [rng_len, List.length_map, List.length_append, List.length_range, List.length_replicate, List.length_cons, List.length_nil, List.length_set, List.length_reverse, List.length_zipIdx]; omega)) only [ev_seq, ev_if, ev_ifE, ev_nx, ev_bk, ev_ct, ev_E, ev_set, ev_tg, ev_ret, ev_retO, ev_retN, ev_put, ev_for, ev_C, ev_V, ev_vr, ev_ex, ev_o1, ev_o2, ev_t2, ev_tru, ev_and, ev_or, ev_not, ev_yes, ev_andE, ev_orE, ev_notE, ev_LN, ev_LC, ev_B, ev_TN, ev_TC, ev_tup, ev_lst, ev_GN, ev_GV, ev_GR, ev_call, ev_mu, ev_lc, ev_any, ev_r1, ev_r2, ev_rep, kS_nx, kS_bk, kS_ct, kS_rt, kIf_t, kIf_f, kM_ok, kSet_ok, kAnd_t, kAnd_f, kOr_t, kOr_f, kAndE_t, kAndE_f, kOrE_t, kOrE_f, kNotE_b, oVr_s, kO2_ok, kO2'_ok, g2_ss, gv_l, gv_r, kL_ok, kL'_ok, kB_ok, gB_s, gvL_n, gvL_c, kV_ss, kT_ok, kT'_ok, kG_ok, kG'_ok, gG_l, gG_t, gG_d, kC_ok, kC1_s, kC2_ok, kP_s, take_n, take_l, take_r, put_n, put_l, put_r, pt1_s, kPut1_ok, kPut2_ok, isL_l, kMu_ok, kFor_ok, kSeqI_l, kSeqI_l', kSeqI_t, kR2_ok, kRep_ok, rV_d, rV_l, cont_n, cont_c, ct1_s, wp_ok, wpC_ok, atI_0, atI_1, atI_2, atI_3, fIx_l, fIx_t, List.length_cons, List.length_nil, Nat.zero_add, Nat.reduceAdd, Int.reduceLT, Int.reduceLE, Int.reduceAdd, Int.reduceMul, Int.reduceToNat, Int.reduceNeg, Int.reduceSub, Nat.reduceLT, Nat.reduceLeDiff, Nat.reduceMul, gt_iff_lt, ge_iff_le, ixN_4_0, ixN_4_1, ixN_4_2, ixN_4_3, wipe_n, wipe_c, tgN_r, tgT_r, tgL_n, tgL_c, ofO_some, vw_d, vw_l, fAddI_int, fSub_int, fNeg_int, fMod_p, fMul_31, fMul_48271, fMul_69621, fPow18, fPow9, cCmp_int, cEq_int, cNe_int, cEq_str, cNe_str, cOrd_int, ev_aug, kAug_ok, ev_en, kEn_t, fIs_int, fIs_bool, fIs_none, fIs_str, fIs_list, fIs_tuple, isTy_int_int, isTy_int_bool, isTy_tuple_tuple, cIs_none, cIsNot_none, isNone_none, isNone_int, isNone_str, isNone_tuple, isNone_list, isNone_bool, truD_l, truD_t, truD_b, truD_n, bLen_l, bLen_t, bAbs_int, bInt_int, bMax_int, bMin_int, bList_l, bList_t, bTuple_l, bTuple_t, Option.map_some, Option.bind_some, List.getD_cons_zero, List.getD_cons_succ, List.set_cons_zero, List.set_cons_succ, if_true, if_false, lB, ↓reduceIte, Bool.not_true, Bool.not_false, kO1_ok, g1_s, kTru_ok, vf_d, vf_l, tk1_s, tkW_s, isO_l, isO_t, kF_ok, endF_r, endF_n, kF_ex, endX_s, rV_t, lpos_n, lpos_l, lpos_t, lpos_d, fAdd_int, ev_pN, ev_pS, kP1_i, ev_sl, kSl_ok, kSl2_ok, kSl3_ok, fSl_l, fSl_t, fRev_l, fRev_t, kR1_c, kR1_n, kR2_c, kLc_c, kRep2_n, gPut_n, gPut_c, gMu_app, rep_n, vw_d, List.length_map, List.length_range, rng_len, Int.toNat_natCast, beq_self_eq_true, Bool.not_true, Bool.not_false, Option.isNone_none, Option.isNone_some, decide_true, decide_false, ev_forN, List.isEmpty_nil, List.isEmpty_cons, kTg_2, kTg_3, ev_mv, gMv_s, ev_rvA, kRvA_t, kRvA_d, kRvA_l, ev_g1, kg1_i, ev_g2, kg2a_i, kg2_i, fNotT_l, fNotT_b, ev_tupR, ev_lstR, kTupR_s, kLstR_s, ev_rvR, kRvR_s, ev_callX, kCx_ok, kC2_ex, kPx_s, ev_sok, kS_ex, kM_ex, kSet_ex, ev_xf, kXF_ok, kXF_ex, ev_raise, kRa_ok, ev_try, kTry_ok, zip_n, zip_c, cut_ok, ev_rgD, kRgD_n, bRng1_i, ev_getD_S, kGetD0_s_S, kGetD_ok_S, gGet_s_S, ev_inD_S, kInD_ok_S, gIn_s_S, ev_putD_S, kPutD0_s_S, kPutD1_ok_S, kPutD2_ok_S, gPutD_s_S, kvI_w_S, kvI_d_S, vw_dc_S, $hs,*])
/-! ### domains_of -/
theorem cpD_1 (c : Cp) : fIx c.dat (.int 1) = some (.d (.str c.pg.1)) := Eq.trans rfl rfl
theorem cpD_2 (c : Cp) : fIx c.dat (.int 2) = some (.d (.tuple (c.as.map atD))) := Eq.trans rfl rfl
theorem cpD_3 (c : Cp) : fIx c.dat (.int 3) = some (.d (.tuple (c.sl.map slD))) := Eq.trans rfl rfl
theorem cpD_0 (c : Cp) : fIx c.dat (.int 0) = some (.d (.str c.nm)) := Eq.trans rfl rfl
theorem port_find {C : Orc} {x1 x2 x3 x5 x7 x8 : Option W} (s : Str) (ps : List Pt) :
    cmpL (tgN 6) (tO2 cEq (.ex (eO2 fIx (.vr 6) (.ex (eC (.int 0))))) (.vr 4)) (eO2 fIx (.vr 6) (.ex (eC (.int 1)))) [6] (ps.map ptD) [some (.d (.tuple (ps.map ptD))), x1, x2, x3, some (.d (.str s)), x5, none, x7, x8] = .ok ((ps.filter fun p => p.1 == s).map fun p => PyData.tuple (p.2.map atD)) [some (.d (.tuple (ps.map ptD))), x1, x2, x3, some (.d (.str s)), x5, none, x7, x8] :=
  cmpT_filter (dat := ptD) (p := fun p => p.1 == s) (f := fun p => PyData.tuple (p.2.map atD)) (fun p hp => ⟨_, rfl, by
    push_cast [ptD_0]
    refine ⟨by trivial, fun _ => by first | rfl | trivial, fun _ => ?_⟩
    push_cast [ptD_1]
    exact ⟨by first | rfl | trivial, by first | rfl | trivial⟩⟩)
theorem port_hd {ps : List Pt} (hnd : (ps.map (·.1)).Nodup) {p : Pt} (hp : p ∈ ps) : ∃ r, (ps.filter fun q => q.1 == p.1) = p :: r := by
  cases hf : ps.filter fun q => q.1 == p.1 with
  | nil =>
    have : p ∈ ps.filter fun q => q.1 == p.1 := List.mem_filter.mpr ⟨hp, beq_self_eq_true _⟩
    rw [hf] at this; cases this
  | cons q r =>
    have hq : q ∈ ps.filter fun q => q.1 == p.1 := by rw [hf]; exact List.mem_cons_self
    obtain ⟨h1, h2⟩ := List.mem_filter.mp hq
    have := nd_eq hnd h1 hp (eq_of_beq h2)
    subst this
    exact ⟨r, rfl⟩
theorem ats_cmp {C : Orc} {x0 x1 x2 x4 x5 x6 : Option W} (pre : Str) (as : List At) (hpre : pre.length ≤ 50) (ha : ∀ a ∈ as, a.1.length ≤ 40) :
    cmpL (tgT [(tgN 7), (tgN 8)]) mYes (eTup [(eO2 fAddS (.ex (eO2 fAddS (.vr 3) (.ex (eC (.str "."))))) (.vr 7)), (eV 8)]) [7, 8] (as.map atD) [x0, x1, x2, some (.d (.str pre)), x4, x5, x6, none, none] = .ok ((ats (pre ++ ".") as).map atD) [x0, x1, x2, some (.d (.str pre)), x4, x5, x6, none, none] := by
  unfold ats
  rw [List.map_map]
  refine cmpT_map (dat := atD) (f := atD ∘ fun a => (pre ++ "." ++ a.1, a.2)) (fun a hm => ⟨[x0, x1, x2, some (.d (.str pre)), x4, x5, x6, some (.d (.str a.1)), some (.d a.2.dat)], rfl, ?_⟩)
  have h1 := ha a hm
  have h2 := ld1
  have h3 : (pre ++ ("." : Str)).length = pre.length + 1 := by rw [str_app, ld1]
  push_cast [fAddS_s (a := pre) (b := ("." : Str)) (by omega), fAddS_s (a := pre ++ ("." : Str)) (b := a.1) (by omega)]
  exact ⟨by first | rfl | trivial, by first | rfl | trivial⟩
theorem domains_of_ok (C : Orc) (ps : List Pt) (hp : PtsOk ps) (c : Cp) (hc : CpOk ps c) : F126 C [.d (.tuple (ps.map ptD)), .d c.dat] = .ok (.d (.list ((varsOf c.as c.pg c.sl).map atD))) [] := by
  have run : WpC (F126 C [.d (.tuple (ps.map ptD)), .d c.dat]) fun w q => w = .d (.list ((varsOf c.as c.pg c.sl).map atD)) ∧ q = [] := by
    refine wpC_run (m := M126 C) rfl rfl rfl ?_
    simp only [List.map_cons, List.map_nil, List.cons_append, List.nil_append, List.replicate]
    unfold M126
    have hpl := hp.len
    have hsl := hc.sl.len
    have hal := hc.at_.len
    have hdot : ("plug." : Str) = ("plug" : Str) ++ "." := by decide +kernel
    obtain ⟨ss, hss⟩ : ∃ ss : List Sl, ss = (("plug" : Str), c.pg) :: c.sl := ⟨_, rfl⟩
    have hsp : ∀ s ∈ ss, s.2 ∈ ps ∧ s.1.length ≤ 40 := fun s hs => by
      rw [hss] at hs
      rcases List.mem_cons.mp hs with rfl | hs
      · exact ⟨hc.pg, by show ("plug" : Str).length ≤ 40; decide +kernel⟩
      · exact ⟨hc.sl.pt s hs, (hc.sl.wd s hs).1⟩
    have hlen : ss.length ≤ 4 := by rw [hss, List.length_cons]; omega
    have hadd : fAdd (.tuple [.tuple [.str "plug", .str c.pg.1]]) (.tuple (c.sl.map slD)) = some (.d (.tuple (ss.map slD))) := by
      rw [fAdd_tt (by rw [List.length_map, List.length_singleton]; omega), hss]; rfl
    obtain ⟨e', g1, x3, x4, x5, rfl⟩ := forT_inv (dat := slD) (tg := tgT [(tgN 3), (tgN 4)]) (b := M126b0 C) (xs := ss)
      (fun pre e => ∃ x3 x4 x5 : Option W, e = [some (.d (.tuple (ps.map ptD))), some (.d c.dat), some (.l ((c.as ++ pre.flatMap fun s => ats (s.1 ++ ".") s.2.2).map atD)), x3, x4, x5, none, none, none])
      (e := [some (.d (.tuple (ps.map ptD))), some (.d c.dat), some (.l (c.as.map atD)), none, none, none, none, none, none]) ⟨_, _, _, by rw [List.flatMap_nil, List.append_nil]⟩ (fun pre s post e hx hI => by
        obtain ⟨x3, x4, x5, rfl⟩ := hI
        refine ⟨[some (.d (.tuple (ps.map ptD))), some (.d c.dat), some (.l ((c.as ++ pre.flatMap fun s => ats (s.1 ++ ".") s.2.2).map atD)), some (.d (.str s.1)), some (.d (.str s.2.1)), x5, none, none, none], rfl, ?_⟩
        obtain ⟨hsm, hs40⟩ := hsp s (by rw [hx]; simp)
        have hso := (hp.ok s.2 hsm).at_
        have hs3 := hso.len
        have hpre : pre.length ≤ 3 := by
          have := congrArg List.length hx
          rw [List.length_append, List.length_cons] at this
          omega
        have hfl : (pre.flatMap fun s => ats (s.1 ++ ".") s.2.2).length ≤ 3 * pre.length := by
          have hall : ∀ x ∈ pre, x.2 ∈ ps := fun x hx2 => (hsp x (by rw [hx]; exact List.mem_append_left _ hx2)).1
          clear hx hpre
          induction pre with
          | nil => exact Nat.zero_le _
          | cons y l ih =>
            have := ih fun x hx2 => hall x (List.mem_cons_of_mem _ hx2)
            have := (hp.ok y.2 (hall y List.mem_cons_self)).at_.len
            rw [List.flatMap_cons, List.length_append, ats_len, List.length_cons]; omega
        obtain ⟨r, hr⟩ := port_hd hp.nd hsm
        have pf := port_find (C := C) (x1 := some (.d c.dat)) (x2 := some (.l ((c.as ++ pre.flatMap fun s => ats (s.1 ++ ".") s.2.2).map atD))) (x3 := some (.d (.str s.1))) (x5 := x5) (x7 := none) (x8 := none) s.2.1 ps
        rw [hr, List.map_cons] at pf
        have ac := ats_cmp (C := C) (x0 := some (.d (.tuple (ps.map ptD)))) (x1 := some (.d c.dat)) (x2 := some (.l ((c.as ++ pre.flatMap fun s => ats (s.1 ++ ".") s.2.2).map atD))) (x4 := some (.d (.str s.2.1))) (x5 := some (.d (.tuple (s.2.2.map atD)))) (x6 := none) s.1 s.2.2 (by omega) (fun a ha => (hso.ok a ha).wd.1)
        have hal2 := ats_len (s.1 ++ ".") s.2.2
        have me := fun e => gMu_s (i := 2) (e := e) (mExt_l (xs := (c.as ++ pre.flatMap fun s => ats (s.1 ++ ".") s.2.2).map atD) (ys := (ats (s.1 ++ ".") s.2.2).map atD) (by rw [List.length_map, List.length_map, List.length_append]; omega))
        unfold M126b0
        push_cast [pf, ac, me]
        refine ⟨by simp, some (.d (.str s.1)), some (.d (.str s.2.1)), some (.d (.tuple (s.2.2.map atD))), ?_⟩
        rw [List.flatMap_append, List.flatMap_cons, List.flatMap_nil, List.append_nil, ← List.append_assoc, List.map_append (l₂ := ats (s.1 ++ ".") s.2.2)])
    push_cast [cpD_2, cpD_1, cpD_3, hadd, g1]
    refine ⟨?_, by trivial⟩
    rw [hss, List.flatMap_cons]
    unfold varsOf
    rw [hdot, List.append_assoc]
  obtain ⟨w, q, h, rfl, rfl⟩ := run
  exact h
/-! ### component_of -/
def defC (ps : List Pt) (cs : List Cp) (root : D) : D := defD ps (.tuple (cs.map Cp.dat)) root
theorem defC_0 (ps : List Pt) (cs : List Cp) (root : D) : fIx (defC ps cs root) (.int 0) = some (.d (.tuple (ps.map ptD))) := Eq.trans rfl rfl
theorem defC_1 (ps : List Pt) (cs : List Cp) (root : D) : fIx (defC ps cs root) (.int 1) = some (.d (.tuple (cs.map Cp.dat))) := Eq.trans rfl rfl
def xUC (s : Str) : Exn := ⟨"UnknownComponent", [("name", .str s)]⟩
theorem component_of_ok (C : Orc) (ps : List Pt) (cs : List Cp) (root : D) (hnd : (cs.map Cp.nm).Nodup) (c : Cp) (hc : c ∈ cs) : F1056 C [.d (defC ps cs root), .d (.str c.nm)] = .ok (.d c.dat) [] := by
  have run : WpC (F1056 C [.d (defC ps cs root), .d (.str c.nm)]) fun w q => w = .d c.dat ∧ q = [] := by
    refine wpC_run (m := M1056 C) rfl rfl rfl ?_
    simp only [List.map_cons, List.map_nil, List.cons_append, List.nil_append, List.replicate]
    unfold M1056
    have loop := forT_rt (dat := Cp.dat) (tg := tgN 2) (b := M1056b0 C) (xs := cs)
      (fun pre e => (∀ q ∈ pre, q ≠ c) ∧ ∃ x2 : Option W, e = [some (.d (defC ps cs root)), some (.d (.str c.nm)), x2]) (fun w e => w = .d c.dat ∧ e = [some (.d (defC ps cs root)), some (.d (.str c.nm)), some (.d c.dat)])
      (e := [some (.d (defC ps cs root)), some (.d (.str c.nm)), none]) ⟨(fun _ h => by cases h), _, rfl⟩ (fun pre q post e hx hI => by
        obtain ⟨hne, x2, rfl⟩ := hI
        refine ⟨_, rfl, ?_⟩
        unfold M1056b0
        by_cases hb : (q.nm == c.nm) = true
        · have e1 := nd_eq hnd (show q ∈ cs by rw [hx]; simp) hc (eq_of_beq hb)
          subst e1
          push_cast [cpD_0]
          exact .inr ⟨_, rfl, by first | rfl | trivial, by first | rfl | trivial⟩
        · have hb := Bool.eq_false_iff.mpr hb
          push_cast [cpD_0, hb]
          refine .inl ⟨by simp, fun r hr => ?_, _, rfl⟩
          rcases List.mem_append.mp hr with hr | hr
          · exact hne r hr
          · rw [List.mem_singleton.mp hr]; rintro rfl; rw [beq_self_eq_true] at hb; cases hb)
    rcases loop with ⟨e', g, hne, _⟩ | ⟨w, e', g, rfl, rfl⟩
    · exact absurd rfl (hne c hc)
    · push_cast [defC_1, g]
      exact ⟨by trivial, by trivial⟩
  obtain ⟨w, q, h, rfl, rfl⟩ := run
  exact h
theorem component_of_X (C : Orc) (ps : List Pt) (cs : List Cp) (root : D) (s : Str) (hs : s ∉ cs.map Cp.nm) : F1056 C [.d (defC ps cs root), .d (.str s)] = .ex (xUC s) [] := by
  refine wpX_run (m := M1056 C) rfl rfl rfl ?_
  simp only [List.map_cons, List.map_nil, List.cons_append, List.nil_append, List.replicate]
  unfold M1056
  obtain ⟨e', g, x2, rfl⟩ := forT_inv (dat := Cp.dat) (tg := tgN 2) (b := M1056b0 C) (xs := cs)
    (fun pre e => ∃ x2 : Option W, e = [some (.d (defC ps cs root)), some (.d (.str s)), x2])
    (e := [some (.d (defC ps cs root)), some (.d (.str s)), none]) ⟨_, rfl⟩ (fun pre q post e hx hI => by
      obtain ⟨x2, rfl⟩ := hI
      refine ⟨_, rfl, ?_⟩
      unfold M1056b0
      have hb : (q.nm == s) = false := beq_eq_false_iff_ne.mpr fun z => hs (List.mem_map.mpr ⟨q, by rw [hx]; simp, z⟩)
      push_cast [cpD_0, hb]
      exact ⟨by simp, _, rfl⟩)
  push_cast [defC_1, g]
  rfl
/-! ### variables_of -/
theorem eXG_ok {m0 m1 m : ME} {e e1 e2 e' : Env} {w0 w1 w : W} (h0 : m0 e = .ok w0 e1) (h1 : m1 e1 = .ok w1 e2) (h : m e = .ok w e') : eXG m0 m1 m e = .ok w e' := by
  unfold eXG
  rw [h0]
  dsimp only
  rw [h1, h]; rfl
theorem eXG_ex {m0 m1 m : ME} {e e1 e' : Env} {w0 : W} {x : Exn} (h0 : m0 e = .ok w0 e1) (h1 : m1 e1 = .ex x e') : eXG m0 m1 m e = .ex x e' := by
  unfold eXG
  rw [h0]
  dsimp only
  rw [h1]
def vtA (a : At) : D := .tuple [.str a.1, .tuple a.2.vals]
theorem variables_of_ok (C : Orc) (ps : List Pt) (hp : PtsOk ps) (cs : List Cp) (root : D) (c : Cp) (hc : CpOk ps c) (h1056 : C 1056 [.d (defC ps cs root), .d (.str c.nm)] = .ok (.d c.dat) [])
    (h126 : C 126 [.d (.tuple (ps.map ptD)), .d c.dat] = .ok (.d (.list ((varsOf c.as c.pg c.sl).map atD))) []) (h124 : ∀ d : Dm, d.Ok → C 124 [.d d.dat] = .ok (.d (.tuple d.vals)) []) :
    F1057 C [.d (defC ps cs root), .d (.str c.nm)] = .ok (.d (.tuple ((varsOf c.as c.pg c.sl).map vtA))) [] := by
  have run : WpC (F1057 C [.d (defC ps cs root), .d (.str c.nm)]) fun w q => w = .d (.tuple ((varsOf c.as c.pg c.sl).map vtA)) ∧ q = [] := by
    refine wpC_run (m := M1057 C) rfl rfl rfl ?_
    simp only [List.map_cons, List.map_nil, List.cons_append, List.nil_append, List.replicate]
    unfold M1057
    have hl := vars_len hp hc.at_ hc.pg hc.sl
    have hv := vars_vr hp hc.at_ hc.pg hc.sl
    have g := eXG_ok (m0 := eO2 fIx (.vr 0) (.ex (eC (.int 0)))) (m1 := eCallX C 1056 [.vl (eV 0), .vl (eV 1)]) (m := eCall C 126 [.vl (eO2 fIx (.vr 0) (.ex (eC (.int 0)))), .vl (eCallX C 1056 [.vl (eV 0), .vl (eV 1)])])
      (e := [some (.d (defC ps cs root)), some (.d (.str c.nm)), none, none, none]) (e1 := [some (.d (defC ps cs root)), some (.d (.str c.nm)), none, none, none]) (e2 := [some (.d (defC ps cs root)), some (.d (.str c.nm)), none, none, none]) (e' := [some (.d (defC ps cs root)), some (.d (.str c.nm)), none, none, none])
      (w0 := .d (.tuple (ps.map ptD))) (w1 := .d c.dat) (w := .d (.list ((varsOf c.as c.pg c.sl).map atD))) (by push_cast [defC_0]) (by push_cast [h1056]) (by push_cast [defC_0, h1056, h126])
    have cm := cmpT_map (dat := atD) (tg := tgT [(tgN 3), (tgN 4)]) (te := eTup [(eV 3), (eCall C 124 [.vl (eV 4)])]) (vs := [3, 4]) (f := vtA) (xs := varsOf c.as c.pg c.sl) (e := [some (.d (defC ps cs root)), some (.d (.str c.nm)), some (.d (.list ((varsOf c.as c.pg c.sl).map atD))), none, none]) (fun a ha => ⟨[some (.d (defC ps cs root)), some (.d (.str c.nm)), some (.d (.list ((varsOf c.as c.pg c.sl).map atD))), some (.d (.str a.1)), some (.d a.2.dat)], rfl, by
      push_cast [h124 a.2 (hv a ha).2]; exact ⟨by first | rfl | trivial, by first | rfl | trivial⟩⟩)
    push_cast [g, cm]
    exact ⟨by trivial, by trivial⟩
  obtain ⟨w, q, h, rfl, rfl⟩ := run
  exact h
theorem variables_of_X (C : Orc) (ps : List Pt) (cs : List Cp) (root : D) (s : Str) (h1056 : C 1056 [.d (defC ps cs root), .d (.str s)] = .ex (xUC s) []) :
    F1057 C [.d (defC ps cs root), .d (.str s)] = .ex (xUC s) [] := by
  refine wpX_run (m := M1057 C) rfl rfl rfl ?_
  simp only [List.map_cons, List.map_nil, List.cons_append, List.nil_append, List.replicate]
  unfold M1057
  have g := eXG_ex (m0 := eO2 fIx (.vr 0) (.ex (eC (.int 0)))) (m1 := eCallX C 1056 [.vl (eV 0), .vl (eV 1)]) (m := eCall C 126 [.vl (eO2 fIx (.vr 0) (.ex (eC (.int 0)))), .vl (eCallX C 1056 [.vl (eV 0), .vl (eV 1)])])
    (e := [some (.d (defC ps cs root)), some (.d (.str s)), none, none, none]) (e1 := [some (.d (defC ps cs root)), some (.d (.str s)), none, none, none]) (e' := [some (.d (defC ps cs root)), some (.d (.str s)), none, none, none])
    (w0 := .d (.tuple (ps.map ptD))) (x := xUC s) (by push_cast [defC_0]) (by push_cast [h1056])
  push_cast [g]
/-! ### a name that no component has -/
def zs (k : Nat) : Str := repS "z" k
theorem fold_size (x : Array Nat) : ∀ (k : Nat) (acc : Array Nat), ((List.replicate k x).foldl (· ++ ·) acc).size = acc.size + k * x.size
  | 0, acc => by simp
  | k + 1, acc => by
    rw [List.replicate_succ, List.foldl_cons, fold_size x k, Array.size_append, Nat.add_mul]; omega
theorem zs_len (k : Nat) : (zs k).length = k := by
  show ((List.replicate k (("z" : Str)).cps).foldl (· ++ ·) #[]).size = k
  rw [fold_size]
  have : (("z" : Str)).cps.size = 1 := by decide +kernel
  rw [this]; simp
theorem nd_le : ∀ {l1 l2 : List Str}, l1.Nodup → (∀ x ∈ l1, x ∈ l2) → l1.length ≤ l2.length
  | [], _, _, _ => Nat.zero_le _
  | x :: l, l2, h, hs => by
    rw [List.nodup_cons] at h
    have hx := hs x List.mem_cons_self
    have := nd_le (l1 := l) (l2 := l2.erase x) h.2 (fun y hy => (List.mem_erase_of_ne (fun e => h.1 (by rw [← e]; exact hy))).mpr (hs y (List.mem_cons_of_mem _ hy)))
    rw [List.length_erase_of_mem hx] at this
    have := List.length_pos_of_mem hx
    rw [List.length_cons]; omega
theorem fStrMul_z (k : Nat) (h1 : 1 ≤ k) (h2 : k ≤ 1000) : fStrMul (.str "z") (.int (k : Int)) = some (.d (.str (zs k))) := by
  have l1 : ("z" : Str).length = 1 := by decide +kernel
  show (if _ then some (W.d (.str (repS "z" ((k : Int)).toNat))) else none) = _
  rw [if_pos ⟨by omega, by omega, by rw [l1]; decide, by rw [l1]; decide⟩, Int.toNat_natCast]; rfl
theorem strange_ok (C : Orc) (nms : List Str) (hl : nms.length ≤ 100) : ∃ s : Str, F436 C [.d (.list (nms.map PyData.str))] = .ok (.d (.str s)) [] ∧ s ∉ nms := by
  have run : WpC (F436 C [.d (.list (nms.map PyData.str))]) fun w q => ∃ s : Str, w = .d (.str s) ∧ q = [] ∧ s ∉ nms := by
    refine wpC_run (m := M436 C) rfl rfl rfl ?_
    simp only [List.map_cons, List.map_nil, List.cons_append, List.nil_append, List.replicate]
    unfold M436
    have loop := forN_rt (tg := tgN 1) (b := M436b0 C) (n := nms.length)
      (fun i e => (∀ j, j < i → zs (j + 1) ∈ nms) ∧ ∃ x1 : Option W, e = [some (.d (.list (nms.map PyData.str))), x1]) (fun w e => ∃ s : Str, w = .d (.str s) ∧ s ∉ nms ∧ ∃ x1 : Option W, e = [some (.d (.list (nms.map PyData.str))), x1])
      (e := [some (.d (.list (nms.map PyData.str))), none]) ⟨(fun _ h => absurd h (Nat.not_lt_zero _)), _, rfl⟩ (fun i e hi hI => by
        obtain ⟨hj, x1, rfl⟩ := hI
        refine ⟨_, rfl, ?_⟩
        have hm := fStrMul_z (i + 1) (by omega) (by omega)
        have hin := cNotInT_s (zs (i + 1)) nms
        unfold M436b0
        by_cases hb : zs (i + 1) ∈ nms
        · rw [decide_eq_true hb] at hin
          push_cast [show (i : Int) + 1 = ((i + 1 : Nat) : Int) from rfl, hm, hin]
          refine .inl ⟨by simp, fun j h => ?_, _, rfl⟩
          rcases Nat.lt_succ_iff_lt_or_eq.mp h with h | rfl
          · exact hj j h
          · exact hb
        · rw [decide_eq_false hb] at hin
          push_cast [show (i : Int) + 1 = ((i + 1 : Nat) : Int) from rfl, hm, hin]
          exact .inr ⟨_, rfl, zs (i + 1), rfl, hb, _, rfl⟩)
    rcases loop with ⟨e', g, hj, x1, rfl⟩ | ⟨w, e', g, s, rfl, hs, x1, rfl⟩
    · have hm := fStrMul_z (nms.length + 1) (by omega) (by omega)
      push_cast [g, show (nms.length : Int) + 1 = ((nms.length + 1 : Nat) : Int) from rfl, hm]
      refine ⟨_, rfl, by trivial, fun hb => ?_⟩
      have h1 : ((List.range (nms.length + 1)).map fun j => zs (j + 1)).Nodup := nd_map List.nodup_range (fun x _ y _ e => by
        have := congrArg Str.length e
        simp only [zs_len] at this
        omega)
      have h2 := nd_le h1 (l2 := nms) (fun x hx => by
        obtain ⟨j, hj2, rfl⟩ := List.mem_map.mp hx
        have := List.mem_range.mp hj2
        by_cases c : j = nms.length
        · subst c; exact hb
        · exact hj j (by omega))
      rw [List.length_map, List.length_range] at h2
      omega
    · push_cast [g]
      exact ⟨s, rfl, by trivial, hs⟩
  obtain ⟨w, q, h, s, rfl, rfl, r⟩ := run
  exact ⟨s, h, r⟩
/-! ### shown -/
def Leafy (v : D) : Prop := nice v = true ∧ nodes v = 1 ∧ v.depth = 0
theorem str_leafy {x : Str} (h1 : x.length ≤ 100) (h2 : sk x = true) : Leafy (.str x) := by
  refine ⟨?_, by simp [nodes], by simp [PyData.depth]⟩
  show ((x.cps.toList.all fun c => decide (c < 0x110000)) && decide (x.length ≤ 100)) = true
  rw [Bool.and_eq_true, decide_eq_true_iff]
  refine ⟨?_, h1⟩
  rw [sk_iff] at h2
  rw [Array.all_toList]
  exact h2
theorem int_leafy {n : Int} (h : n.natAbs ≤ 1000000) : Leafy (.int n) := by
  refine ⟨?_, by simp [nodes], by simp [PyData.depth]⟩
  show decide (n.natAbs.log2 < 1000) = true
  rw [decide_eq_true_iff]
  by_cases c : n.natAbs = 0
  · rw [c]; decide
  · exact Nat.lt_trans ((Nat.log2_lt c).mpr (show n.natAbs < 2 ^ 20 by omega)) (by decide)
theorem dm_leafy {d : Dm} (h : d.Ok) : ∀ v ∈ d.vals, Leafy v := by
  intro v hv
  cases d with
  | op ss =>
    obtain ⟨x, hx, rfl⟩ := List.mem_map.mp hv
    obtain ⟨h1, h2⟩ := h.2.2 x hx
    exact str_leafy h1 h2
  | rg a n =>
    obtain ⟨i, hi, rfl⟩ := List.mem_map.mp hv
    have := List.mem_range.mp hi
    have h1 := h.2.1
    have h2 := h.2.2
    exact int_leafy (by omega)
theorem leafy_all : ∀ {r : List D}, (∀ v ∈ r, Leafy v) → niceAll r = true ∧ nodesAll r = r.length ∧ PyData.depthAll r = 0
  | [], _ => ⟨rfl, rfl, by simp [PyData.depthAll]⟩
  | v :: r, h => by
    obtain ⟨h1, h2, h3⟩ := leafy_all fun u hu => h u (List.mem_cons_of_mem v hu)
    obtain ⟨q1, q2, q3⟩ := h v List.mem_cons_self
    refine ⟨by simp only [niceAll, q1, h1, Bool.and_self], by simp only [nodesAll, q2, h2, List.length_cons]; omega, by simp only [PyData.depthAll, q3, h3, Nat.max_self]⟩
theorem two_df {a b : D} (i : Nat) : ∃ z, (z = a ∨ z = b) ∧ atI [a, b] ((i : Int) % 2) = some z := by
  have hm : (i : Int) % 2 = 0 ∨ (i : Int) % 2 = 1 := by omega
  rcases hm with h | h
  · exact ⟨a, .inl rfl, by rw [h, atI_0]⟩
  · exact ⟨b, .inr rfl, by rw [h, atI_1]⟩
theorem refused_ok (C : Orc) (X : D) (s : Str) (h : C 1057 [.d X, .d (.str s)] = .ex (xUC s) []) : F1058 C [.d X, .d (.str s)] = .ok (.d (.bool true)) [] := by
  refine wpX_run (m := M1058 C) rfl rfl rfl ?_
  simp only [List.map_cons, List.map_nil, List.cons_append, List.nil_append, List.replicate]
  unfold M1058
  push_cast [ev_tryM, h, kTryM_ex]
  simp [hCl, hvLet, hvRet, hvO, hvA, hvN, hvE, hvV, hvEq, hIs, hF, xUC, List.lookup, offV]
  rfl
/-! ### the law -/
structure Df where
  ps : List Pt
  cs : List Cp
  rt : Str
def Df.dat (d : Df) : D := defC d.ps d.cs (.str d.rt)
structure DfOk (d : Df) : Prop where
  ps : PtsOk d.ps
  cs : CsOk d.ps d.cs
  len : d.cs.length ≤ 12
def Df.vars (c : Cp) : List At := varsOf c.as c.pg c.sl
theorem vt_nice {ps : List Pt} (hp : PtsOk ps) {c : Cp} (hc : CpOk ps c) : bRepr [.list ((varsOf c.as c.pg c.sl).map vtA)] = some (.d (.str (PyData.list ((varsOf c.as c.pg c.sl).map vtA)).shown)) := by
  have hl := vars_len hp hc.at_ hc.pg hc.sl
  have hv := vars_vr hp hc.at_ hc.pg hc.sl
  have each : ∀ d ∈ (varsOf c.as c.pg c.sl).map vtA, nice d = true ∧ nodes d ≤ 9 ∧ d.depth ≤ 2 := fun d hd => by
    obtain ⟨a, ha, rfl⟩ := List.mem_map.mp hd
    obtain ⟨h1, h2⟩ := hv a ha
    obtain ⟨s1, s2, s3⟩ := str_leafy (x := a.1) (by have := h1.1; omega) h1.2
    obtain ⟨l1, l2, l3⟩ := leafy_all (dm_leafy h2)
    have hvl := h2.len.2
    refine ⟨?_, ?_, ?_⟩
    · simp only [vtA, nice, niceAll] at s1 ⊢
      simp only [s1, l1, Bool.and_self]
    · simp only [vtA, nodes, nodesAll, l2]
      omega
    · simp only [vtA, PyData.depth, PyData.depthAll, l3]
      omega
  have all : ∀ {ds : List D}, (∀ d ∈ ds, nice d = true ∧ nodes d ≤ 9 ∧ d.depth ≤ 2) → niceAll ds = true ∧ nodesAll ds ≤ 9 * ds.length ∧ PyData.depthAll ds ≤ 2 := fun {ds} => by
    induction ds with
    | nil => intro _; exact ⟨rfl, Nat.zero_le _, by simp [PyData.depthAll]⟩
    | cons v r ih =>
      intro h
      obtain ⟨h1, h2, h3⟩ := ih fun u hu => h u (List.mem_cons_of_mem v hu)
      obtain ⟨q1, q2, q3⟩ := h v List.mem_cons_self
      exact ⟨by simp only [niceAll, q1, h1, Bool.and_self], by simp only [nodesAll, List.length_cons]; omega, by simp only [PyData.depthAll]; omega⟩
  obtain ⟨h1, h2, h3⟩ := all each
  rw [List.length_map] at h2
  exact bRepr_nice (by simp only [nice]; exact h1) (by simp only [nodes]; omega) (by simp only [PyData.depth]; omega)
theorem cnt_one : ∀ {ns : List Str}, ns.Nodup → ∀ {s : Str}, s ∈ ns → (ns.map PyData.str).countP (fun z => PyData.eqv z (.str s)) = 1
  | [], _, s, h => by cases h
  | x :: ns, hn, s, h => by
    rw [List.nodup_cons] at hn
    have zero : ∀ {l : List Str}, s ∉ l → (l.map PyData.str).countP (fun z => PyData.eqv z (.str s)) = 0 := fun {l} hl => by
      rw [List.countP_eq_zero]
      intro z hz
      obtain ⟨y, hy, rfl⟩ := List.mem_map.mp hz
      have : y ≠ s := fun e => hl (e ▸ hy)
      simpa [PyData.eqv] using this
    rw [List.map_cons, List.countP_cons]
    rcases List.mem_cons.mp h with rfl | h
    · rw [zero hn.1]; simp [PyData.eqv]
    · have : x ≠ s := fun e => hn.1 (e ▸ h)
      rw [cnt_one hn.2 h]
      simp [PyData.eqv, this]
theorem shaped_strs {ns : List Str} (h : ∀ s ∈ ns, s.length ≤ 90 ∧ sk s = true) : (SeqAt.shaped (.list (ns.map PyData.str)) = true ∧ noD (.list (ns.map PyData.str)) = true) := by
  have all : ∀ {l : List Str}, (∀ s ∈ l, s.length ≤ 90 ∧ sk s = true) → niceAll (l.map PyData.str) = true ∧ PyData.depthAll (l.map PyData.str) = 0 := fun {l} => by
    induction l with
    | nil => intro _; exact ⟨rfl, by simp [PyData.depthAll]⟩
    | cons v r ih =>
      intro h
      obtain ⟨h1, h2⟩ := ih fun u hu => h u (List.mem_cons_of_mem v hu)
      obtain ⟨q1, q2⟩ := h v List.mem_cons_self
      obtain ⟨s1, s2, s3⟩ := str_leafy (x := v) (by omega) q2
      exact ⟨by simp only [List.map_cons, niceAll, s1, h1, Bool.and_self], by simp only [List.map_cons, PyData.depthAll, s3, h2, Nat.max_self]⟩
  obtain ⟨h1, h2⟩ := all h
  have hn : nice (.list (ns.map PyData.str)) = true := by simp only [nice]; exact h1
  exact ⟨nice_shaped hn (by simp only [PyData.depth]; omega), nice_noD _ hn⟩
theorem fCnt_one {ns : List Str} (hn : ns.Nodup) (h : ∀ s ∈ ns, s.length ≤ 90 ∧ sk s = true) {s : Str} (hs : s ∈ ns) : fCnt (.list (ns.map PyData.str)) (.str s) = some (.d (.int 1)) := by
  obtain ⟨h1, h2⟩ := h s hs
  obtain ⟨s1, s2, s3⟩ := str_leafy (x := s) (by omega) h2
  show (if _ then _ else _) = _
  rw [if_pos ⟨shaped_strs h, nice_shaped s1 (by rw [s3]; decide), nice_noD _ s1⟩, cnt_one hn hs]; rfl
theorem eCn_ok {m b : ME} {e e1 e2 : Env} {zs : List D} {w2 w : W} (h1 : m e = .ok (.l zs) e1) (h2 : b e1 = .ok w2 e2) (h3 : fCnt (.list zs) (vw w2) = some w) : eCn m b e = .ok w e2 := by
  unfold eCn
  rw [h1]
  show bnd (b e1) _ = _
  rw [h2]
  show ofO (fCnt (.list zs) (vw w2)) e2 = _
  rw [h3]; rfl
theorem vtA_0 (a : At) : fIx (vtA a) (.int 0) = some (.d (.str a.1)) := Eq.trans rfl rfl
theorem vrA_0 (a : At) : fIx (vrA a) (.int 0) = some (.d (.str a.1)) := Eq.trans rfl rfl
theorem vrA_1 (a : At) : fIx (vrA a) (.int 1) = some (.d (.list a.2.vals)) := Eq.trans rfl rfl
theorem b0_12 (C : Orc) (d : Df) (hd : DfOk d) (c : Cp) (hcm : c ∈ d.cs) (h1057 : C 1057 [.d d.dat, .d (.str c.nm)] = .ok (.d (.tuple ((varsOf c.as c.pg c.sl).map vtA))) []) (h163 : C 163 [.d d.dat, .d c.dat] = .ok (.d (.list ((varsOf c.as c.pg c.sl).map vrA))) []) (x0 x1 x2 x3 x5 x7 x8 x9 : Option W) :
    M1059b0 C [x0, x1, x2, x3, some (.d d.dat), x5, some (.d c.dat), x7, x8, x9, none, none] = .ok .nx [x0, x1, x2, x3, some (.d d.dat), x5, some (.d c.dat), some (.d (.tuple ((varsOf c.as c.pg c.sl).map vtA))), some (.l ((varsOf c.as c.pg c.sl).map vtA)), x9, none, none] := by
  have hc := hd.cs.ok c hcm
  have hl := vars_len hd.ps hc.at_ hc.pg hc.sl
  have hv := vars_vr hd.ps hc.at_ hc.pg hc.sl
  have hn := vars_nd hd.ps hc.at_ hc.pg hc.sl
  have hr := vt_nice hd.ps hc
  generalize hxs : varsOf c.as c.pg c.sl = xs at *
  have cm1 := cmpT_map (dat := vrA) (tg := tgN 10) (te := eTup [(eO2 fIx (.vr 10) (.ex (eC (.int 0)))), (eB bTuple [(.ex (eO2 fIx (.vr 10) (.ex (eC (.int 1)))))])]) (vs := [10]) (f := vtA) (xs := xs) (e := [x0, x1, x2, x3, some (.d d.dat), x5, some (.d c.dat), some (.d (.tuple (xs.map vtA))), x8, x9, none, none]) (fun a ha => ⟨_, rfl, by
    push_cast [vrA_0, vrA_1]; exact ⟨by first | rfl | trivial, by first | rfl | trivial⟩⟩)
  have cm2 := cmpT_filter (dat := vtA) (tg := tgN 10) (tt := tO2 cGt (.ex (eCn (eLc (iAny (eV 7)) (tgN 11) mYes (eO2 fIx (.vr 11) (.ex (eC (.int 0)))) [11]) (eO2 fIx (.vr 10) (.ex (eC (.int 0)))))) (.ex (eC (.int 1)))) (te := eV 10) (vs := [10]) (p := fun _ => false) (f := vtA) (xs := xs)
    (e := [x0, x1, x2, x3, some (.d d.dat), x5, some (.d c.dat), some (.d (.tuple (xs.map vtA))), some (.l (xs.map vtA)), x9, none, none]) (fun a ha => ⟨[x0, x1, x2, x3, some (.d d.dat), x5, some (.d c.dat), some (.d (.tuple (xs.map vtA))), some (.l (xs.map vtA)), x9, some (.d (vtA a)), none], rfl, by
      have cm3 := cmpT_map (dat := vtA) (tg := tgN 11) (te := eO2 fIx (.vr 11) (.ex (eC (.int 0)))) (vs := [11]) (f := fun b => PyData.str b.1) (xs := xs) (e := [x0, x1, x2, x3, some (.d d.dat), x5, some (.d c.dat), some (.d (.tuple (xs.map vtA))), some (.l (xs.map vtA)), x9, some (.d (vtA a)), none]) (fun b hb => ⟨_, rfl, by
        push_cast [vtA_0]; exact ⟨by first | rfl | trivial, by first | rfl | trivial⟩⟩)
      have cm3 : cmpL (tgN 11) mYes (eO2 fIx (.vr 11) (.ex (eC (.int 0)))) [11] (xs.map vtA) [x0, x1, x2, x3, some (.d d.dat), x5, some (.d c.dat), some (.d (.tuple (xs.map vtA))), some (.l (xs.map vtA)), x9, some (.d (vtA a)), none] = .ok ((xs.map (·.1)).map PyData.str) [x0, x1, x2, x3, some (.d d.dat), x5, some (.d c.dat), some (.d (.tuple (xs.map vtA))), some (.l (xs.map vtA)), x9, some (.d (vtA a)), none] := by rw [cm3, List.map_map]; rfl
      have cn : eCn (eLc (iAny (eV 7)) (tgN 11) mYes (eO2 fIx (.vr 11) (.ex (eC (.int 0)))) [11]) (eO2 fIx (.vr 10) (.ex (eC (.int 0)))) [x0, x1, x2, x3, some (.d d.dat), x5, some (.d c.dat), some (.d (.tuple (xs.map vtA))), some (.l (xs.map vtA)), x9, some (.d (vtA a)), none] = .ok (.d (.int 1)) [x0, x1, x2, x3, some (.d d.dat), x5, some (.d c.dat), some (.d (.tuple (xs.map vtA))), some (.l (xs.map vtA)), x9, some (.d (vtA a)), none] :=
        eCn_ok (zs := (xs.map (·.1)).map PyData.str) (w2 := .d (.str a.1)) (e1 := [x0, x1, x2, x3, some (.d d.dat), x5, some (.d c.dat), some (.d (.tuple (xs.map vtA))), some (.l (xs.map vtA)), x9, some (.d (vtA a)), none]) (by push_cast [cm3]) (by push_cast [vtA_0]) (fCnt_one hn (fun s hs => by obtain ⟨b, hb, rfl⟩ := List.mem_map.mp hs; exact (hv b hb).1) (List.mem_map.mpr ⟨a, ha, rfl⟩))
      push_cast [cn, show decide ((1 : Int) < 1) = false from rfl]
      exact ⟨by trivial, fun _ => by first | rfl | trivial, fun z => by simp at z⟩⟩)
  have hfl : (xs.filter fun _ => false) = [] := by simp
  rw [hfl] at cm2
  unfold M1059b0
  push_cast [h1057, cpD_0, h163, cm1, hr, cNe_str, cm2, List.map_nil, show decide (0 < ((0 : Nat) : Int)) = false from rfl]
theorem b1_12 (C : Orc) (hD : DrawS C) (A B : Df) (hA : DfOk A) (hB : DfOk B) (h1057 : ∀ d : Df, DfOk d → ∀ c ∈ d.cs, C 1057 [.d d.dat, .d (.str c.nm)] = .ok (.d (.tuple ((varsOf c.as c.pg c.sl).map vtA))) [])
    (h163 : ∀ d : Df, DfOk d → ∀ c ∈ d.cs, C 163 [.d d.dat, .d c.dat] = .ok (.d (.list ((varsOf c.as c.pg c.sl).map vrA))) []) (h436 : ∀ nms : List Str, nms.length ≤ 100 → ∃ s : Str, C 436 [.d (.list (nms.map PyData.str))] = .ok (.d (.str s)) [] ∧ s ∉ nms)
    (h1058 : ∀ d : Df, DfOk d → ∀ s : Str, s ∉ d.cs.map Cp.nm → C 1058 [.d d.dat, .d (.str s)] = .ok (.d (.bool true)) []) (i : Nat) {t : List D} (ht : TapeOk t) (x0 x4 x5 x6 x7 x8 x9 : Option W) :
    Wp (M1059b1 C [x0, some (.l t), some (.l [A.dat, B.dat]), some (.d (.int (i : Int))), x4, x5, x6, x7, x8, x9, none, none]) fun o e => o = .nx ∧ ∃ (t' : List D) (y4 y5 y6 y7 y8 y9 : Option W), TapeOk t' ∧ e = [x0, some (.l t'), some (.l [A.dat, B.dat]), some (.d (.int (i : Int))), y4, y5, y6, y7, y8, y9, none, none] := by
  obtain ⟨z, hz, hat⟩ := two_df (a := A.dat) (b := B.dat) i
  obtain ⟨d, rfl, hd⟩ : ∃ d : Df, z = d.dat ∧ DfOk d := by
    rcases hz with rfl | rfl
    · exact ⟨A, rfl, hA⟩
    · exact ⟨B, rfl, hB⟩
  have hlen := hd.len
  have hpp := List.length_pos_iff.mpr hd.ps.ne
  obtain ⟨p0, pr, hps⟩ : ∃ p r, d.ps = p :: r := by
    cases h : d.ps with
    | nil => rw [h] at hpp; cases hpp
    | cons p r => exact ⟨p, r, rfl⟩
  have d0 : fIx d.dat (.int 0) = some (.d (.tuple (ptD p0 :: pr.map ptD))) := by
    show fIx (defC d.ps d.cs (.str d.rt)) (.int 0) = _
    rw [defC_0, hps]; rfl
  have d1 : fIx d.dat (.int 1) = some (.d (.tuple (d.cs.map Cp.dat))) := defC_1 _ _ _
  obtain ⟨s, hs, hsn⟩ := h436 (d.cs.map Cp.nm) (by rw [List.length_map]; omega)
  obtain ⟨k1, t1, h1, ht1, a1, b1⟩ := hD t ht 2 (by decide)
  have cm := cmpT_map (dat := Cp.dat) (tg := tgN 6) (te := eO2 fIx (.vr 6) (.ex (eC (.int 0)))) (vs := [6]) (f := fun c => PyData.str c.nm) (xs := d.cs) (e := [x0, some (.l t), some (.l [A.dat, B.dat]), some (.d (.int (i : Int))), some (.d d.dat), x5, none, x7, x8, x9, none, none]) (fun c hc => ⟨_, rfl, by
    push_cast [cpD_0]; exact ⟨by first | rfl | trivial, by first | rfl | trivial⟩⟩)
  have cm : cmpL (tgN 6) mYes (eO2 fIx (.vr 6) (.ex (eC (.int 0)))) [6] (d.cs.map Cp.dat) [x0, some (.l t), some (.l [A.dat, B.dat]), some (.d (.int (i : Int))), some (.d d.dat), x5, none, x7, x8, x9, none, none] = .ok ((d.cs.map Cp.nm).map PyData.str) [x0, some (.l t), some (.l [A.dat, B.dat]), some (.d (.int (i : Int))), some (.d d.dat), x5, none, x7, x8, x9, none, none] := by rw [cm, List.map_map]; rfl
  obtain ⟨e', g, y6, y7, y8, rfl⟩ := forT_inv (dat := Cp.dat) (tg := tgN 6) (b := M1059b0 C) (xs := d.cs)
    (fun pre e => ∃ y6 y7 y8 : Option W, e = [x0, some (.l t), some (.l [A.dat, B.dat]), some (.d (.int (i : Int))), some (.d d.dat), some (.l ((d.cs.map Cp.nm).map PyData.str)), y6, y7, y8, x9, none, none])
    (e := [x0, some (.l t), some (.l [A.dat, B.dat]), some (.d (.int (i : Int))), some (.d d.dat), some (.l ((d.cs.map Cp.nm).map PyData.str)), none, x7, x8, x9, none, none]) ⟨_, _, _, rfl⟩ (fun pre c post e hx hI => by
      obtain ⟨y6, y7, y8, rfl⟩ := hI
      have hcm : c ∈ d.cs := by rw [hx]; simp
      refine ⟨_, rfl, .nx, _, b0_12 C d hd c hcm (h1057 d hd c hcm) (h163 d hd c hcm) _ _ _ _ _ _ _ _, .inl rfl, _, _, _, rfl⟩)
  have hin := cNotInT_s p0.1 (d.cs.map Cp.nm)
  have r1 := h1058 d hd s hsn
  unfold M1059b1
  by_cases c0 : k1 = 0
  · subst c0
    by_cases hb : p0.1 ∈ d.cs.map Cp.nm
    · rw [decide_eq_true hb] at hin
      push_cast [hat, d1, cm, g, hs, h1, d0, ptD_0, hin, r1]
      exact ⟨by trivial, t1, _, _, _, _, _, _, ht1, rfl⟩
    · have r2 := h1058 d hd p0.1 hb
      rw [decide_eq_false hb] at hin
      push_cast [hat, d1, cm, g, hs, h1, d0, ptD_0, hin, r2]
      exact ⟨by trivial, t1, _, _, _, _, _, _, ht1, rfl⟩
  · have c0 : (k1 == 0) = false := beq_eq_false_iff_ne.mpr c0
    push_cast [hat, d1, cm, g, hs, h1, c0, r1]
    exact ⟨by trivial, t1, _, _, _, _, _, _, ht1, rfl⟩
theorem k12_law (C : Orc) (h4 : ∀ ns : List Int, ∃ t, C 4 [.d (.list (ns.map PyData.int))] = .ok (.l t) [] ∧ TapeOk t) (hD : DrawS C)
    (h395 : ∀ t, TapeOk t → ∃ (d : Df) (t' : List D), C 395 [.l t, .d (.int 12)] = .ok (.d d.dat) [.l t'] ∧ TapeOk t' ∧ DfOk d)
    (h1057 : ∀ d : Df, DfOk d → ∀ c ∈ d.cs, C 1057 [.d d.dat, .d (.str c.nm)] = .ok (.d (.tuple ((varsOf c.as c.pg c.sl).map vtA))) [])
    (h163 : ∀ d : Df, DfOk d → ∀ c ∈ d.cs, C 163 [.d d.dat, .d c.dat] = .ok (.d (.list ((varsOf c.as c.pg c.sl).map vrA))) []) (h436 : ∀ nms : List Str, nms.length ≤ 100 → ∃ s : Str, C 436 [.d (.list (nms.map PyData.str))] = .ok (.d (.str s)) [] ∧ s ∉ nms)
    (h1058 : ∀ d : Df, DfOk d → ∀ s : Str, s ∉ d.cs.map Cp.nm → C 1058 [.d d.dat, .d (.str s)] = .ok (.d (.bool true)) []) (ns : List Int) : F1059 C [.d (.list (ns.map PyData.int))] = .ok (.d (.bool true)) [] := by
  have run : WpC (F1059 C [.d (.list (ns.map PyData.int))]) fun w o => w = .d (.bool true) ∧ o = [] := by
    refine wpC_run (m := M1059 C) rfl rfl rfl ?_
    simp only [List.map_cons, List.map_nil, List.cons_append, List.nil_append, List.replicate]
    unfold M1059
    obtain ⟨t0, e4, ht0⟩ := h4 ns
    obtain ⟨A, t1, e1, ht1, hA⟩ := h395 t0 ht0
    obtain ⟨B, t2, e2, ht2, hB⟩ := h395 t1 ht1
    obtain ⟨e', g, t', y3, y4, y5, y6, y7, y8, y9, _, rfl⟩ := forN_inv (tg := tgN 3) (b := M1059b1 C) (n := 4)
      (fun i e => ∃ (t' : List D) (y3 y4 y5 y6 y7 y8 y9 : Option W), TapeOk t' ∧ e = [some (.d (.list (ns.map PyData.int))), some (.l t'), some (.l [A.dat, B.dat]), y3, y4, y5, y6, y7, y8, y9, none, none])
      (e := [some (.d (.list (ns.map PyData.int))), some (.l t2), some (.l [A.dat, B.dat]), none, none, none, none, none, none, none, none, none]) ⟨t2, _, _, _, _, _, _, _, ht2, rfl⟩ (fun i e hi hI => by
        obtain ⟨t', y3, y4, y5, y6, y7, y8, y9, ht', rfl⟩ := hI
        refine ⟨_, rfl, ?_⟩
        refine (b1_12 C hD A B hA hB h1057 h163 h436 h1058 i ht' _ y4 y5 y6 y7 y8 y9).mono fun o e q => ?_
        obtain ⟨rfl, t3, z4, z5, z6, z7, z8, z9, ht3, rfl⟩ := q
        exact ⟨.inl rfl, t3, _, _, _, _, _, _, _, ht3, rfl⟩)
    push_cast [e4, e1, e2, g]
    exact ⟨by trivial, by trivial⟩
  obtain ⟨w, o, h, rfl, rfl⟩ := run
  exact h
end Mi
namespace L12
open Mi PySem L2
theorem dr (n : Nat) : DrawS (callN (n + 1)) := fun _ ht m hm => draw_ok (callN n) ht m hm
theorem tp (n : Nat) (ns : List Int) : ∃ t, callN (n + 1) 4 [.d (.list (ns.map PyData.int))] = .ok (.l t) [] ∧ TapeOk t := tape_ok (callN n) ns
theorem q38 (n : Nat) : callN (n + 1) 38 = F38 (callN n) := rfl
theorem q39 (n : Nat) : callN (n + 1) 39 = F39 (callN n) := rfl
theorem q41 (n : Nat) : callN (n + 1) 41 = F41 (callN n) := rfl
theorem q42 (n : Nat) : callN (n + 1) 42 = F42 (callN n) := rfl
theorem q43 (n : Nat) : callN (n + 1) 43 = F43 (callN n) := rfl
theorem q415 (n : Nat) : callN (n + 1) 415 = F415 (callN n) := rfl
theorem q124 (n : Nat) : callN (n + 1) 124 = F124 (callN n) := rfl
theorem q126 (n : Nat) : callN (n + 1) 126 = F126 (callN n) := rfl
theorem q154 (n : Nat) : callN (n + 1) 154 = F154 (callN n) := rfl
theorem q155 (n : Nat) : callN (n + 1) 155 = F155 (callN n) := rfl
theorem q156 (n : Nat) : callN (n + 1) 156 = F156 (callN n) := rfl
theorem q157 (n : Nat) : callN (n + 1) 157 = F157 (callN n) := rfl
theorem q158 (n : Nat) : callN (n + 1) 158 = F158 (callN n) := rfl
theorem q394 (n : Nat) : callN (n + 1) 394 = F394 (callN n) := rfl
theorem q395 (n : Nat) : callN (n + 1) 395 = F395 (callN n) := rfl
theorem q396 (n : Nat) : callN (n + 1) 396 = F396 (callN n) := rfl
theorem q162 (n : Nat) : callN (n + 1) 162 = F162 (callN n) := rfl
theorem q163 (n : Nat) : callN (n + 1) 163 = F163 (callN n) := rfl
theorem q436 (n : Nat) : callN (n + 1) 436 = F436 (callN n) := rfl
theorem q1056 (n : Nat) : callN (n + 1) 1056 = F1056 (callN n) := rfl
theorem q1057 (n : Nat) : callN (n + 1) 1057 = F1057 (callN n) := rfl
theorem q1058 (n : Nat) : callN (n + 1) 1058 = F1058 (callN n) := rfl
theorem q1059 (n : Nat) : callN (n + 1) 1059 = F1059 (callN n) := rfl
theorem wds (n : Nat) : Words1S (callN (n + 3)) := fun t ht k h1 h2 => by rw [q39]; exact words_ok1 _ (dr (n + 1)) (fun t ht stem hs hk hp => by rw [q38]; exact word_ok1 _ (dr n) ht stem hs hk hp) ht k h1 h2
theorem opn (n : Nat) : Option1S (callN (n + 2)) := fun t ht => by rw [q41]; exact option_ok1 _ (dr n) ht
theorem opns (n : Nat) (t : List D) (ht : TapeOk t) : ∃ (ss : List Str) (t' : List D), callN (n + 3) 42 [.l t] = .ok (.d (.list (ss.map PyData.str))) [.l t'] ∧ TapeOk t' ∧ ss.length = 3 ∧ ∀ s ∈ ss, s.length ≤ 100 ∧ sk s = true := by
  rw [q42]; exact options_ok1 _ (dr (n + 1)) (opn n) ht
theorem lef (n : Nat) {ps : List (Str × Str)} {os : List Str} (hv : VO1 ps os) : Leaf1S (callN (n + 2)) ps (.list (ps.map vpD)) (.list (os.map PyData.str)) := fun t ht k hk => by rw [q43]; exact leaf_ok1 _ (dr n) hv k hk ht
theorem expr {ps : List (Str × Str)} {os : List Str} (hv : VO1 ps os) : ∀ (d : Nat), d ≤ 100 → ∀ n, ExprS (callN (n + 3 + d)) ps (.list (ps.map vpD)) (.list (os.map PyData.str)) (d + 1)
  | 0, hd, n => fun t ht k hk p hp hp2 => by
    rw [q415]
    exact expression_ok _ (dr (n + 1)) _ _ _ (lef n hv) 0 hd (fun h => absurd h (by omega)) ht k hk p hp hp2
  | d + 1, hd, n => fun t ht k hk p hp hp2 => by
    rw [show n + 3 + (d + 1) = (n + 3 + d) + 1 by omega, q415]
    exact expression_ok _ (by rw [show n + 3 + d = (n + 2 + d) + 1 by omega]; exact dr _) _ _ _ (by rw [show n + 3 + d = (n + 1 + d) + 2 by omega]; exact lef _ hv) (d + 1) hd (fun _ => expr hv d (by omega) n) ht k hk p hp hp2
theorem col (n : Nat) : ColS (callN (n + 1)) := fun d h => by rw [q154]; exact column_ok _ d h
theorem mny (n : Nat) : ManyS (callN (n + 2)) := fun as h => by rw [q155]; exact many_ok _ (col n) as h
theorem dom (n : Nat) (os : List Str) (h1 : os.length = 4) (h2 : ∀ s ∈ os, s.length ≤ 100 ∧ sk s = true) : DomS (callN (n + 2)) os := fun t ht m h3 h4 => by rw [q156]; exact domain_ok _ (dr n) os h1 h2 m h3 h4 ht
theorem att (n : Nat) (os ws : List Str) (hw : WsOk ws) (h1 : os.length = 4) (h2 : ∀ s ∈ os, s.length ≤ 100 ∧ sk s = true) : AttS (callN (n + 3)) os ws := fun t ht m h3 room => by
  rw [q157]; exact attributes_ok _ (dr (n + 1)) os ws hw (dom n os h1 h2) (col (n + 1)) m h3 room ht
theorem tab (n : Nat) (os : List Str) (h1 : os ≠ []) : TabS1 (callN (n + 2)) os := fun vs h2 h3 h4 t ht => by rw [q158]; exact table_ok _ (dr n) os h1 vs h2 h3 h4 ht
theorem prt (n : Nat) (X Y : D) (ps : List Pt) (hX : fIx X (.int 0) = some (.d Y)) (hY : SeqD Y (ps.map ptD)) (hp : PtsOk ps) : PortS (callN (n + 1)) X ps := fun p h => by
  rw [q162]; exact law_port_ok _ X Y ps hX hY hp.nd p h
theorem vrs (n : Nat) (ps : List Pt) (hp : PtsOk ps) : VarsS (callN (n + 2)) ps := fun pg hg as ha sl hs nm => by
  rw [q163]
  exact all_variables_ok _ (col n) (defL ps) _ _ ps hp (prt n (defL ps) _ ps (defL_0 ps) (.inl rfl) hp) pg hg as ha sl hs (Eq.trans rfl rfl) (Eq.trans rfl rfl) (Eq.trans rfl rfl) (.inl rfl)
theorem cmp (n : Nat) (os ws : List Str) (hw : WsOk ws) (h1 : os.length = 4) (h2 : ∀ s ∈ os, s.length ≤ 100 ∧ sk s = true) : CmpS (callN (n + 10)) os ws 12 := fun ps hp nm t ht => by
  rw [q394]
  exact component_ok _ (dr (n + 8)) os ws h1 h2 hw ps hp (att (n + 6) os ws hw h1 h2) (mny (n + 7)) (vrs (n + 7) ps hp) (tab (n + 7) os (fun z => by rw [z] at h1; cases h1)) (fun qs vo => expr vo 4 (by decide) (n + 2)) 12 (by decide) nm ht
theorem dfd (n : Nat) (ws : List Str) (hw : WsOk ws) (t : List D) (ht : TapeOk t) : ∃ (ps : List Pt) (cs : List Cp) (root : Str) (t' : List D), callN (n + 11) 396 [.l t, .d (.int ((12 : Nat) : Int)), .d (.list (ws.map PyData.str))] = .ok (.d (defD ps (.tuple (cs.map Cp.dat)) (.str root))) [.l t'] ∧ TapeOk t' ∧ PtsOk ps ∧ CsOk ps cs ∧ cs.length ≤ 12 ∧ root ∈ ps.map (·.1) := by
  rw [q396]
  exact defined_ok _ (dr (n + 9)) ws hw 12 (opns (n + 7)) (opn (n + 8)) (fun os h1 h2 => att (n + 7) os ws hw h1 h2) (fun os h1 h2 => cmp n os ws hw h1 h2) ht
theorem dfn (n : Nat) (t : List D) (ht : TapeOk t) : ∃ (ps : List Pt) (cs : List Cp) (root : Str) (t' : List D), callN (n + 12) 395 [.l t, .d (.int 12)] = .ok (.d (defD ps (.tuple (cs.map Cp.dat)) (.str root))) [.l t'] ∧ TapeOk t' ∧ PtsOk ps ∧ CsOk ps cs ∧ cs.length ≤ 12 ∧ root ∈ ps.map (·.1) := by
  rw [q395]
  exact definition_ok _ 12 (wds (n + 8)) (fun ws hw t ht => dfd n ws hw t ht) ht
theorem vlu (n : Nat) (d : Dm) (h : d.Ok) : callN (n + 1) 124 [.d d.dat] = .ok (.d (.tuple d.vals)) [] := by rw [q124]; exact values_ok _ d h
theorem avs (n : Nat) (d : Df) (hd : DfOk d) (c : Cp) (hcm : c ∈ d.cs) : callN (n + 2) 163 [.d d.dat, .d c.dat] = .ok (.d (.list ((varsOf c.as c.pg c.sl).map vrA))) [] := by
  rw [q163]
  have hc := hd.cs.ok c hcm
  exact all_variables_ok _ (col n) d.dat c.dat _ d.ps hd.ps (prt n d.dat _ d.ps (defC_0 _ _ _) (.inr rfl) hd.ps) c.pg hc.pg c.as hc.at_ c.sl hc.sl (cpD_1 c) (cpD_2 c) (cpD_3 c) (.inr rfl)
theorem vso (n : Nat) (d : Df) (hd : DfOk d) (c : Cp) (hcm : c ∈ d.cs) : callN (n + 2) 1057 [.d d.dat, .d (.str c.nm)] = .ok (.d (.tuple ((varsOf c.as c.pg c.sl).map vtA))) [] := by
  rw [q1057]
  have hc := hd.cs.ok c hcm
  exact variables_of_ok _ d.ps hd.ps d.cs (.str d.rt) c hc (by rw [q1056]; exact component_of_ok _ d.ps d.cs _ hd.cs.nd c hcm) (by rw [q126]; exact domains_of_ok _ d.ps hd.ps c hc) (vlu n)
theorem rfd (n : Nat) (d : Df) (s : Str) (hs : s ∉ d.cs.map Cp.nm) : callN (n + 3) 1058 [.d d.dat, .d (.str s)] = .ok (.d (.bool true)) [] := by
  rw [q1058]
  exact refused_ok _ _ s (by rw [q1057]; exact variables_of_X _ d.ps d.cs (.str d.rt) s (by rw [q1056]; exact component_of_X _ d.ps d.cs _ s hs))
theorem dff (n : Nat) (t : List D) (ht : TapeOk t) : ∃ (d : Df) (t' : List D), callN (n + 12) 395 [.l t, .d (.int 12)] = .ok (.d d.dat) [.l t'] ∧ TapeOk t' ∧ DfOk d := by
  obtain ⟨ps, cs, root, t', h1, h2, h3, h4, h5, _⟩ := dfn n t ht
  exact ⟨⟨ps, cs, root⟩, t', h1, h2, ⟨h3, h4, h5⟩⟩
theorem math : ∀ ns : List Int, ns.length ≤ 63 → callN 40 1059 [.d (.list (ns.map .int))] = .ok (.d (.bool true)) [] := fun ns _ => by
  rw [show (40 : Nat) = 39 + 1 from rfl, q1059]
  exact k12_law (callN 39) (tp 38) (dr 38) (dff 27) (fun d hd c hc => vso 37 d hd c hc) (fun d hd c hc => avs 37 d hd c hc) (fun nms h => by rw [show (39 : Nat) = 38 + 1 from rfl, q436]; exact strange_ok _ nms h) (fun d _ s hs => rfd 36 d s hs) ns
end L12
open PySem PySem.W PySem.Calls PyProof.Rows
set_option maxRecDepth 100000 in
set_option maxHeartbeats 0 in
theorem PySem.Challenge.cw_slotwise_k12_variables_of_components_holds : PySem.Challenge.rw_slotwise_k12_variables_of_components.Holds := by
  w_on; o_law
  refine HandSHeadRun.head_any (r := OpenLaw.row PySem.Challenge.rw_slotwise_k12_variables_of_components) (q := view (OpenLaw.row PySem.Challenge.rw_slotwise_k12_variables_of_components).prog [33]) (H := L12.hk) (ob := L12.ob) (M := 5000) (loose := L12.names) (d := HandSHeadRun.topDef (OpenLaw.row PySem.Challenge.rw_slotwise_k12_variables_of_components).prog 33) (kwd := []) L12.ob_eq
    (by kernel_rfl) (fun s => by kernel_rfl) L12.run (by kernel_rfl) (by kernel_rfl) (by kernel_rfl) (by rfl) (by first | assumption | decide +kernel) (by decide +kernel) ⟨rfl, rfl, rfl, rfl, rfl, by decide +kernel⟩ ?hw ?hc
  case hw => w_witness2
  case hc =>
    refine Mi.walkG (l := PySem.Challenge.rw_slotwise_k12_variables_of_components) (n := 63) (k := 40) (x := "_law_script") rfl (by decide) (by kernel_rfl) ⟨rfl, by decide, by decide⟩ ?F
    intro w mg fa h Y G hmg0
    obtain ⟨K, KX, c⟩ := Y
    have hd := L12.hd_of KX G c
    obtain ⟨f, fd, hm, F⟩ := hd.d1059
    have hmg : mg ("law" : PySem.Str) = some (.ref fa) := by
      have e : (HandSHeadRun.topDef (OpenLaw.row PySem.Challenge.rw_slotwise_k12_variables_of_components).prog 33).name = ("law" : PySem.Str) := by kernel_rfl
      rw [← e]
      exact hmg0
    have e := hm.symm.trans hmg
    cases e
    have b := L2.FunD.bindsA (ps := L12.ps_law) F fun _ _ _ _ _ _ us hl => match us, hl with | [_], _ => rfl
    exact ⟨K, fd, L12.callN 40 1059, KX, fun s v => b s [v] rfl, L12.math, fun base _ _ => Mi.lawF F L12.sc_law rfl rfl rfl fun Pl hP cdv A outer s H o => Mi.one_P hP ▸ L12.s_law (L12.cals hd 39) o⟩
