import PyProof.Rows.All
import Wide.All
import OpenK.AllK
import Wide.FinOn
import Lean
import PySem.Challenge.RW_pq0404_01
open PySem PySem.W PyProof.Rows PySem.Calls
set_option Elab.async false
set_option maxRecDepth 100000
set_option maxHeartbeats 8000000
set_option linter.unusedVariables false
set_option compiler.extract_closed false
set_option hygiene false
namespace Mine
theorem hold1 {P : Prop} (_hw : True) (hc : P) : P := hc
section
local macro_rules | `(tactic| o_head $_) => `(tactic| refine hold1 ?hw ?hc)
local macro_rules | `(tactic| w_witness2) => `(tactic| trivial)
open_top hd for PySem.Challenge.rw_pq0404_01.row
end
theorem rm1 {d a k c x l : Nat} (h : d + a < l) (e : x = d + k) (f : Nat.ble (k + c) a = true) : x + c < l := by
  have := Nat.le_of_ble_eq_true f; omega
theorem rm0 {d a c l : Nat} (h : d + a < l) (f : Nat.ble c a = true) : d + c < l := by
  have := Nat.le_of_ble_eq_true f; omega
theorem rmD {d a k c x : Nat} (h : d + a < 600) (e : x = d + k) (f : Nat.ble (k + c) 400 = true) : x + c < recursionLimit := by
  have := Nat.le_of_ble_eq_true f; show _ < 1000; omega
theorem rmD0 {d a c : Nat} (h : d + a < 600) (f : Nat.ble c 400 = true) : d + c < recursionLimit := by
  have := Nat.le_of_ble_eq_true f; show _ < 1000; omega
theorem rmU {d a k c x : Nat} (h : d + a < 900) (e : x = d + k) (f : Nat.ble (k + c) 9000 = true) : x + c < cLine := by
  have := Nat.le_of_ble_eq_true f; show _ < 9900; omega
theorem rmU0 {d a c : Nat} (h : d + a < 900) (f : Nat.ble c 9000 = true) : d + c < cLine := by
  have := Nat.le_of_ble_eq_true f; show _ < 9900; omega
theorem bd0 {b m n : Nat} (h : b ≤ m) (e : Nat.ble m n = true) : b ≤ n := Nat.le_trans h (Nat.le_of_ble_eq_true e)
theorem bd1 {b m n k : Nat} (h : b ≤ m) (e : Nat.ble (m + k) n = true) : b + k ≤ n := Nat.le_trans (Nat.add_le_add_right h k) (Nat.le_of_ble_eq_true e)
theorem bd2 {b m n k l : Nat} (h : b ≤ m) (e : Nat.ble (m + k + l) n = true) : b + k + l ≤ n := Nat.le_trans (Nat.add_le_add_right (Nat.add_le_add_right h k) l) (Nat.le_of_ble_eq_true e)
theorem bd3 {b m n k l j : Nat} (h : b ≤ m) (e : Nat.ble (m + k + l + j) n = true) : b + k + l + j ≤ n := Nat.le_trans (Nat.add_le_add_right (Nat.add_le_add_right (Nat.add_le_add_right h k) l) j) (Nat.le_of_ble_eq_true e)
theorem rmZ {d a x : Nat} (h : d + a < 600) (e : x = d) : x < recursionLimit := by
  show _ < 1000; omega
theorem bd4 {b m n k l j i : Nat} (h : b ≤ m) (e : Nat.ble (m + k + l + j + i) n = true) : b + k + l + j + i ≤ n := Nat.le_trans (Nat.add_le_add_right (Nat.add_le_add_right (Nat.add_le_add_right (Nat.add_le_add_right h k) l) j) i) (Nat.le_of_ble_eq_true e)
theorem leN {b n c : Nat} (k : Nat) (h : Nat.ble k c = true) : b + k ≤ b + n + c := Nat.le_trans (Nat.add_le_add_left (Nat.le_of_ble_eq_true h) b) (Nat.add_le_add_right (Nat.le_add_right b n) c)
theorem leK {b c : Nat} (k : Nat) (h : Nat.ble k c = true) : b + k ≤ b + c := Nat.add_le_add_left (Nat.le_of_ble_eq_true h) b
theorem ne1 {j z : Nat} (h : j < z) : j ≠ z + 1 := Nat.ne_of_lt (Nat.lt_succ_of_lt h)
theorem neS {z : Nat} : z ≠ z + 1 := Nat.ne_of_lt (Nat.lt_succ_self z)
theorem lt2 {j z : Nat} (h : j < z) : j < z + 1 + 1 := Nat.lt_succ_of_lt (Nat.lt_succ_of_lt h)
theorem lt5 {j z : Nat} (h : j < z + 1 + 1) : j < z + 1 + 1 + 3 := Nat.lt_of_lt_of_le h (Nat.le_add_right _ 3)
theorem ls2 {z : Nat} : z < z + 1 + 1 := Nat.lt_succ_of_lt (Nat.lt_succ_self z)
theorem gt3 {z : Nat} (h : 14 ≤ z) : 3 < z := Nat.lt_of_lt_of_le (Nat.le_of_ble_eq_true rfl) h
theorem ne3 {z : Nat} (h : 14 ≤ z) : z ≠ 3 := Nat.ne_of_gt (gt3 h)
theorem gtI {z i : Nat} (h : 14 ≤ z) (e : Nat.ble (i + 1) 14 = true) : i < z := Nat.lt_of_lt_of_le (Nat.le_of_ble_eq_true e) h
theorem neI {z i : Nat} (h : 14 ≤ z) (e : Nat.ble (i + 1) 14 = true) : z ≠ i := Nat.ne_of_gt (gtI h e)
theorem lt14 {i z : Nat} (h : 14 ≤ z) (k : i < 14) : i < z := Nat.lt_of_lt_of_le k h
theorem lt4 {c d : Nat} (h : c < d) (k : (d : Int) < 4) : c < 4 := by omega
theorem leM {d : Nat} (k : (d : Int) < 4) : d ≤ 1000000 := by omega
theorem le3 {n d : Nat} (h : n = d) (k : (d : Int) < 4) : n ≤ 3 := by omega
theorem leV {n i d : Nat} (h : n = i) (hi : i < d) (k : (d : Int) < 4) : n ≤ 1000000 := by omega
theorem jn3 {z j : Nat} (hz : 14 ≤ z) (h : z + 1 + 1 ≤ j) : j ≠ 3 := by omega
theorem bl8 {b i d : Nat} (k : (d : Int) < 4) : b + 1 + 8 * i + 1 + 1 + d ≤ b + 1 + 8 * (i + 1) := by omega
theorem bl9 {b d : Nat} (k : (d : Int) < 4) : b + 1 + 8 * d ≤ b + 40 := by omega
theorem blB {b i : Nat} (hb : b ≤ 900000) (hi : i < 4) : b + 1 + 8 * i ≤ 901000 := by omega
theorem blC {a c : Nat} (hb : a ≤ 901000) (hi : c < 4) : a + 1 + 1 + c ≤ 902000 := by omega
theorem bo1 {b i v : Nat} (hb : b ≤ 900000) (hi : i < v) (h3 : v ≤ 3) : b + 4 + 20 * i ≤ 901000 := by omega
theorem bo2 {a i v : Nat} (hb : a ≤ 901000) (hi : i < v) (h3 : v ≤ 3) : a + 2 + 5 * i ≤ 902000 := by omega
theorem bo3 {a c : Nat} : a + 5 * c + 2 ≤ a + 5 * (c + 1) := by omega
theorem bo4 {a c : Nat} : a + 5 * c + 1 ≤ a + 5 * (c + 1) := by omega
theorem bo5 {l m i c : Nat} (h : m ≤ 4 * i + 1 + c) (k : l ≤ m + 1) : l ≤ 4 * i + 1 + (c + 1) := by omega
theorem bo6 {b i v : Nat} (h : v ≤ 3) : b + 4 + 20 * i + 2 + 5 * v ≤ b + 4 + 20 * (i + 1) := by omega
theorem bo7 {l i v : Nat} (h : l ≤ 4 * i + 1 + v) (k : v ≤ 3) : l ≤ 4 * (i + 1) := by omega
theorem bo8 {b v : Nat} (k : v ≤ 3) : b + 4 + 20 * v ≤ b + 100 := by omega
theorem bo9 {l v : Nat} (h : l ≤ 4 * v) (k : v ≤ 3) : l ≤ 12 := by omega
theorem boA {l m i : Nat} (h : m ≤ 4 * i) (k : l ≤ m + 1) : l ≤ 4 * i + 1 + 0 := by omega
theorem boB {a : Nat} : a + 1 ≤ a + 2 + 5 * 0 := by omega
theorem boC {a : Int} {c : Nat} : a + 1900 * (c : Int) + 1900 = a + 1900 * ((c + 1 : Nat) : Int) := by omega
theorem boD {a : Int} {n m : Nat} (h : n = m) : a + 2400 + 1900 * (n : Int) = a + (2400 + 1900 * (m : Int)) := by omega
theorem boE {a : Int} : a = a + 1900 * ((0 : Nat) : Int) := by omega
theorem bk1 {a b l n m : Nat} (e : l = n) (h : l = m + 1) (le : n ≤ a) : b + a - n + 1 ≤ b + a - m := by omega
theorem bk2 {a l n m : Nat} (e : l = n) (h : m ≤ l) : a - n ≤ a - m := Nat.sub_le_sub_left (e ▸ h) a
theorem bk3 {a b n : Nat} (hb : b ≤ 450000) (h : a ≤ b) : b + a - n ≤ 900000 := by omega
theorem bk4 {a b : Nat} : b ≤ b + a - a := by omega

abbrev Led := List (Addr × Obj)
/-- the places of the mutable objects: 0, 1, 2 the storages of the three accounts -/
abbrev iFd : Nat := 3
abbrev iSd : Nat := 4
abbrev iJl : Nat := 5
abbrev iTd : Nat := 6
abbrev iWo : Nat := 7
abbrev iWs : Nat := 8
abbrev iOg : Nat := 9
abbrev iBk : Nat := 10
abbrev iWl : Nat := 11
abbrev iWd : Nat := 12
abbrev iMl : Nat := 13

def upd {α : Type} (σ : Nat → α) (i : Nat) (o : α) : Nat → α := fun j => if j = i then o else σ j
theorem upd_self {α : Type} (σ : Nat → α) (i : Nat) (o : α) : upd σ i o i = o := by simp [upd]
theorem upd_ne {α : Type} (σ : Nat → α) {i j : Nat} (o : α) (h : j ≠ i) : upd σ i o j = σ j := by simp [upd, h]

/-- the ledger: z mutable objects, the fourteen and the loops' own; imm never turns -/
structure Sys (z : Nat) (lay : Nat → Addr) (σ : Nat → Obj) (imm news : Led) : Prop where
  le : 14 ≤ z
  inj : ∀ i j, i < z → j < z → lay i = lay j → i = j
  mem' : ∀ i, i < z → (lay i, σ i) ∈ news
  sub : ∀ p ∈ imm, p ∈ news
  off : ∀ p ∈ imm, ∀ i, i < z → p.1 ≠ lay i
  lo : ∀ i, i < 14 → (lay i == sysModules) = false

section
variable {z : Nat} {lay : Nat → Addr} {σ : Nat → Obj} {imm news : Led} {h₀ h h' : Heap} {L : Addr} {m : Str → Option Value}

theorem Sys.up (S : Sys z lay σ imm news) {i : Nat} (hi : i < 14) : i < z := Nat.lt_of_lt_of_le hi S.le
theorem Sys.mem (S : Sys z lay σ imm news) (i : Nat) (hi : i < 14) : (lay i, σ i) ∈ news := S.mem' i (S.up hi)
theorem Sys.mem_eq (S : Sys z lay σ imm news) {i : Nat} {o : Obj} (hi : i < 14) (e : σ i = o) : (lay i, o) ∈ news := e ▸ S.mem i hi

theorem Sys.cons (S : Sys z lay σ imm news) (p : Addr × Obj) : Sys z lay σ imm (p :: news) :=
  ⟨S.le, S.inj, fun i hi => .tail _ (S.mem' i hi), fun q hq => .tail _ (S.sub q hq), S.off, S.lo⟩

/-- a fresh object that is never turned -/
theorem Sys.keep1 (S : Sys z lay σ imm news) {p : Addr × Obj} (hp : p ∈ news) (hf : ∀ i, i < z → p.1 ≠ lay i) : Sys z lay σ (p :: imm) news :=
  ⟨S.le, S.inj, S.mem', fun q hq => by rcases List.mem_cons.mp hq with rfl | hq; exact hp; exact S.sub q hq,
    fun q hq => by rcases List.mem_cons.mp hq with rfl | hq; exact hf; exact S.off q hq, S.lo⟩

theorem Sys.lt_of (S : Sys z lay σ imm news) {q : Addr} (hl : ∀ p ∈ news, p.1 < q) : ∀ i, i < z → q ≠ lay i := fun i hi e =>
  absurd (hl _ (S.mem' i hi)) (by rw [← e]; exact Nat.lt_irrefl _)

theorem Sys.push (S : Sys z lay σ imm news) {q : Addr} {o : Obj} (hl : ∀ p ∈ news, p.1 < q) : Sys z lay σ ((q, o) :: imm) ((q, o) :: news) :=
  (S.cons (q, o)).keep1 (.head _) (S.lt_of hl)

/-- the ledger with one object written anew -/
def put (d : Addr) (o : Obj) (news : Led) : Led := (d, o) :: news.filter fun p => decide (p.1 ≠ d)
theorem put_off (d : Addr) (news : Led) : ∀ p ∈ (news.filter fun p => decide (p.1 ≠ d)), p.1 ≠ d := fun p hp => by simpa using (List.mem_filter.mp hp).2
theorem mem_put {d : Addr} {o : Obj} {news : Led} {p : Addr × Obj} (hp : p ∈ news) (hd : p.1 ≠ d) : p ∈ put d o news := .tail _ (List.mem_filter.mpr ⟨hp, by simpa using hd⟩)

theorem news_sub {news' : Led} (N : News h₀ L h news) (hs : ∀ p ∈ news', p ∈ news) : News h₀ L h news' := fun p hp => N p (hs p hp)
theorem Sys.focus (S : Sys z lay σ imm news) (N : News h₀ L h news) {i : Nat} (hi : i < z) : News h₀ L h (put (lay i) (σ i) news) :=
  news_sub N fun p hp => by
    rcases List.mem_cons.mp hp with rfl | hp
    · exact S.mem' i hi
    · exact (List.mem_filter.mp hp).1
theorem Sys.write (S : Sys z lay σ imm news) {i : Nat} (hi : i < z) (o' : Obj) : Sys z lay (upd σ i o') imm (put (lay i) o' news) :=
  ⟨S.le, S.inj, fun j hj => by
      by_cases e : j = i
      · subst e; rw [upd_self]; exact .head _
      · rw [upd_ne _ _ e]; exact mem_put (S.mem' j hj) fun q => e (S.inj j i hj hi q),
    fun p hp => mem_put (S.sub p hp) (S.off p hp i hi), S.off, S.lo⟩

theorem Sys.change {o' : Obj} (S : Sys z lay σ imm news) {i : Nat} (hi : i < z) (F : Fr h₀ L h m) (N : News h₀ L h news) (hs : Heap.SameBut (lay i) h h') (ho : h'.get? (lay i) = some o') :
    Fr h₀ L h' m ∧ News h₀ L h' (put (lay i) o' news) := by
  have M := N _ (S.mem' i hi)
  refine ⟨F.change hs M.2.1 M.2.2, fun p hp => ?_⟩
  rcases List.mem_cons.mp hp with rfl | hp
  · exact ⟨ho, M.2.1, M.2.2⟩
  · have q := List.mem_filter.mp hp
    have hne : p.1 ≠ lay i := by simpa using q.2
    have P := N p q.1
    exact ⟨(hs.2 p.1 hne).trans P.1, P.2⟩
/-- one more mutable object -/
theorem Sys.more (S : Sys z lay σ imm news) {q : Addr} {o : Obj} (hm : (q, o) ∈ news) (h1 : ∀ i, i < z → q ≠ lay i) (h2 : ∀ p ∈ imm, p.1 ≠ q) : Sys (z + 1) (upd lay z q) (upd σ z o) imm news :=
  ⟨Nat.le_succ_of_le S.le, fun i j hi hj e => by
      by_cases a : i = z <;> by_cases b : j = z
      · rw [a, b]
      · subst a; rw [upd_self, upd_ne _ _ b] at e; exact absurd e (h1 j (by omega))
      · subst b; rw [upd_self, upd_ne _ _ a] at e; exact absurd e.symm (h1 i (by omega))
      · rw [upd_ne _ _ a, upd_ne _ _ b] at e; exact S.inj i j (by omega) (by omega) e,
    fun i hi => by
      by_cases a : i = z
      · subst a; rw [upd_self, upd_self]; exact hm
      · rw [upd_ne _ _ a, upd_ne _ _ a]; exact S.mem' i (by omega),
    S.sub, fun p hp i hi => by
      by_cases a : i = z
      · subst a; rw [upd_self]; exact h2 p hp
      · rw [upd_ne _ _ a]; exact S.off p hp i (by omega),
    fun i hi => by rw [upd_ne _ _ (by have := S.le; omega)]; exact S.lo i hi⟩
/-- one less -/
theorem Sys.less (S : Sys (z + 1) lay σ imm news) (hz : 14 ≤ z) : Sys z lay σ imm (news.filter fun p => decide (p.1 ≠ lay z)) :=
  ⟨hz, fun i j hi hj e => S.inj i j (by omega) (by omega) e, fun i hi => List.mem_filter.mpr ⟨S.mem' i (by omega), by
      simp only [decide_eq_true_eq]; intro e; have := S.inj i z (by omega) (by omega) e; omega⟩,
    fun p hp => List.mem_filter.mpr ⟨S.sub p hp, by simp only [decide_eq_true_eq]; exact S.off p hp z (by omega)⟩, fun p hp i hi => S.off p hp i (by omega), S.lo⟩
end

section
variable {prog : Program} {w : World} {A : Around} {E : Value → Shared → Prop} {s : Shared} {h₀ : Heap} {L : Addr} {m : Str → Option Value} {z : Nat} {lay : Nat → Addr} {σ : Nat → Obj} {imm news : Led}

/-- a dict by ints or strs: what it answers, at most b entries -/
def KeyD {K : Type} [DecidableEq K] (knd : KeyKind prog w K) (o : Obj) (f : K → Option Value) (b : Nat) : Prop :=
  ∃ kvs, o.IsDictOf knd kvs ∧ (∀ k, valueAt kvs k = f k) ∧ kvs.length ≤ b
abbrev IntD (prog : Program) (w : World) (o : Obj) (f : Int → Option Value) (b : Nat) : Prop := KeyD (intKind prog w) o f b
abbrev StrD (prog : Program) (w : World) (o : Obj) (f : Str → Option Value) (b : Nat) : Prop := KeyD (strKind prog w) o f b
/-- a dict by pairs of ints -/
def TupD (prog : Program) (w : World) (imm : Led) (o : Obj) (f : List Int → Option Value) (b : Nat) : Prop :=
  ∃ es ep xs, o.ExactDict ∧ o.data = .dict es ep ∧ es.toList = xs.map (entryOfKey (tupleKind (intKind prog w))) ∧ (xs.map (·.1)).Nodup ∧
    (∀ x ∈ xs, ∃ ok, (x.2.1, ok) ∈ imm ∧ TupKeyObj (intKind prog w) x.1 ok) ∧ (∀ k, (atKey xs k).map (·.2) = f k) ∧ xs.length ≤ b

abbrev tupO (vs : List Value) : Obj := { cls := .type "tuple", data := .seq vs.toArray }

theorem pairKey (prog : Program) (w : World) (p k : Int) (t u : Tok) : TupKeyObj (intKind prog w) [p, k] (tupO [.int p t, .int k u]) :=
  TupKeyObj.made (.cons (intKind_is prog w p t) (.cons (intKind_is prog w k u) .nil))

theorem TupD.mono {o : Obj} {f : List Int → Option Value} {b : Nat} (T : TupD prog w imm o f b) {imm' : Led} (h : ∀ p ∈ imm, p ∈ imm') {b' : Nat} (hb : b ≤ b') : TupD prog w imm' o f b' :=
  by obtain ⟨es, ep, xs, a, b1, c, d, e, f', g⟩ := T; exact ⟨es, ep, xs, a, b1, c, d, fun x hx => (e x hx).imp fun ok k => ⟨h _ k.1, k.2⟩, f', Nat.le_trans g hb⟩
theorem KeyD.mono {K : Type} [DecidableEq K] {knd : KeyKind prog w K} {o : Obj} {f : K → Option Value} {b : Nat} (T : KeyD knd o f b) {b' : Nat} (hb : b ≤ b') : KeyD knd o f b' :=
  by obtain ⟨kvs, a, c, d⟩ := T; exact ⟨kvs, a, c, Nat.le_trans d hb⟩

theorem TupD.dict (N : News h₀ L s.heap news) (hs : ∀ p ∈ imm, p ∈ news) {d : Addr} {o : Obj} (hd : (d, o) ∈ news) {es ep} {xs : List (List Int × Addr × Value)} (a : o.ExactDict) (b : o.data = .dict es ep)
    (c : es.toList = xs.map (entryOfKey (tupleKind (intKind prog w)))) (n : (xs.map (·.1)).Nodup) (e : ∀ x ∈ xs, ∃ ok, (x.2.1, ok) ∈ imm ∧ TupKeyObj (intKind prog w) x.1 ok) :
    s.heap.DictOfH (tupleKind (intKind prog w)) d xs :=
  ⟨o, es, ep, N.get hd, a, b, c, fun x hx => let ⟨_, h1, h2⟩ := e x hx; h2.key (N.get (hs _ h1)), n⟩

theorem tup_in {d t : Addr} {o ok : Obj} {ks : List Int} {f : List Int → Option Value} {b : Nat} {Q : Value → Shared → Prop} (hu : A.units + 1 < cLine) (N : News h₀ L s.heap news) (hs : ∀ p ∈ imm, p ∈ news)
    (hd : (d, o) ∈ news) (lo : (d == sysModules) = false) (T : TupD prog w imm o f b) (ht : (t, ok) ∈ news) (tk : TupKeyObj (intKind prog w) ks ok)
    (h : Q (.bool (f ks).isSome) { s with toks := s.toks + (ks.length + 1) }) : wpAny (model prog w) A (compareOp .In (.ref t) (.ref d)) Q E s := by
  obtain ⟨es, ep, xs, a, b, c, n, e, g, _⟩ := T
  have hD := TupD.dict (s := s) N hs hd a b c n e
  refine wpAny_in_heap (tupleKind_room_in1 hu) (tk.key (N.get ht)) lo hD ?_
  rw [← g ks, Option.isSome_map] at h
  exact h
theorem tup_notin {d t : Addr} {o ok : Obj} {ks : List Int} {f : List Int → Option Value} {b : Nat} {Q : Value → Shared → Prop} (hu : A.units + 1 < cLine) (N : News h₀ L s.heap news) (hs : ∀ p ∈ imm, p ∈ news)
    (hd : (d, o) ∈ news) (lo : (d == sysModules) = false) (T : TupD prog w imm o f b) (ht : (t, ok) ∈ news) (tk : TupKeyObj (intKind prog w) ks ok)
    (h : Q (.bool (!(f ks).isSome)) { s with toks := s.toks + (ks.length + 1) }) : wpAny (model prog w) A (compareOp .NotIn (.ref t) (.ref d)) Q E s := by
  obtain ⟨es, ep, xs, a, b, c, n, e, g, _⟩ := T
  have hD := TupD.dict (s := s) N hs hd a b c n e
  refine wpAny_notIn_heap (tupleKind_room_in1 hu) (tk.key (N.get ht)) lo hD ?_
  rw [← g ks, Option.isSome_map] at h
  exact h
theorem tup_get2 {d t : Addr} {o ok : Obj} {ks : List Int} {f : List Int → Option Value} {b : Nat} {dflt : Value} {Q : Value → Shared → Prop} (hu : A.units + 1 < cLine) (N : News h₀ L s.heap news) (hs : ∀ p ∈ imm, p ∈ news)
    (hd : (d, o) ∈ news) (lo : (d == sysModules) = false) (T : TupD prog w imm o f b) (ht : (t, ok) ∈ news) (tk : TupKeyObj (intKind prog w) ks ok)
    (h : Q ((f ks).getD dflt) { s with toks := s.toks + (ks.length + 1) }) : wpAny (model prog w) A (call (.builtin "dict.get") [.ref d, .ref t, dflt]) Q E s := by
  obtain ⟨es, ep, xs, a, b, c, n, e, g, _⟩ := T
  have hD := TupD.dict (s := s) N hs hd a b c n e
  refine call_meetsIn PySem.F.slot_dict_get hD.typeIs PySem.F.entry_dict_get (PySem.F.args_dict_get_3 _ _ _) (meetsH_dict_get_default (tupleKind (intKind prog w)) d t lo dflt) ⟨tupleKind_room_in1 hu, ks, xs, tk.key (N.get ht), hD, ?_⟩
  rw [← g ks] at h
  exact h
theorem tup_getMethod {d : Addr} {o : Obj} {f : List Int → Option Value} {b : Nat} {pl : Sem Bool} {Q : Value × List Value → Shared → Prop} (N : News h₀ L s.heap news) (hs : ∀ p ∈ imm, p ∈ news) (hd : (d, o) ∈ news) (T : TupD prog w imm o f b)
    (h : Q (.builtin "dict.get", [.ref d]) s) : wpAny (model prog w) A (getMethod (.ref d) "get" pl) Q E s := by
  obtain ⟨es, ep, xs, a, b, c, n, e, g, _⟩ := T
  have hD := TupD.dict (s := s) N hs hd a b c n e
  exact getMethod_builtin hD.typeIs PySem.F.plainAttrs_dict PySem.F.slot_dict_get PySem.F.type_dict_get (dictOfH_noDict hD) h

theorem valueAt_nil {K : Type} [DecidableEq K] (x : K) : valueAt ([] : List (K × Value)) x = none := rfl
theorem valueAt_cons {K : Type} [DecidableEq K] (kv : K × Value) (kvs : List (K × Value)) (x : K) : valueAt (kv :: kvs) x = if kv.1 = x then some kv.2 else valueAt kvs x := by
  by_cases h : kv.1 = x <;> simp [valueAt, h]
theorem valueAt_stored {K : Type} [DecidableEq K] (kvs : List (K × Value)) (k : K) (v : Value) (x : K) : valueAt (stored kvs k v) x = if x = k then some v else valueAt kvs x := by
  have A : x ≠ k → ∀ l : List (K × Value), valueAt (l.map fun kv => if kv.1 = k then (kv.1, v) else kv) x = valueAt l x := by
    intro hx l
    induction l with
    | nil => rfl
    | cons y ys ih =>
      rw [List.map_cons, valueAt_cons, valueAt_cons, ih]
      by_cases q : y.1 = k
      · have q' : ¬ y.1 = x := fun e => hx (e.symm.trans q)
        rw [if_pos q, if_neg q', if_neg q']
      · rw [if_neg q]
  have B : ∀ l : List (K × Value), (l.any fun kv => decide (kv.1 = k)) = true → valueAt (l.map fun kv => if kv.1 = k then (kv.1, v) else kv) k = some v := by
    intro l
    induction l with
    | nil => intro h; cases h
    | cons y ys ih =>
      intro h
      rw [List.map_cons, valueAt_cons]
      by_cases q : y.1 = k
      · rw [if_pos q, if_pos q]
      · rw [if_neg q, if_neg q]
        rw [List.any_cons, decide_eq_false q, Bool.false_or] at h
        exact ih h
  have C : ∀ l : List (K × Value), (l.any fun kv => decide (kv.1 = k)) = false → valueAt (l ++ [(k, v)]) x = if x = k then some v else valueAt l x := by
    intro l
    induction l with
    | nil =>
      intro _
      rw [List.nil_append, valueAt_cons, valueAt_nil]
      by_cases h : x = k
      · subst h; simp
      · have h2 : ¬ k = x := fun e => h e.symm
        simp [h, h2]
    | cons y ys ih =>
      intro h
      rw [List.any_cons, Bool.or_eq_false_iff] at h
      rw [List.cons_append, valueAt_cons, valueAt_cons, ih h.2]
      have q : ¬ y.1 = k := of_decide_eq_false h.1
      by_cases hx : x = k
      · have q' : ¬ y.1 = x := fun e => q (e.trans hx)
        rw [if_neg q', if_pos hx, if_pos hx]
      · rw [if_neg hx, if_neg hx]
  unfold stored
  split
  · rename_i hk
    by_cases hx : x = k
    · subst hx; rw [if_pos rfl]; exact B _ hk
    · rw [if_neg hx]; exact A hx _
  · rename_i hk
    exact C _ (Bool.eq_false_iff.mpr hk)
theorem valueAt_without {K : Type} [DecidableEq K] (kvs : List (K × Value)) (k : K) (x : K) : valueAt (without kvs k) x = if x = k then none else valueAt kvs x := by
  induction kvs with
  | nil => simp [without, valueAt]
  | cons y ys ih =>
    unfold without at ih ⊢
    rw [List.filter_cons]
    by_cases q : y.1 = k
    · simp only [q, ne_eq, not_true_eq_false, decide_false, Bool.false_eq_true, if_false]
      rw [ih, valueAt_cons]
      by_cases hx : x = k
      · rw [if_pos hx, if_pos hx]
      · have q' : ¬ y.1 = x := fun e => hx (e.symm.trans q)
        rw [if_neg hx, if_neg hx, if_neg q']
    · simp only [q, ne_eq, not_false_eq_true, decide_true, if_true]
      rw [valueAt_cons, valueAt_cons, ih]
      by_cases hx : x = k
      · have q' : ¬ y.1 = x := fun e => q (e.trans hx)
        rw [if_pos hx, if_pos hx, if_neg q']
      · rw [if_neg hx, if_neg hx]
theorem atKey_storedH (xs : List (List Int × Addr × Value)) (k : List Int) (a : Addr) (v : Value) (x : List Int) :
    (atKey (storedH xs k a v) x).map (·.2) = if x = k then some v else (atKey xs x).map (·.2) := by
  rw [← valueAt_kvsOf, kvsOf_storedH, ← valueAt_kvsOf, valueAt_stored]
theorem storedH_length (xs : List (List Int × Addr × Value)) (k : List Int) (a : Addr) (v : Value) : (storedH xs k a v).length ≤ xs.length + 1 := by
  unfold storedH; split <;> simp

theorem tup_setZ {i t : Nat} {ok : Obj} {ks : List Int} {f : List Int → Option Value} {b : Nat} {v : Value} {Q : Unit → Shared → Prop} (hi : i < 14) (hu : A.units + 1 < cLine) (F : Fr h₀ L s.heap m) (N : News h₀ L s.heap news) (S : Sys z lay σ imm news)
    (T : TupD prog w imm (σ i) f b) (ht : (t, ok) ∈ imm) (tk : TupKeyObj (intKind prog w) ks ok) (hb : b ≤ 1000000)
    (h : ∀ h' o' news', Fr h₀ L h' m → News h₀ L h' news' → Sys z lay (upd σ i o') imm news' → TupD prog w imm o' (fun x => if x = ks then some v else f x) (b + 1) → Q () { s with heap := h', toks := s.toks + (ks.length + 1) }) :
    wpAny (model prog w) A (setItem (.ref (lay i)) (.ref t) v) Q E s := by
  obtain ⟨es, ep, xs, a, b1, c, n, e, g, l⟩ := T
  have hD := TupD.dict (s := s) N S.sub (S.mem i hi) a b1 c n e
  refine wpAny_setItem_heap (hsz := by rw [sizeLine_eq]; omega) (knd := tupleKind (intKind prog w)) (tupleKind_room_in1 hu) (tk.key (N.get (S.sub _ ht))) hD fun h' hm' hs => ?_
  obtain ⟨o', es', ep', ho', hc', hd', he', _, hn'⟩ := hm'
  obtain ⟨F', N'⟩ := S.change (S.up hi) F N hs ho'
  refine h h' o' _ F' N' (S.write (S.up hi) o') ⟨es', ep', _, hc', hd', he', hn', fun x hx => ?_, fun k => by rw [atKey_storedH, g], Nat.le_trans (storedH_length _ _ _ _) (by omega)⟩
  rcases mem_storedH hx with ⟨y, hy, e1, e2⟩ | ⟨e1, e2⟩
  · obtain ⟨oky, h1, h2⟩ := e y hy
    exact ⟨oky, by rw [e2]; exact h1, by rw [e1]; exact h2⟩
  · exact ⟨ok, by rw [e2]; exact ht, by rw [e1]; exact tk⟩

section key
variable {K : Type} [DecidableEq K] {knd : KeyKind prog w K} {k : K} {key : Value} {f : K → Option Value} {b : Nat} {d : Addr} {o : Obj}
theorem KeyD.dict (N : News h₀ L s.heap news) (hd : (d, o) ∈ news) (T : KeyD knd o f b) : ∃ kvs, s.heap.DictOf knd d kvs ∧ (∀ k, valueAt kvs k = f k) ∧ kvs.length ≤ b :=
  by obtain ⟨kvs, a, c, e⟩ := T; exact ⟨kvs, Heap.dictOf_iff.mpr ⟨o, N.get hd, a⟩, c, e⟩
theorem key_in {Q : Value → Shared → Prop} (N : News h₀ L s.heap news) (hd : (d, o) ∈ news) (lo : (d == sysModules) = false) (T : KeyD knd o f b) (hk : knd.is k key = true)
    (h : Q (.bool (f k).isSome) { s with toks := s.toks + 1 }) : wpAny (model prog w) A (compareOp .In key (.ref d)) Q E s := by
  obtain ⟨kvs, hD, e, _⟩ := T.dict (s := s) N hd
  exact wpAny_in_of hk lo hD.mapOf (by rw [e]; exact h)
theorem key_notin {Q : Value → Shared → Prop} (N : News h₀ L s.heap news) (hd : (d, o) ∈ news) (lo : (d == sysModules) = false) (T : KeyD knd o f b) (hk : knd.is k key = true)
    (h : Q (.bool (!(f k).isSome)) { s with toks := s.toks + 1 }) : wpAny (model prog w) A (compareOp .NotIn key (.ref d)) Q E s := by
  obtain ⟨kvs, hD, e, _⟩ := T.dict (s := s) N hd
  exact wpAny_notIn_of hk lo hD.mapOf (by rw [e]; exact h)
theorem key_item {v : Value} {Q : Value → Shared → Prop} (N : News h₀ L s.heap news) (hd : (d, o) ∈ news) (T : KeyD knd o f b) (hk : knd.is k key = true) (hv : f k = some v)
    (h : Q v { s with toks := s.toks + 1 }) : wpAny (model prog w) A (getItem (.ref d) key) Q E s := by
  obtain ⟨kvs, hD, e, _⟩ := T.dict (s := s) N hd
  exact wpAny_getItem_of hk hD.mapOf (by rw [e]; exact hv) h
theorem key_tail {v : Value} {value slice : Expr} {Q : Value → Shared → Prop} (N : News h₀ L s.heap news) (hd : (d, o) ∈ news) (T : KeyD knd o f b) (hk : knd.is k key = true) (hv : f k = some v)
    (h : Q v { s with toks := s.toks + 1 }) (hs : subscripted slice false (.ref d) key = operate [.ref d, key] (getItem (.ref d) key) := by with_unfolding_all rfl) :
    wpAny (model prog w) A (subscriptTail value slice (.ref d) key) Q E s := by
  obtain ⟨kvs, hD, e, _⟩ := T.dict (s := s) N hd
  exact tail_any hD.typeIs slot_dict_getitem.lookup (key_item N hd T hk hv h) hs
theorem key_get2 {dflt : Value} {Q : Value → Shared → Prop} (N : News h₀ L s.heap news) (hd : (d, o) ∈ news) (lo : (d == sysModules) = false) (T : KeyD knd o f b) (hk : knd.is k key = true)
    (h : Q ((f k).getD dflt) { s with toks := s.toks + 1 }) : wpAny (model prog w) A (call (.builtin "dict.get") [.ref d, key, dflt]) Q E s := by
  obtain ⟨kvs, hD, e, _⟩ := T.dict (s := s) N hd
  exact call_meetsIn PySem.F.slot_dict_get hD.typeIs PySem.F.entry_dict_get (PySem.F.args_dict_get_3 _ _ _) (meets_dict_get_default knd d hk lo dflt) ⟨_, hD.mapOf, by rw [e]; exact h⟩
theorem key_getMethod {pl : Sem Bool} {Q : Value × List Value → Shared → Prop} (N : News h₀ L s.heap news) (hd : (d, o) ∈ news) (T : KeyD knd o f b)
    (h : Q (.builtin "dict.get", [.ref d]) s) : wpAny (model prog w) A (getMethod (.ref d) "get" pl) Q E s := by
  obtain ⟨kvs, hD, e, _⟩ := T.dict (s := s) N hd
  exact getMethod_builtin hD.typeIs PySem.F.plainAttrs_dict PySem.F.slot_dict_get PySem.F.type_dict_get hD.mapOf.noDict h
theorem key_setZ {i : Nat} {v : Value} {Q : Unit → Shared → Prop} (hi : i < 14) (F : Fr h₀ L s.heap m) (N : News h₀ L s.heap news) (S : Sys z lay σ imm news) (T : KeyD knd (σ i) f b) (hk : knd.is k key = true) (hb : b ≤ 1000000)
    (h : ∀ h' o' news', Fr h₀ L h' m → News h₀ L h' news' → Sys z lay (upd σ i o') imm news' → KeyD knd o' (fun x => if x = k then some v else f x) (b + 1) → Q () { s with heap := h', toks := s.toks + 1 }) :
    wpAny (model prog w) A (setItem (.ref (lay i)) key v) Q E s := by
  obtain ⟨kvs, hD, e, l⟩ := T.dict (s := s) N (S.mem i hi)
  refine wpAny_setItem_pairs (hsz := by rw [sizeLine_eq]; omega) hk hD fun h' hm' hs => ?_
  obtain ⟨o', ho', hd'⟩ := Heap.dictOf_iff.mp hm'
  obtain ⟨F', N'⟩ := S.change (S.up hi) F N hs ho'
  exact h h' o' _ F' N' (S.write (S.up hi) o') ⟨_, hd', fun x => by rw [valueAt_stored, e], Nat.le_trans (stored_length_le _ _ _) (by omega)⟩
theorem key_delZ {i : Nat} {Q : Unit → Shared → Prop} (hi : i < 14) (F : Fr h₀ L s.heap m) (N : News h₀ L s.heap news) (S : Sys z lay σ imm news) (T : KeyD knd (σ i) f b) (hk : knd.is k key = true) (hb : b ≤ 1000000) (hf : (f k).isSome = true)
    (h : ∀ h' o' news', Fr h₀ L h' m → News h₀ L h' news' → Sys z lay (upd σ i o') imm news' → KeyD knd o' (fun x => if x = k then none else f x) b → Q () { s with heap := h', toks := s.toks + 1 }) :
    wpAny (model prog w) A (delItem (.ref (lay i)) key) Q E s := by
  obtain ⟨kvs, hD, e, l⟩ := T.dict (s := s) N (S.mem i hi)
  unfold delItem
  try with_reducible refine wpAny_holding ?_
  refine wpAny_bind (wpAny_sequenceKey hD.typeIs (by decide) ?_)
  refine wpAny_bind (wpAny_callSpecial?_slot (name := Str.ofString "__delitem__") hD.typeIs PySem.F.slot_dict_delitem
    (call_meetsIn PySem.F.slot_dict_delitem hD.typeIs PySem.F.entry_dict_delitem (PySem.F.args_dict_delitem_2 _ _) (meets_dict_delitem_pairs knd (lay i) hk) ⟨kvs, hD, (by rw [sizeLine_eq]; omega), by rw [e]; exact hf, fun h' hmm hs => ?_⟩))
  obtain ⟨o', ho', hd'⟩ := Heap.dictOf_iff.mp hmm
  obtain ⟨F', N'⟩ := S.change (S.up hi) F N hs ho'
  exact wpAny_pure (h h' o' _ F' N' (S.write (S.up hi) o') ⟨_, hd', fun x => by rw [valueAt_without, e], Nat.le_trans (List.length_filter_le _ _) l⟩)
end key

theorem map_eraseIdx' {α β : Type} (f : α → β) : ∀ (l : List α) (j : Nat), (l.map f).eraseIdx j = (l.eraseIdx j).map f
  | [], _ => rfl
  | _ :: _, 0 => rfl
  | x :: r, j + 1 => by simp only [List.map_cons, List.eraseIdx_cons_succ, map_eraseIdx' f r j]
theorem eraseIdx_atKey {xs : List (List Int × Addr × Value)} (hn : (xs.map (·.1)).Nodup) {j : Nat} {k : List Int} {p : Addr × Value} (hj : xs[j]? = some (k, p)) :
    xs.eraseIdx j = xs.filter fun x => decide (x.1 ≠ k) := by
  induction xs generalizing j with
  | nil => simp at hj
  | cons x rest ih =>
    rw [List.map_cons, List.nodup_cons] at hn
    cases j with
    | zero =>
      simp only [List.getElem?_cons_zero, Option.some.injEq] at hj
      subst hj
      have : ∀ y ∈ rest, decide (y.1 ≠ k) = true := fun y hy => decide_eq_true fun e => hn.1 (List.mem_map.mpr ⟨y, hy, e⟩)
      simp only [List.eraseIdx_cons_zero, List.filter_cons, ne_eq, not_true_eq_false, decide_false, Bool.false_eq_true, if_false]
      exact (List.filter_eq_self.mpr this).symm
    | succ j =>
      simp only [List.getElem?_cons_succ] at hj
      have hne : x.1 ≠ k := fun e => hn.1 (e ▸ List.mem_map.mpr ⟨(k, p), List.mem_of_getElem? hj, rfl⟩)
      simp only [List.eraseIdx_cons_succ, List.filter_cons, decide_eq_true hne, if_true]
      rw [ih hn.2 hj]
theorem tup_delZ {i t : Nat} {ok : Obj} {ks : List Int} {f : List Int → Option Value} {b : Nat} {Q : Unit → Shared → Prop} (hi : i < 14) (hu : A.units + 1 < cLine) (F : Fr h₀ L s.heap m) (N : News h₀ L s.heap news) (S : Sys z lay σ imm news)
    (T : TupD prog w imm (σ i) f b) (ht : (t, ok) ∈ imm) (tk : TupKeyObj (intKind prog w) ks ok) (hb : b ≤ 1000000) (hf : (f ks).isSome = true)
    (h : ∀ h' o' news', Fr h₀ L h' m → News h₀ L h' news' → Sys z lay (upd σ i o') imm news' → TupD prog w imm o' (fun x => if x = ks then none else f x) b → Q () { s with heap := h', toks := s.toks + (ks.length + 1) }) :
    wpAny (model prog w) A (delItem (.ref (lay i)) (.ref t)) Q E s := by
  obtain ⟨es, ep, xs, a, b1, c, n, e, g, l⟩ := T
  have hD := TupD.dict (s := s) N S.sub (S.mem i hi) a b1 c n e
  have hT := hD.typeIs (s := s)
  have ho := N.get (S.mem i hi)
  have hkey := tk.key (N.get (S.sub _ ht))
  have hsz : es.size ≤ sizeLine := by rw [size_of_entries c, sizeLine_eq]; omega
  have his : ∀ x ∈ xs, (tupleKind (intKind prog w)).is s.heap x.1 x.2.1 := fun x hx => by obtain ⟨_, h1, h2⟩ := e x hx; exact h2.key (N.get (S.sub _ h1))
  unfold delItem
  try with_reducible refine wpAny_holding ?_
  refine wpAny_bind (wpAny_sequenceKey hT (by decide) ?_)
  refine wpAny_bind (wpAny_callSpecial?_slot (name := Str.ofString "__delitem__") hT PySem.F.slot_dict_delitem
    (wpAny_call_entry PySem.F.slot_dict_delitem hT PySem.F.entry_dict_delitem ?_ (PySem.F.args_dict_delitem_2 _ _)))
  unfold Builtin.«dict.__delitem__»
  refine wpAny_bind ?_
  unfold Builtin.Dict.dictSlotArgs
  refine wpAny_bind (wpAny_notOrdered_dict hT ?_)
  show wpAny _ _ (pure (Value.ref (lay i), Value.ref t)) _ _ s
  refine wpAny_pure ?_
  show wpAny _ _ (Builtin.Dict.takeOut (lay i) (.ref t) >>= _) _ _ s
  refine wpAny_bind ?_
  unfold Builtin.Dict.takeOut
  try with_reducible refine wpAny_holding ?_
  refine wpAny_bind ((tupleKind (intKind prog w)).pyHash (tupleKind_room_in1 hu) hkey ?_)
  refine wpAny_bind (wpAny_dictFind_heap (s := { s with toks := s.toks + (ks.length + 1) }) (tupleKind_room_in1 hu) hkey ho b1 c his n (fun hno => ?_) fun j p hj => ?_)
  · rw [← g ks, atKey_none_of_get hno] at hf; cases hf
  · refine wpAny_bind (wpAny_dictEntries (s := { s with toks := s.toks + (ks.length + 1) }) ho b1 ?_)
    rw [entry_at c j, hj]
    refine wpAny_bind (wpAny_updateDictKeys (hz := hsz) (s := { s with toks := s.toks + (ks.length + 1) }) ho b1 (wpAny_pure ?_))
    have hnew := Heap.get?_update_self (h := s.heap) (a := lay i) (f := Obj.mapDictKeys fun es => es.eraseIdxIfInBounds j) ho (Obj.isFreed_of_dict (Obj.data_mapDictKeys b1 _))
    obtain ⟨F', N'⟩ := S.change (S.up hi) F N (Heap.SameBut.update ..) hnew
    have hq := h _ _ _ F' N' (S.write (S.up hi) _) ⟨_, _, xs.eraseIdx j, a.mapDictKeys _, Obj.data_mapDictKeys b1 _, ?_, ?_, ?_, ?_, ?_⟩
    · exact wpAny_bind (wpAny_letGo (wpAny_pure ⟨.none, rfl, wpAny_pure hq⟩))
    · obtain ⟨le⟩ := es
      simp only at c
      subst c
      simp [map_eraseIdx']
    · rw [eraseIdx_atKey n hj]
      exact List.Sublist.nodup (List.Sublist.map _ List.filter_sublist) n
    · intro x hx
      exact e x (List.mem_of_mem_eraseIdx hx)
    · intro x
      show _ = if x = ks then none else f x
      rw [eraseIdx_atKey n hj, ← g x]
      have : (atKey (List.filter (fun x => decide (x.1 ≠ ks)) xs) x).map (·.2) = valueAt (without (kvsOf xs) ks) x := by
        rw [← valueAt_kvsOf]; congr 1; simp [kvsOf, without, List.filter_map, Function.comp_def]
      rw [this, valueAt_without, valueAt_kvsOf]
    · exact Nat.le_trans (List.length_eraseIdx_le _ _) l

theorem append_Z {i : Nat} {vs : Array Value} {n : Nat} {v : Value} {Q : Value → Shared → Prop} (hi : i < 14) (F : Fr h₀ L s.heap m) (N : News h₀ L s.heap news) (S : Sys z lay σ imm news) (e : σ i = listOf vs n) (hz : vs.size ≤ 1000000)
    (h : ∀ h' news', Fr h₀ L h' m → News h₀ L h' news' → Sys z lay (upd σ i (listOf (vs.push v) (n + 1))) imm news' → Q .none { s with heap := h' }) :
    wpAny (model prog w) A (call (.builtin "list.append") [.ref (lay i), v]) Q E s :=
  append_K (hsz := by rw [sizeLine_eq]; omega) F (S.focus N (S.up hi)) (by rw [e]; exact Upd.head (put_off _ _)) fun h' F' N' => h h' _ F' N' (S.write (S.up hi) _)
theorem pop_Z {i : Nat} {vs : List Value} {n : Nat} {v : Value} {Q : Value → Shared → Prop} (hi : i < 14) (F : Fr h₀ L s.heap m) (N : News h₀ L s.heap news) (S : Sys z lay σ imm news) (e : σ i = listOf (vs ++ [v]).toArray n) (hz : vs.length < 1000000)
    (h : ∀ h' news', Fr h₀ L h' m → News h₀ L h' news' → Sys z lay (upd σ i (listOf vs.toArray (n + 1))) imm news' → Q v { s with heap := h' }) :
    wpAny (model prog w) A (call (.builtin "list.pop") [.ref (lay i)]) Q E s := by
  refine kl_pop (its := (vs ++ [v]).toArray) (n := n) (p := vs) F (S.focus N (S.up hi)) ?_ (by rw [e]; exact Upd.head (put_off _ _)) (by rw [sizeLine_eq]; simp; omega) fun h' F' N' => h h' _ F' N' (S.write (S.up hi) _)
  show kl_last (vs ++ [v]) = some (vs, v)
  clear e hz h
  induction vs with
  | nil => rfl
  | cons x xs ih =>
    rw [List.cons_append]
    cases hx : xs ++ [v] with
    | nil => simp at hx
    | cons y ys => rw [hx] at ih; unfold kl_last; rw [ih]
theorem list_getMethod {d : Addr} {its : Array Value} {n : Nat} {id : String} {name : Str} {pl : Sem Bool} {Q : Value × List Value → Shared → Prop} (slot : Slot "list" name id) (hty : typeOf (.builtin id) = pure (.type "method_descriptor")) (N : News h₀ L s.heap news) (hd : (d, listOf its n) ∈ news)
    (h : Q (.builtin id, [.ref d]) s) : wpAny (model prog w) A (getMethod (.ref d) name pl) Q E s := kl_method N hd slot hty h
end


/-- what is undone -/
structure C where
  wo : Int → Bool
  ws : Int → Int → Bool
  cur : Int → Int → Int
  tch : Int → Bool
  rf : Int
inductive Row where
  | junk
  | touched (p : Int)
  | warm (p : Int)
  | wslot (p k : Int)
  | slot (p k old : Int)
  | refund (old : Int)
structure SX where
  c : C
  og : Int → Int → Option Int
  jr : List Row

/-- representation's own data -/
structure Aux where
  hs : Nat → Int
  ts : Nat → Tok
  sn : Nat
  ac : Addr
  aco : Obj
  ds : Addr
  dso : Obj
  lg : Addr
  acc : Nat → Addr
  accd : Nat → Addr
  ah : Nat → Nat → Int
  at_ : Nat → Nat → Tok
  an : Nat → Nat
  jv : List Value
  jn : Nat

def Pl (p : Int) : Prop := p = 3 ∨ p = 77 ∨ p = 2 ^ 160 - 1
instance (p : Int) : Decidable (Pl p) := inferInstanceAs (Decidable (_ ∨ _))
def ix (p : Int) : Nat := if p = 3 then 0 else if p = 77 then 1 else 2
theorem ix_lt (p : Int) : ix p < 3 := by unfold ix; split <;> (try split) <;> decide
theorem ix_inj {p q : Int} (hp : Pl p) (hq : Pl q) (h : ix p = ix q) : p = q := by
  unfold ix at h
  rcases hp with rfl | rfl | rfl <;> rcases hq with rfl | rfl | rfl <;> simp at h ⊢

abbrev sdE (hs : Nat → Int) (ts : Nat → Tok) (ac jl td ds wo ws og : Addr) (rf : Int) (lg : Addr) : List DictEntry := [
  ⟨hs 0, .str (Str.ofString "setting") (ts 0), .none⟩,
  ⟨hs 1, .str (Str.ofString "accounts") (ts 1), .ref ac⟩,
  ⟨hs 2, .str (Str.ofString "journal") (ts 2), .ref jl⟩,
  ⟨hs 3, .str (Str.ofString "touched") (ts 3), .ref td⟩,
  ⟨hs 4, .str (Str.ofString "destroyed") (ts 4), .ref ds⟩,
  ⟨hs 5, .str (Str.ofString "warm_ones") (ts 5), .ref wo⟩,
  ⟨hs 6, .str (Str.ofString "warm_slots") (ts 6), .ref ws⟩,
  ⟨hs 7, .str (Str.ofString "originals") (ts 7), .ref og⟩,
  ⟨hs 8, .str (Str.ofString "refund") (ts 8), .int rf (ts 10)⟩,
  ⟨hs 9, .str (Str.ofString "logs") (ts 9), .ref lg⟩]
abbrev adE (hs : Nat → Int) (ts : Nat → Tok) (st : Addr) : List DictEntry := [
  ⟨hs 0, .str (Str.ofString "nonce") (ts 0), .int 1 (ts 4)⟩,
  ⟨hs 1, .str (Str.ofString "balance") (ts 1), .int 0 (ts 5)⟩,
  ⟨hs 2, .str (Str.ofString "code") (ts 2), .bytes #[] (ts 6)⟩,
  ⟨hs 3, .str (Str.ofString "storage") (ts 3), .ref st⟩]
def accF (acc : Nat → Addr) (p : Int) : Option Value := if Pl p then some (.ref (acc (ix p))) else none

/-- a word as a dict holds it: none for 0 -/
def IsW (o : Option Value) (v : Int) : Prop := (v = 0 ∧ o = none) ∨ (v ≠ 0 ∧ ∃ t, o = some (.int v t))
def IsO (o : Option Value) (v : Option Int) : Prop := (v = none ∧ o = none) ∨ ∃ i t, v = some i ∧ o = some (.int i t)

abbrev rowV (hs : Nat → Int) (ts : Nat → Tok) (v1 v2 v3 v4 : Value) : List DictEntry := [
  ⟨hs 0, .str (Str.ofString "kind") (ts 0), v1⟩,
  ⟨hs 1, .str (Str.ofString "address") (ts 1), v2⟩,
  ⟨hs 2, .str (Str.ofString "key") (ts 2), v3⟩,
  ⟨hs 3, .str (Str.ofString "old") (ts 3), v4⟩]
def RowAt (imm : Led) (v : Value) (kind : String) (p k old : Int) : Prop :=
  ∃ (x dx : Addr) (hs : Nat → Int) (ts : Nat → Tok) (n : Nat) (t4 t5 t6 t7 : Tok), v = .ref x ∧ (x, instObj 80 dx) ∈ imm ∧ (dx, dictOf (rowV hs ts (.str (Str.ofString kind) t4) (.int p t5) (.int k t6) (.int old t7)) n) ∈ imm
def RowIs (imm : Led) (v : Value) : Row → Prop
  | .junk => True
  | .touched p => ∃ k o, RowAt imm v "touched" p k o
  | .warm p => ∃ k o, RowAt imm v "warm" p k o
  | .wslot p k => ∃ o, RowAt imm v "warm_slot" p k o
  | .slot p k old => RowAt imm v "slot" p k old
  | .refund old => ∃ p k, RowAt imm v "refund" p k old
inductive RowsAre (imm : Led) : List Value → List Row → Prop
  | nil : RowsAre imm [] []
  | snoc {vs : List Value} {rs : List Row} {v : Value} {r : Row} : RowsAre imm vs rs → RowIs imm v r → RowsAre imm (vs ++ [v]) (rs ++ [r])

theorem RowAt.mono {imm imm' : Led} {v : Value} {kind : String} {p k old : Int} (h : RowAt imm v kind p k old) (hs : ∀ q ∈ imm, q ∈ imm') : RowAt imm' v kind p k old :=
  by obtain ⟨x, dx, a, b, c, d, e, i, j, r, f, g⟩ := h; exact ⟨x, dx, a, b, c, d, e, i, j, r, hs _ f, hs _ g⟩
theorem RowIs.mono {imm imm' : Led} {v : Value} {r : Row} (h : RowIs imm v r) (hs : ∀ q ∈ imm, q ∈ imm') : RowIs imm' v r := by
  cases r with
  | junk => trivial
  | touched p => obtain ⟨a, b, c⟩ := h; exact ⟨a, b, c.mono hs⟩
  | warm p => obtain ⟨a, b, c⟩ := h; exact ⟨a, b, c.mono hs⟩
  | wslot p k => obtain ⟨a, c⟩ := h; exact ⟨a, c.mono hs⟩
  | slot p k o => exact RowAt.mono h hs
  | refund o => obtain ⟨a, b, c⟩ := h; exact ⟨a, b, c.mono hs⟩
theorem RowsAre.mono {imm imm' : Led} {vs : List Value} {rs : List Row} (h : RowsAre imm vs rs) (hs : ∀ q ∈ imm, q ∈ imm') : RowsAre imm' vs rs := by
  induction h with
  | nil => exact .nil
  | snoc _ r ih => exact .snoc ih (r.mono hs)
theorem RowsAre.length {imm : Led} {vs : List Value} {rs : List Row} (h : RowsAre imm vs rs) : vs.length = rs.length := by
  induction h with
  | nil => rfl
  | snoc _ r ih => simp [ih]

abbrev pr : Program := PySem.Challenge.rw_pq0404_01.row.prog

structure StRep (w : World) (st : Addr) (ax : Aux) (lay : Nat → Addr) (σ : Nat → Obj) (imm : Led) (x : SX) (b : Nat) : Prop where
  st : (st, instObj 325 (lay iSd)) ∈ imm
  sd : σ iSd = dictOf (sdE ax.hs ax.ts ax.ac (lay iJl) (lay iTd) ax.ds (lay iWo) (lay iWs) (lay iOg) x.c.rf ax.lg) ax.sn
  ac : (ax.ac, ax.aco) ∈ imm
  acl : (ax.ac == sysModules) = false
  acd : IntD pr w ax.aco (accF ax.acc) 20
  acc : ∀ i, i < 3 → (ax.acc i, instObj 38 (ax.accd i)) ∈ imm
  accd : ∀ i, i < 3 → (ax.accd i, dictOf (adE (ax.ah i) (ax.at_ i) (lay i)) (ax.an i)) ∈ imm
  ds : (ax.ds, ax.dso) ∈ imm
  dsl : (ax.ds == sysModules) = false
  dsd : IntD pr w ax.dso (fun _ => none) 0
  stor : ∀ p, Pl p → ∃ f, IntD pr w (σ (ix p)) f b ∧ ∀ k, IsW (f k) (x.c.cur p k)
  jl : σ iJl = listOf ax.jv.toArray ax.jn
  jr : RowsAre imm ax.jv x.jr
  jb : ax.jv.length ≤ b
  td : ∃ f, IntD pr w (σ iTd) f b ∧ ∀ p, (f p).isSome = x.c.tch p
  tdp : ∀ p, x.c.tch p = true → Pl p
  wo : ∃ f, IntD pr w (σ iWo) f b ∧ ∀ p, (f p).isSome = x.c.wo p
  ws : ∃ f, TupD pr w imm (σ iWs) f b ∧ ∀ p k, (f [p, k]).isSome = x.c.ws p k
  og : ∃ f, TupD pr w imm (σ iOg) f b ∧ ∀ p k, IsO (f [p, k]) (x.og p k)

/-- book and feed stay -/
def Frame (z : Nat) (lay lay' : Nat → Addr) (σ σ' : Nat → Obj) : Prop := ∀ i, (i = 3 ∨ 10 ≤ i) → i < z → lay' i = lay i ∧ σ' i = σ i

def Suf (imm imm' : Led) : Prop := ∃ new, imm' = new ++ imm
theorem Suf.refl (imm : Led) : Suf imm imm := ⟨[], rfl⟩
theorem Suf.cons {imm imm' : Led} (h : Suf imm imm') (p : Addr × Obj) : Suf imm (p :: imm') := by obtain ⟨n, e⟩ := h; exact ⟨p :: n, by rw [e]; rfl⟩
theorem Suf.app {imm imm' : Led} (h : Suf imm imm') (n : Led) : Suf imm (n ++ imm') := by obtain ⟨k, e⟩ := h; exact ⟨n ++ k, by rw [e, List.append_assoc]⟩
theorem Suf.trans {a b c : Led} (h : Suf a b) (k : Suf b c) : Suf a c := by obtain ⟨n, e⟩ := k; exact by rw [e]; exact h.app n
theorem Suf.sub {imm imm' : Led} (h : Suf imm imm') : ∀ p ∈ imm, p ∈ imm' := by obtain ⟨n, e⟩ := h; exact fun p hp => by rw [e]; exact List.mem_append_right _ hp
def Ct (w : World) (lv : Nat) (f : Addr) (args : List Value) (z : Nat) (lay : Nat → Addr) (σ : Nat → Obj) (imm : Led) (R : Value → (Nat → Addr) → (Nat → Obj) → Led → Prop) : Prop :=
  ∀ (V : Program) (lw : List Str) (dp un : Nat) (gd : Option (List Code)) (cn : Str) (cs : Scope) (a : Addr) (ccd : Value) (cl : List (Str × Addr)) (outer : List Env) (A₀ : Around) (base h₀ : Heap) (L : Addr) (m : Str → Option Value) (s : Shared)
    (mean : ExcName → Option Value) (mg mb : Str → Option Value) (news : Led) (Q E : Value → Shared → Prop),
    Below A₀ base outer h₀ → Fr h₀ L s.heap m → (hd.heap_1 w.params).In h₀ → News h₀ L s.heap news → Top V lw mean mg mb h₀ → Sys z lay σ imm news → cs.kind = .function →
    dp + 4 * lv < 600 → un + 16 * lv < 900 →
    (∀ r lay' σ' imm' news' h' tk', Fr h₀ L h' m → News h₀ L h' news' → Suf imm imm' → Sys z lay' σ' imm' news' → R r lay' σ' imm' → Q r { s with heap := h', toks := tk' }) →
    wpAny (model PySem.Challenge.rw_pq0404_01.row.prog w) (ktrTop dp un gd cn cs L a ccd cl outer) (call (.ref f) args) Q E s

/-- a call that turns nothing that stands -/
def Ct0 (w : World) (lv : Nat) (f : Addr) (args : List Value) (z : Nat) (lay : Nat → Addr) (σ : Nat → Obj) (imm : Led) (R : Value → Led → Prop) : Prop :=
  ∀ (V : Program) (lw : List Str) (dp un : Nat) (gd : Option (List Code)) (cn : Str) (cs : Scope) (a : Addr) (ccd : Value) (cl : List (Str × Addr)) (outer : List Env) (A₀ : Around) (base h₀ : Heap) (L : Addr) (m : Str → Option Value) (s : Shared)
    (mean : ExcName → Option Value) (mg mb : Str → Option Value) (news : Led) (Q E : Value → Shared → Prop),
    Below A₀ base outer h₀ → Fr h₀ L s.heap m → (hd.heap_1 w.params).In h₀ → News h₀ L s.heap news → Top V lw mean mg mb h₀ → Sys z lay σ imm news → cs.kind = .function →
    dp + 4 * lv < 600 → un + 16 * lv < 900 →
    (∀ r imm' news' h' tk', Fr h₀ L h' m → News h₀ L h' news' → Suf imm imm' → Sys z lay σ imm' news' → R r imm' → Q r { s with heap := h', toks := tk' }) →
    wpAny (model PySem.Challenge.rw_pq0404_01.row.prog w) (ktrTop dp un gd cn cs L a ccd cl outer) (call (.ref f) args) Q E s
theorem Ct0.use {w : World} {lv : Nat} {f : Addr} {args : List Value} {z : Nat} {lay : Nat → Addr} {σ : Nat → Obj} {imm : Led} {R : Value → Led → Prop} (C : Ct0 w lv f args z lay σ imm R)
    {V : Program} {lw : List Str} {dp un : Nat} {gd : Option (List Code)} {cn : Str} {cs : Scope} {a : Addr} {ccd : Value} {cl : List (Str × Addr)} {outer : List Env} {A₀ : Around} {base h₀ : Heap} {L : Addr} {m : Str → Option Value} {s : Shared}
    {mean : ExcName → Option Value} {mg mb : Str → Option Value} {news : Led} {Q E : Value → Shared → Prop}
    (B : Below A₀ base outer h₀) (F : Fr h₀ L s.heap m) (X : (hd.heap_1 w.params).In h₀) (N : News h₀ L s.heap news) (T : Top V lw mean mg mb h₀) (S : Sys z lay σ imm news) (hk : cs.kind = .function)
    (hd : dp + 4 * lv < 600) (hu : un + 16 * lv < 900)
    (ret : ∀ r new news' h' tk', Fr h₀ L h' m → News h₀ L h' news' → Sys z lay σ (new ++ imm) news' → R r (new ++ imm) → Q r { s with heap := h', toks := tk' }) :
    wpAny (model PySem.Challenge.rw_pq0404_01.row.prog w) (ktrTop dp un gd cn cs L a ccd cl outer) (call (.ref f) args) Q E s :=
  C V lw dp un gd cn cs a ccd cl outer A₀ base h₀ L m s mean mg mb news Q E B F X N T S hk hd hu (fun r imm' news' h' tk' F' N' ⟨_, e⟩ S' R' => by subst e; exact ret r _ news' h' tk' F' N' S' R')
/-- a call that leaves every object in its place -/
def Ct1 (w : World) (lv : Nat) (f : Addr) (args : List Value) (z : Nat) (lay : Nat → Addr) (σ : Nat → Obj) (imm : Led) (R : Value → (Nat → Obj) → Led → Prop) : Prop :=
  ∀ (V : Program) (lw : List Str) (dp un : Nat) (gd : Option (List Code)) (cn : Str) (cs : Scope) (a : Addr) (ccd : Value) (cl : List (Str × Addr)) (outer : List Env) (A₀ : Around) (base h₀ : Heap) (L : Addr) (m : Str → Option Value) (s : Shared)
    (mean : ExcName → Option Value) (mg mb : Str → Option Value) (news : Led) (Q E : Value → Shared → Prop),
    Below A₀ base outer h₀ → Fr h₀ L s.heap m → (hd.heap_1 w.params).In h₀ → News h₀ L s.heap news → Top V lw mean mg mb h₀ → Sys z lay σ imm news → cs.kind = .function →
    dp + 4 * lv < 600 → un + 16 * lv < 900 →
    (∀ r σ' imm' news' h' tk', Fr h₀ L h' m → News h₀ L h' news' → Suf imm imm' → Sys z lay σ' imm' news' → R r σ' imm' → Q r { s with heap := h', toks := tk' }) →
    wpAny (model PySem.Challenge.rw_pq0404_01.row.prog w) (ktrTop dp un gd cn cs L a ccd cl outer) (call (.ref f) args) Q E s
theorem Ct1.use {w : World} {lv : Nat} {f : Addr} {args : List Value} {z : Nat} {lay : Nat → Addr} {σ : Nat → Obj} {imm : Led} {R : Value → (Nat → Obj) → Led → Prop} (C : Ct1 w lv f args z lay σ imm R)
    {V : Program} {lw : List Str} {dp un : Nat} {gd : Option (List Code)} {cn : Str} {cs : Scope} {a : Addr} {ccd : Value} {cl : List (Str × Addr)} {outer : List Env} {A₀ : Around} {base h₀ : Heap} {L : Addr} {m : Str → Option Value} {s : Shared}
    {mean : ExcName → Option Value} {mg mb : Str → Option Value} {news : Led} {Q E : Value → Shared → Prop}
    (B : Below A₀ base outer h₀) (F : Fr h₀ L s.heap m) (X : (hd.heap_1 w.params).In h₀) (N : News h₀ L s.heap news) (T : Top V lw mean mg mb h₀) (S : Sys z lay σ imm news) (hk : cs.kind = .function)
    (hd : dp + 4 * lv < 600) (hu : un + 16 * lv < 900)
    (ret : ∀ r σ' new news' h' tk', Fr h₀ L h' m → News h₀ L h' news' → Sys z lay σ' (new ++ imm) news' → R r σ' (new ++ imm) → Q r { s with heap := h', toks := tk' }) :
    wpAny (model PySem.Challenge.rw_pq0404_01.row.prog w) (ktrTop dp un gd cn cs L a ccd cl outer) (call (.ref f) args) Q E s :=
  C V lw dp un gd cn cs a ccd cl outer A₀ base h₀ L m s mean mg mb news Q E B F X N T S hk hd hu (fun r σ' imm' news' h' tk' F' N' ⟨_, e⟩ S' R' => by subst e; exact ret r σ' _ news' h' tk' F' N' S' R')
theorem row_mem {imm : Led} {dx : Addr} {n : Nat} {v1 v2 v3 v4 : Value} {h0 h1 h2 h3 : Int} {t0 t1 t2 t3 : Tok} (h : (dx, dictOf [
    ⟨h0, .str (Str.ofString "kind") t0, v1⟩, ⟨h1, .str (Str.ofString "address") t1, v2⟩, ⟨h2, .str (Str.ofString "key") t2, v3⟩, ⟨h3, .str (Str.ofString "old") t3, v4⟩] n) ∈ imm) :
    ∃ (hs : Nat → Int) (ts : Nat → Tok) (n : Nat), (dx, dictOf (rowV hs ts v1 v2 v3 v4) n) ∈ imm :=
  ⟨fun i => if i = 0 then h0 else if i = 1 then h1 else if i = 2 then h2 else h3, fun i => if i = 0 then t0 else if i = 1 then t1 else if i = 2 then t2 else t3, n, h⟩
theorem Ct.use {w : World} {lv : Nat} {f : Addr} {args : List Value} {z : Nat} {lay : Nat → Addr} {σ : Nat → Obj} {imm : Led} {R : Value → (Nat → Addr) → (Nat → Obj) → Led → Prop} (C : Ct w lv f args z lay σ imm R)
    {V : Program} {lw : List Str} {dp un : Nat} {gd : Option (List Code)} {cn : Str} {cs : Scope} {a : Addr} {ccd : Value} {cl : List (Str × Addr)} {outer : List Env} {A₀ : Around} {base h₀ : Heap} {L : Addr} {m : Str → Option Value} {s : Shared}
    {mean : ExcName → Option Value} {mg mb : Str → Option Value} {news : Led} {Q E : Value → Shared → Prop}
    (B : Below A₀ base outer h₀) (F : Fr h₀ L s.heap m) (X : (hd.heap_1 w.params).In h₀) (N : News h₀ L s.heap news) (T : Top V lw mean mg mb h₀) (S : Sys z lay σ imm news) (hk : cs.kind = .function)
    (hd : dp + 4 * lv < 600) (hu : un + 16 * lv < 900)
    (ret : ∀ r lay' σ' new news' h' tk', Fr h₀ L h' m → News h₀ L h' news' → Sys z lay' σ' (new ++ imm) news' → R r lay' σ' (new ++ imm) → Q r { s with heap := h', toks := tk' }) :
    wpAny (model PySem.Challenge.rw_pq0404_01.row.prog w) (ktrTop dp un gd cn cs L a ccd cl outer) (call (.ref f) args) Q E s :=
  C V lw dp un gd cn cs a ccd cl outer A₀ base h₀ L m s mean mg mb news Q E B F X N T S hk hd hu (fun r lay' σ' imm' news' h' tk' F' N' ⟨_, e⟩ S' R' => by subst e; exact ret r lay' σ' _ news' h' tk' F' N' S' R')
theorem Ct0.useE {w : World} {lv : Nat} {f : Addr} {args : List Value} {z : Nat} {lay : Nat → Addr} {σ : Nat → Obj} {imm : Led} {v : Value} (C : Ct0 w lv f args z lay σ imm (fun r _ => r = v))
    {V : Program} {lw : List Str} {dp un : Nat} {gd : Option (List Code)} {cn : Str} {cs : Scope} {a : Addr} {ccd : Value} {cl : List (Str × Addr)} {outer : List Env} {A₀ : Around} {base h₀ : Heap} {L : Addr} {m : Str → Option Value} {s : Shared}
    {mean : ExcName → Option Value} {mg mb : Str → Option Value} {news : Led} {Q E : Value → Shared → Prop}
    (B : Below A₀ base outer h₀) (F : Fr h₀ L s.heap m) (X : (hd.heap_1 w.params).In h₀) (N : News h₀ L s.heap news) (T : Top V lw mean mg mb h₀) (S : Sys z lay σ imm news) (hk : cs.kind = .function)
    (hd : dp + 4 * lv < 600) (hu : un + 16 * lv < 900)
    (ret : ∀ new news' h' tk', Fr h₀ L h' m → News h₀ L h' news' → Sys z lay σ (new ++ imm) news' → Q v { s with heap := h', toks := tk' }) :
    wpAny (model PySem.Challenge.rw_pq0404_01.row.prog w) (ktrTop dp un gd cn cs L a ccd cl outer) (call (.ref f) args) Q E s :=
  C.use B F X N T S hk hd hu fun _ new n h tk F N S e => e ▸ ret new n h tk F N S
theorem Ct0.useT {w : World} {lv : Nat} {f : Addr} {args : List Value} {z : Nat} {lay : Nat → Addr} {σ : Nat → Obj} {imm : Led} {v : Int} (C : Ct0 w lv f args z lay σ imm (fun r _ => ∃ t, r = .int v t))
    {V : Program} {lw : List Str} {dp un : Nat} {gd : Option (List Code)} {cn : Str} {cs : Scope} {a : Addr} {ccd : Value} {cl : List (Str × Addr)} {outer : List Env} {A₀ : Around} {base h₀ : Heap} {L : Addr} {m : Str → Option Value} {s : Shared}
    {mean : ExcName → Option Value} {mg mb : Str → Option Value} {news : Led} {Q E : Value → Shared → Prop}
    (B : Below A₀ base outer h₀) (F : Fr h₀ L s.heap m) (X : (hd.heap_1 w.params).In h₀) (N : News h₀ L s.heap news) (T : Top V lw mean mg mb h₀) (S : Sys z lay σ imm news) (hk : cs.kind = .function)
    (hd : dp + 4 * lv < 600) (hu : un + 16 * lv < 900)
    (ret : ∀ t new news' h' tk', Fr h₀ L h' m → News h₀ L h' news' → Sys z lay σ (new ++ imm) news' → Q (.int v t) { s with heap := h', toks := tk' }) :
    wpAny (model PySem.Challenge.rw_pq0404_01.row.prog w) (ktrTop dp un gd cn cs L a ccd cl outer) (call (.ref f) args) Q E s :=
  C.use B F X N T S hk hd hu fun _ new n h tk F N S ⟨t, e⟩ => e ▸ ret t new n h tk F N S
theorem Ct0.use3 {w : World} {lv : Nat} {f : Addr} {args : List Value} {z : Nat} {lay : Nat → Addr} {σ : Nat → Obj} {imm : Led} {M : Addr → Tok → Tok → Tok → Led → Prop} (C : Ct0 w lv f args z lay σ imm (fun r imm' => ∃ q t1 t2 t3, r = .ref q ∧ M q t1 t2 t3 imm'))
    {V : Program} {lw : List Str} {dp un : Nat} {gd : Option (List Code)} {cn : Str} {cs : Scope} {a : Addr} {ccd : Value} {cl : List (Str × Addr)} {outer : List Env} {A₀ : Around} {base h₀ : Heap} {L : Addr} {m : Str → Option Value} {s : Shared}
    {mean : ExcName → Option Value} {mg mb : Str → Option Value} {news : Led} {Q E : Value → Shared → Prop}
    (B : Below A₀ base outer h₀) (F : Fr h₀ L s.heap m) (X : (hd.heap_1 w.params).In h₀) (N : News h₀ L s.heap news) (T : Top V lw mean mg mb h₀) (S : Sys z lay σ imm news) (hk : cs.kind = .function)
    (hd : dp + 4 * lv < 600) (hu : un + 16 * lv < 900)
    (ret : ∀ q t1 t2 t3 new news' h' tk', Fr h₀ L h' m → News h₀ L h' news' → Sys z lay σ (new ++ imm) news' → M q t1 t2 t3 (new ++ imm) → Q (.ref q) { s with heap := h', toks := tk' }) :
    wpAny (model PySem.Challenge.rw_pq0404_01.row.prog w) (ktrTop dp un gd cn cs L a ccd cl outer) (call (.ref f) args) Q E s :=
  C.use B F X N T S hk hd hu fun _ new n h tk F N S ⟨q, t1, t2, t3, e, M⟩ => e ▸ ret q t1 t2 t3 new n h tk F N S M
theorem Ct0.use2 {w : World} {lv : Nat} {f : Addr} {args : List Value} {z : Nat} {lay : Nat → Addr} {σ : Nat → Obj} {imm : Led} {M : Addr → Tok → Tok → Led → Prop} (C : Ct0 w lv f args z lay σ imm (fun r imm' => ∃ q t1 t2, r = .ref q ∧ M q t1 t2 imm'))
    {V : Program} {lw : List Str} {dp un : Nat} {gd : Option (List Code)} {cn : Str} {cs : Scope} {a : Addr} {ccd : Value} {cl : List (Str × Addr)} {outer : List Env} {A₀ : Around} {base h₀ : Heap} {L : Addr} {m : Str → Option Value} {s : Shared}
    {mean : ExcName → Option Value} {mg mb : Str → Option Value} {news : Led} {Q E : Value → Shared → Prop}
    (B : Below A₀ base outer h₀) (F : Fr h₀ L s.heap m) (X : (hd.heap_1 w.params).In h₀) (N : News h₀ L s.heap news) (T : Top V lw mean mg mb h₀) (S : Sys z lay σ imm news) (hk : cs.kind = .function)
    (hd : dp + 4 * lv < 600) (hu : un + 16 * lv < 900)
    (ret : ∀ q t1 t2 new news' h' tk', Fr h₀ L h' m → News h₀ L h' news' → Sys z lay σ (new ++ imm) news' → M q t1 t2 (new ++ imm) → Q (.ref q) { s with heap := h', toks := tk' }) :
    wpAny (model PySem.Challenge.rw_pq0404_01.row.prog w) (ktrTop dp un gd cn cs L a ccd cl outer) (call (.ref f) args) Q E s :=
  C.use B F X N T S hk hd hu fun _ new n h tk F N S ⟨q, t1, t2, e, M⟩ => e ▸ ret q t1 t2 new n h tk F N S M
theorem Ct1.useP {w : World} {lv : Nat} {f : Addr} {args : List Value} {z : Nat} {lay : Nat → Addr} {σ : Nat → Obj} {imm : Led} {v : Value} {α : Type} {P : α → (Nat → Obj) → Led → Prop} {K : (Nat → Obj) → Prop} (C : Ct1 w lv f args z lay σ imm (fun r σ' imm' => r = v ∧ ∃ ax, P ax σ' imm' ∧ K σ'))
    {V : Program} {lw : List Str} {dp un : Nat} {gd : Option (List Code)} {cn : Str} {cs : Scope} {a : Addr} {ccd : Value} {cl : List (Str × Addr)} {outer : List Env} {A₀ : Around} {base h₀ : Heap} {L : Addr} {m : Str → Option Value} {s : Shared}
    {mean : ExcName → Option Value} {mg mb : Str → Option Value} {news : Led} {Q E : Value → Shared → Prop}
    (B : Below A₀ base outer h₀) (F : Fr h₀ L s.heap m) (X : (hd.heap_1 w.params).In h₀) (N : News h₀ L s.heap news) (T : Top V lw mean mg mb h₀) (S : Sys z lay σ imm news) (hk : cs.kind = .function)
    (hd : dp + 4 * lv < 600) (hu : un + 16 * lv < 900)
    (ret : ∀ σ' ax new news' h' tk', Fr h₀ L h' m → News h₀ L h' news' → Sys z lay σ' (new ++ imm) news' → P ax σ' (new ++ imm) → K σ' → Q v { s with heap := h', toks := tk' }) :
    wpAny (model PySem.Challenge.rw_pq0404_01.row.prog w) (ktrTop dp un gd cn cs L a ccd cl outer) (call (.ref f) args) Q E s :=
  C.use B F X N T S hk hd hu fun _ σ' new n h tk F N S ⟨e, ax, P, K⟩ => e ▸ ret σ' ax new n h tk F N S P K
theorem Ct1.useD {w : World} {lv : Nat} {f : Addr} {args : List Value} {z : Nat} {lay : Nat → Addr} {σ : Nat → Obj} {imm : Led} {wd : Int} {P K : (Nat → Obj) → Led → Prop} (C : Ct1 w lv f args z lay σ imm (fun r σ' imm' => P σ' imm' ∧ K σ' imm' ∧ ∃ (d : Nat) (t : Tok), (d : Int) < wd ∧ r = .int d t))
    {V : Program} {lw : List Str} {dp un : Nat} {gd : Option (List Code)} {cn : Str} {cs : Scope} {a : Addr} {ccd : Value} {cl : List (Str × Addr)} {outer : List Env} {A₀ : Around} {base h₀ : Heap} {L : Addr} {m : Str → Option Value} {s : Shared}
    {mean : ExcName → Option Value} {mg mb : Str → Option Value} {news : Led} {Q E : Value → Shared → Prop}
    (B : Below A₀ base outer h₀) (F : Fr h₀ L s.heap m) (X : (hd.heap_1 w.params).In h₀) (N : News h₀ L s.heap news) (T : Top V lw mean mg mb h₀) (S : Sys z lay σ imm news) (hk : cs.kind = .function)
    (hd : dp + 4 * lv < 600) (hu : un + 16 * lv < 900)
    (ret : ∀ σ' (d : Nat) t new news' h' tk', Fr h₀ L h' m → News h₀ L h' news' → Sys z lay σ' (new ++ imm) news' → P σ' (new ++ imm) → K σ' (new ++ imm) → (d : Int) < wd → Q (.int d t) { s with heap := h', toks := tk' }) :
    wpAny (model PySem.Challenge.rw_pq0404_01.row.prog w) (ktrTop dp un gd cn cs L a ccd cl outer) (call (.ref f) args) Q E s :=
  C.use B F X N T S hk hd hu fun _ σ' new n h tk F N S ⟨P, K, d, t, l, e⟩ => e ▸ ret σ' d t new n h tk F N S P K l
theorem Ct1.useQ {w : World} {lv : Nat} {f : Addr} {args : List Value} {z : Nat} {lay : Nat → Addr} {σ : Nat → Obj} {imm : Led} {P K : (Nat → Obj) → Led → Prop} {M : Addr → List Value → Nat → List (Int × List Int) → Led → Prop} (C : Ct1 w lv f args z lay σ imm (fun r σ' imm' => P σ' imm' ∧ K σ' imm' ∧ ∃ q vs n rows, r = .ref q ∧ M q vs n rows imm'))
    {V : Program} {lw : List Str} {dp un : Nat} {gd : Option (List Code)} {cn : Str} {cs : Scope} {a : Addr} {ccd : Value} {cl : List (Str × Addr)} {outer : List Env} {A₀ : Around} {base h₀ : Heap} {L : Addr} {m : Str → Option Value} {s : Shared}
    {mean : ExcName → Option Value} {mg mb : Str → Option Value} {news : Led} {Q E : Value → Shared → Prop}
    (B : Below A₀ base outer h₀) (F : Fr h₀ L s.heap m) (X : (hd.heap_1 w.params).In h₀) (N : News h₀ L s.heap news) (T : Top V lw mean mg mb h₀) (S : Sys z lay σ imm news) (hk : cs.kind = .function)
    (hd : dp + 4 * lv < 600) (hu : un + 16 * lv < 900)
    (ret : ∀ σ' q vs n rows new news' h' tk', Fr h₀ L h' m → News h₀ L h' news' → Sys z lay σ' (new ++ imm) news' → P σ' (new ++ imm) → K σ' (new ++ imm) → M q vs n rows (new ++ imm) → Q (.ref q) { s with heap := h', toks := tk' }) :
    wpAny (model PySem.Challenge.rw_pq0404_01.row.prog w) (ktrTop dp un gd cn cs L a ccd cl outer) (call (.ref f) args) Q E s :=
  C.use B F X N T S hk hd hu fun _ σ' new n h tk F N S ⟨P, K, q, vs, k, rows, e, M⟩ => e ▸ ret σ' q vs k rows new n h tk F N S P K M
theorem Ct.useP {w : World} {lv : Nat} {f : Addr} {args : List Value} {z : Nat} {lay : Nat → Addr} {σ : Nat → Obj} {imm : Led} {v : Value} {α : Type} {P : α → (Nat → Addr) → (Nat → Obj) → Led → Prop} {K : (Nat → Addr) → (Nat → Obj) → Prop} (C : Ct w lv f args z lay σ imm (fun r lay' σ' imm' => r = v ∧ ∃ ax, P ax lay' σ' imm' ∧ K lay' σ'))
    {V : Program} {lw : List Str} {dp un : Nat} {gd : Option (List Code)} {cn : Str} {cs : Scope} {a : Addr} {ccd : Value} {cl : List (Str × Addr)} {outer : List Env} {A₀ : Around} {base h₀ : Heap} {L : Addr} {m : Str → Option Value} {s : Shared}
    {mean : ExcName → Option Value} {mg mb : Str → Option Value} {news : Led} {Q E : Value → Shared → Prop}
    (B : Below A₀ base outer h₀) (F : Fr h₀ L s.heap m) (X : (hd.heap_1 w.params).In h₀) (N : News h₀ L s.heap news) (T : Top V lw mean mg mb h₀) (S : Sys z lay σ imm news) (hk : cs.kind = .function)
    (hd : dp + 4 * lv < 600) (hu : un + 16 * lv < 900)
    (ret : ∀ lay' σ' ax new news' h' tk', Fr h₀ L h' m → News h₀ L h' news' → Sys z lay' σ' (new ++ imm) news' → P ax lay' σ' (new ++ imm) → K lay' σ' → Q v { s with heap := h', toks := tk' }) :
    wpAny (model PySem.Challenge.rw_pq0404_01.row.prog w) (ktrTop dp un gd cn cs L a ccd cl outer) (call (.ref f) args) Q E s :=
  C.use B F X N T S hk hd hu fun _ la σ' new n h tk F N S ⟨e, ax, P, K⟩ => e ▸ ret la σ' ax new n h tk F N S P K
theorem Ct.useL {w : World} {lv : Nat} {f : Addr} {args : List Value} {z : Nat} {lay : Nat → Addr} {σ : Nat → Obj} {imm : Led} {v : Value} {P : (Nat → Addr) → (Nat → Obj) → Led → Prop} {K : (Nat → Addr) → (Nat → Obj) → Prop} (C : Ct w lv f args z lay σ imm (fun r lay' σ' imm' => r = v ∧ P lay' σ' imm' ∧ K lay' σ'))
    {V : Program} {lw : List Str} {dp un : Nat} {gd : Option (List Code)} {cn : Str} {cs : Scope} {a : Addr} {ccd : Value} {cl : List (Str × Addr)} {outer : List Env} {A₀ : Around} {base h₀ : Heap} {L : Addr} {m : Str → Option Value} {s : Shared}
    {mean : ExcName → Option Value} {mg mb : Str → Option Value} {news : Led} {Q E : Value → Shared → Prop}
    (B : Below A₀ base outer h₀) (F : Fr h₀ L s.heap m) (X : (hd.heap_1 w.params).In h₀) (N : News h₀ L s.heap news) (T : Top V lw mean mg mb h₀) (S : Sys z lay σ imm news) (hk : cs.kind = .function)
    (hd : dp + 4 * lv < 600) (hu : un + 16 * lv < 900)
    (ret : ∀ lay' σ' new news' h' tk', Fr h₀ L h' m → News h₀ L h' news' → Sys z lay' σ' (new ++ imm) news' → P lay' σ' (new ++ imm) → K lay' σ' → Q v { s with heap := h', toks := tk' }) :
    wpAny (model PySem.Challenge.rw_pq0404_01.row.prog w) (ktrTop dp un gd cn cs L a ccd cl outer) (call (.ref f) args) Q E s :=
  C.use B F X N T S hk hd hu fun _ la σ' new n h tk F N S ⟨e, P, K⟩ => e ▸ ret la σ' new n h tk F N S P K
theorem Ct.useV {w : World} {lv : Nat} {f : Addr} {args : List Value} {z : Nat} {lay : Nat → Addr} {σ : Nat → Obj} {imm : Led} {v : Value} {P : (Nat → Addr) → (Nat → Obj) → Led → Prop} (C : Ct w lv f args z lay σ imm (fun r lay' σ' imm' => r = v ∧ P lay' σ' imm'))
    {V : Program} {lw : List Str} {dp un : Nat} {gd : Option (List Code)} {cn : Str} {cs : Scope} {a : Addr} {ccd : Value} {cl : List (Str × Addr)} {outer : List Env} {A₀ : Around} {base h₀ : Heap} {L : Addr} {m : Str → Option Value} {s : Shared}
    {mean : ExcName → Option Value} {mg mb : Str → Option Value} {news : Led} {Q E : Value → Shared → Prop}
    (B : Below A₀ base outer h₀) (F : Fr h₀ L s.heap m) (X : (hd.heap_1 w.params).In h₀) (N : News h₀ L s.heap news) (T : Top V lw mean mg mb h₀) (S : Sys z lay σ imm news) (hk : cs.kind = .function)
    (hd : dp + 4 * lv < 600) (hu : un + 16 * lv < 900)
    (ret : ∀ lay' σ' new news' h' tk', Fr h₀ L h' m → News h₀ L h' news' → Sys z lay' σ' (new ++ imm) news' → P lay' σ' (new ++ imm) → Q v { s with heap := h', toks := tk' }) :
    wpAny (model PySem.Challenge.rw_pq0404_01.row.prog w) (ktrTop dp un gd cn cs L a ccd cl outer) (call (.ref f) args) Q E s :=
  C.use B F X N T S hk hd hu fun _ la σ' new n h tk F N S ⟨e, P⟩ => e ▸ ret la σ' new n h tk F N S P
theorem and3 {a b c G : Prop} (x : a ∧ b ∧ c) (k : a → b → c → G) : G := k x.1 x.2.1 x.2.2
theorem and4 {a b c d G : Prop} (x : a ∧ b ∧ c ∧ d) (k : a → b → c → d → G) : G := k x.1 x.2.1 x.2.2.1 x.2.2.2
theorem and5 {a b c d e G : Prop} (x : a ∧ b ∧ c ∧ d ∧ e) (k : a → b → c → d → e → G) : G := k x.1 x.2.1 x.2.2.1 x.2.2.2.1 x.2.2.2.2
theorem and6 {a b c d e f G : Prop} (x : a ∧ b ∧ c ∧ d ∧ e ∧ f) (k : a → b → c → d → e → f → G) : G := k x.1 x.2.1 x.2.2.1 x.2.2.2.1 x.2.2.2.2.1 x.2.2.2.2.2
theorem and7 {a b c d e f g G : Prop} (x : a ∧ b ∧ c ∧ d ∧ e ∧ f ∧ g) (k : a → b → c → d → e → f → g → G) : G := k x.1 x.2.1 x.2.2.1 x.2.2.2.1 x.2.2.2.2.1 x.2.2.2.2.2.1 x.2.2.2.2.2.2
theorem and8 {a b c d e f g h G : Prop} (x : a ∧ b ∧ c ∧ d ∧ e ∧ f ∧ g ∧ h) (k : a → b → c → d → e → f → g → h → G) : G := k x.1 x.2.1 x.2.2.1 x.2.2.2.1 x.2.2.2.2.1 x.2.2.2.2.2.1 x.2.2.2.2.2.2.1 x.2.2.2.2.2.2.2
theorem and12 {a b c d e f g h i j k l G : Prop} (x : a ∧ b ∧ c ∧ d ∧ e ∧ f ∧ g ∧ h ∧ i ∧ j ∧ k ∧ l) (k : a → b → c → d → e → f → g → h → i → j → k → l → G) : G := k x.1 x.2.1 x.2.2.1 x.2.2.2.1 x.2.2.2.2.1 x.2.2.2.2.2.1 x.2.2.2.2.2.2.1 x.2.2.2.2.2.2.2.1 x.2.2.2.2.2.2.2.2.1 x.2.2.2.2.2.2.2.2.2.1 x.2.2.2.2.2.2.2.2.2.2.1 x.2.2.2.2.2.2.2.2.2.2.2
theorem ex2 {α β : Type} {P : α → β → Prop} {G : Prop} (h : ∃ a b, P a b) (k : ∀ a b, P a b → G) : G := by obtain ⟨a, b, p⟩ := h; exact k a b p
theorem ex3 {α β γ : Type} {P : α → β → γ → Prop} {G : Prop} (h : ∃ a b c, P a b c) (k : ∀ a b c, P a b c → G) : G := by obtain ⟨a, b, c, p⟩ := h; exact k a b c p
theorem ex4 {α β γ δ : Type} {P : α → β → γ → δ → Prop} {G : Prop} (h : ∃ a b c d, P a b c d) (k : ∀ a b c d, P a b c d → G) : G := by obtain ⟨a, b, c, d, p⟩ := h; exact k a b c d p
theorem ex6 {α β γ δ ε ζ : Type} {P : α → β → γ → δ → ε → ζ → Prop} {G : Prop} (h : ∃ a b c d e f, P a b c d e f) (k : ∀ a b c d e f, P a b c d e f → G) : G := by obtain ⟨a, b, c, d, e, f, p⟩ := h; exact k a b c d e f p
theorem ex7 {α β γ δ ε ζ η : Type} {P : α → β → γ → δ → ε → ζ → η → Prop} {G : Prop} (h : ∃ a b c d e f g, P a b c d e f g) (k : ∀ a b c d e f g, P a b c d e f g → G) : G := by obtain ⟨a, b, c, d, e, f, g, p⟩ := h; exact k a b c d e f g p
theorem exV {α β : Type} {v : Value} {g : α → β → Value} {P : α → β → Prop} {Q : Value → Prop} (h : ∃ a b, v = g a b ∧ P a b) (k : ∀ a b, P a b → Q (g a b)) : Q v := by obtain ⟨a, b, e, p⟩ := h; exact e ▸ k a b p
theorem imp4 {α β γ δ : Type} {P P' : α → β → γ → δ → Prop} (h : ∃ a b c d, P a b c d) (k : ∀ a b c d, P a b c d → P' a b c d) : ∃ a b c d, P' a b c d := by obtain ⟨a, b, c, d, p⟩ := h; exact ⟨a, b, c, d, k a b c d p⟩
theorem imp5 {α β γ δ ε : Type} {P P' : α → β → γ → δ → ε → Prop} (h : ∃ a b c d e, P a b c d e) (k : ∀ a b c d e, P a b c d e → P' a b c d e) : ∃ a b c d e, P' a b c d e := by obtain ⟨a, b, c, d, e, p⟩ := h; exact ⟨a, b, c, d, e, k a b c d e p⟩
theorem RowAt.elim {imm : Led} {v : Value} {kind : String} {p k o : Int} {G : Value → Prop} (h : RowAt imm v kind p k o)
    (g : ∀ (xr dx : Addr) (hs : Nat → Int) (ts : Nat → Tok) (n : Nat) (t4 t5 t6 t7 : Tok), (xr, instObj 80 dx) ∈ imm → (dx, dictOf (rowV hs ts (.str (Str.ofString kind) t4) (.int p t5) (.int k t6) (.int o t7)) n) ∈ imm → G (.ref xr)) : G v :=
  by obtain ⟨x, dx, hs, ts, n, t4, t5, t6, t7, e, a, b⟩ := h; exact e ▸ g x dx hs ts n t4 t5 t6 t7 a b
theorem ex5 {α β γ δ ε : Type} {P : α → β → γ → δ → ε → Prop} {G : Prop} (h : ∃ a b c d e, P a b c d e) (k : ∀ a b c d e, P a b c d e → G) : G := by obtain ⟨a, b, c, d, e, p⟩ := h; exact k a b c d e p
theorem allLt_mem {d : Addr} : ∀ {l : Led}, AllLt d l → ∀ p ∈ l, p.1 < d := by
  intro l
  induction l with
  | nil => intro _ p hp; cases hp
  | cons q l ih =>
    intro h p hp
    rcases List.mem_cons.mp hp with rfl | hp
    · exact h.1
    · exact ih h.2 p hp
theorem allLt_ne {d : Addr} {l : Led} (h : AllLt d l) : ∀ p ∈ l, p.1 ≠ d := fun p hp => Nat.ne_of_lt (allLt_mem h p hp)
theorem Sys.push2 {z : Nat} {lay : Nat → Addr} {σ : Nat → Obj} {imm news : Led} (S : Sys z lay σ imm news) {x d : Addr} {o1 o2 : Obj} (l1 : AllLt d news) (l2 : @LT.lt Nat _ d x) : Sys z lay σ ([(x, o1), (d, o2)] ++ imm) ((x, o1) :: (d, o2) :: news) :=
  (S.push (allLt_mem l1)).push fun p hp => by
    rcases List.mem_cons.mp hp with rfl | hp
    · exact l2
    · exact Nat.lt_trans (allLt_mem l1 p hp) l2
section
variable {prog : Program} {w : World} {A : Around} {E : Value → Shared → Prop} {s : Shared} {h₀ : Heap} {L : Addr} {m : Str → Option Value} {z : Nat} {lay : Nat → Addr} {σ : Nat → Obj} {imm news : Led}
theorem newTuple_Z {vs : List Value} {Q : Value → Shared → Prop} (F : Fr h₀ L s.heap m) (N : News h₀ L s.heap news) (S : Sys z lay σ imm news)
    (h : ∀ t h' news', Fr h₀ L h' m → News h₀ L h' news' → Sys z lay σ ((t, tupO vs) :: imm) news' → Q (.ref t) { s with heap := h' }) (hv : Nat.ble vs.length 1000 = true) :
    wpAny (model prog w) A (newTuple vs) Q E s :=
  wpAny_newObj_type (h _ _ _ (F.push _) (N.push F _) (S.push fun p hp => Heap.lt_size (N p hp).1)) (by have := Nat.le_of_ble_eq_true hv; show vs.toArray.size ≤ sizeLine; rw [List.size_toArray, sizeLine_eq]; omega)
theorem tup_inZ {i t : Nat} {ok : Obj} {ks : List Int} {f : List Int → Option Value} {b : Nat} {imm₀ : Led} {Q : Value → Shared → Prop} (hi : i < 14) (hu : A.units + 1 < cLine) (N : News h₀ L s.heap news) (S : Sys z lay σ imm news)
    (T : TupD prog w imm₀ (σ i) f b) (hs : ∀ p ∈ imm₀, p ∈ imm) (ht : (t, ok) ∈ imm) (tk : TupKeyObj (intKind prog w) ks ok)
    (h : Q (.bool (f ks).isSome) { s with toks := s.toks + (ks.length + 1) }) : wpAny (model prog w) A (compareOp .In (.ref t) (.ref (lay i))) Q E s :=
  tup_in hu N S.sub (S.mem i hi) (S.lo i hi) (T.mono hs (Nat.le_refl _)) (S.sub _ ht) tk h
theorem tup_notinZ {i t : Nat} {ok : Obj} {ks : List Int} {f : List Int → Option Value} {b : Nat} {imm₀ : Led} {Q : Value → Shared → Prop} (hi : i < 14) (hu : A.units + 1 < cLine) (N : News h₀ L s.heap news) (S : Sys z lay σ imm news)
    (T : TupD prog w imm₀ (σ i) f b) (hs : ∀ p ∈ imm₀, p ∈ imm) (ht : (t, ok) ∈ imm) (tk : TupKeyObj (intKind prog w) ks ok)
    (h : Q (.bool (!(f ks).isSome)) { s with toks := s.toks + (ks.length + 1) }) : wpAny (model prog w) A (compareOp .NotIn (.ref t) (.ref (lay i))) Q E s :=
  tup_notin hu N S.sub (S.mem i hi) (S.lo i hi) (T.mono hs (Nat.le_refl _)) (S.sub _ ht) tk h

theorem tup_setZ' {i t : Nat} {ok : Obj} {ks : List Int} {f : List Int → Option Value} {b : Nat} {v : Value} {imm₀ : Led} {Q : Unit → Shared → Prop} (hi : i < 14) (hu : A.units + 1 < cLine) (F : Fr h₀ L s.heap m) (N : News h₀ L s.heap news) (S : Sys z lay σ imm news)
    (T : TupD prog w imm₀ (σ i) f b) (hs : ∀ p ∈ imm₀, p ∈ imm) (ht : (t, ok) ∈ imm) (tk : TupKeyObj (intKind prog w) ks ok) (hb : b ≤ 1000000)
    (h : ∀ h' o' news', Fr h₀ L h' m → News h₀ L h' news' → Sys z lay (upd σ i o') imm news' → TupD prog w imm o' (fun x => if x = ks then some v else f x) (b + 1) → Q () { s with heap := h', toks := s.toks + (ks.length + 1) }) :
    wpAny (model prog w) A (setItem (.ref (lay i)) (.ref t) v) Q E s :=
  tup_setZ hi hu F N S (T.mono hs (Nat.le_refl _)) ht tk hb h
theorem tup_delZ' {i t : Nat} {ok : Obj} {ks : List Int} {f : List Int → Option Value} {b : Nat} {imm₀ : Led} {Q : Unit → Shared → Prop} (hi : i < 14) (hu : A.units + 1 < cLine) (F : Fr h₀ L s.heap m) (N : News h₀ L s.heap news) (S : Sys z lay σ imm news)
    (T : TupD prog w imm₀ (σ i) f b) (hs : ∀ p ∈ imm₀, p ∈ imm) (ht : (t, ok) ∈ imm) (tk : TupKeyObj (intKind prog w) ks ok) (hb : b ≤ 1000000) (hf : (f ks).isSome = true)
    (h : ∀ h' o' news', Fr h₀ L h' m → News h₀ L h' news' → Sys z lay (upd σ i o') imm news' → TupD prog w imm o' (fun x => if x = ks then none else f x) b → Q () { s with heap := h', toks := s.toks + (ks.length + 1) }) :
    wpAny (model prog w) A (delItem (.ref (lay i)) (.ref t)) Q E s :=
  tup_delZ hi hu F N S (T.mono hs (Nat.le_refl _)) ht tk hb hf h
theorem tup_get2Z {i t : Nat} {ok : Obj} {ks : List Int} {f : List Int → Option Value} {b : Nat} {dflt : Value} {imm₀ : Led} {Q : Value → Shared → Prop} (hi : i < 14) (hu : A.units + 1 < cLine) (N : News h₀ L s.heap news) (S : Sys z lay σ imm news)
    (T : TupD prog w imm₀ (σ i) f b) (hs : ∀ p ∈ imm₀, p ∈ imm) (ht : (t, ok) ∈ imm) (tk : TupKeyObj (intKind prog w) ks ok)
    (h : Q ((f ks).getD dflt) { s with toks := s.toks + (ks.length + 1) }) : wpAny (model prog w) A (call (.builtin "dict.get") [.ref (lay i), .ref t, dflt]) Q E s :=
  tup_get2 hu N S.sub (S.mem i hi) (S.lo i hi) (T.mono hs (Nat.le_refl _)) (S.sub _ ht) tk h
theorem tup_getMethodZ {i : Nat} {f : List Int → Option Value} {b : Nat} {imm₀ : Led} {pl : Sem Bool} {Q : Value × List Value → Shared → Prop} (hi : i < 14) (N : News h₀ L s.heap news) (S : Sys z lay σ imm news)
    (T : TupD prog w imm₀ (σ i) f b) (hs : ∀ p ∈ imm₀, p ∈ imm) (h : Q (.builtin "dict.get", [.ref (lay i)]) s) : wpAny (model prog w) A (getMethod (.ref (lay i)) "get" pl) Q E s :=
  tup_getMethod N S.sub (S.mem i hi) (T.mono hs (Nat.le_refl _)) h
theorem putL_length (name : Str) (h : Int) (k v : Value) : ∀ es : List DictEntry, (putL name h k v es).length ≤ es.length + 1 := by
  intro es
  induction es with
  | nil => exact Nat.le_refl _
  | cons e r ih => unfold putL; split <;> simp <;> omega
/-- self.x = v -/
theorem setAttr_Z {K : Frag} {x C : Addr} {es es' : List DictEntry} {n n' : Nat} {name : Str} {v : Value} {Q : Unit → Shared → Prop} (F : Fr h₀ L s.heap m) (X₀ : K.In h₀) (N : News h₀ L s.heap news) (S : Sys z lay σ imm news)
    (hx : (x, instObj C (lay iSd)) ∈ imm) (e : σ iSd = dictOf es n)
    (hs : findIn K (.ref C) "__setattr__" = some (some (.builtin "object.__setattr__"))) (hp : plainOver K C = true) (ht : takerIn K C name = some none) (hh : hasDictIn K C = true) (hl : (getL name es).isSome = true)
    (he : putL name (PyData.keyHash w.params name) (.str name (s.toks + 1)) v es = es') (hn : putN name es n = n') (hz : es.length ≤ 100)
    (h : ∀ h' news', Fr h₀ L h' m → News h₀ L h' news' → Sys z lay (upd σ iSd (dictOf es' n')) imm news' → upd σ iSd (dictOf es' n') iSd = dictOf es' n' → Q () { s with heap := h', toks := s.toks + 2 }) :
    wpAny (model prog w) A (setAttr (.ref x) name v) Q E s :=
  set_dict F X₀ (S.focus (i := iSd) N (S.up (by decide))) ⟨N.get (S.sub _ hx), rfl, rfl, N.get (S.mem_eq (by decide) e)⟩ rfl hs hp ht hh hl (by rw [he, hn]) (by rw [e]; exact Upd.head (put_off _ _))
    (by rw [← he]; have := putL_length name (PyData.keyHash w.params name) (.str name (s.toks + 1)) v es; omega)
    fun h' F' N' => h h' _ F' N' (S.write (S.up (by decide)) _) (upd_self _ _ _)
section sdp
variable {hs : Nat → Int} {ts : Nat → Tok} {ac jl td ds wo ws og lg : Addr} {rf : Int} {h : Int} {k : Value}
theorem sdp_journal {q : Addr} : putL (Str.ofString "journal") h k (.ref q) (sdE hs ts ac jl td ds wo ws og rf lg) = sdE hs ts ac q td ds wo ws og rf lg := rfl
theorem sdp_touched {q : Addr} : putL (Str.ofString "touched") h k (.ref q) (sdE hs ts ac jl td ds wo ws og rf lg) = sdE hs ts ac jl q ds wo ws og rf lg := rfl
theorem sdp_destroyed {q : Addr} : putL (Str.ofString "destroyed") h k (.ref q) (sdE hs ts ac jl td ds wo ws og rf lg) = sdE hs ts ac jl td q wo ws og rf lg := rfl
theorem sdp_warm_ones {q : Addr} : putL (Str.ofString "warm_ones") h k (.ref q) (sdE hs ts ac jl td ds wo ws og rf lg) = sdE hs ts ac jl td ds q ws og rf lg := rfl
theorem sdp_warm_slots {q : Addr} : putL (Str.ofString "warm_slots") h k (.ref q) (sdE hs ts ac jl td ds wo ws og rf lg) = sdE hs ts ac jl td ds wo q og rf lg := rfl
theorem sdp_originals {q : Addr} : putL (Str.ofString "originals") h k (.ref q) (sdE hs ts ac jl td ds wo ws og rf lg) = sdE hs ts ac jl td ds wo ws q rf lg := rfl
theorem sdp_logs {q : Addr} : putL (Str.ofString "logs") h k (.ref q) (sdE hs ts ac jl td ds wo ws og rf lg) = sdE hs ts ac jl td ds wo ws og rf q := rfl
theorem sdp_refund {r : Int} {t : Tok} : putL (Str.ofString "refund") h k (.int r t) (sdE hs ts ac jl td ds wo ws og rf lg) = sdE hs (upd ts 10 t) ac jl td ds wo ws og r lg := rfl
theorem sdp_n {name : Str} {n : Nat} (e : (sdE hs ts ac jl td ds wo ws og rf lg).any (fun e => e.key.isStr name) = true := by rfl) : putN name (sdE hs ts ac jl td ds wo ws og rf lg) n = n := by unfold putN; rw [e]; rfl
end sdp
theorem getItem_imm {d : Addr} {o : Obj} {b : Nat} {p : Int} {t : Tok} {f : Int → Option Value} {v : Value} {value slice : Expr} {Q : Value → Shared → Prop} (N : News h₀ L s.heap news) (S : Sys z lay σ imm news) (hd : (d, o) ∈ imm) (D : IntD prog w o f b) (hv : f p = some v)
    (h : Q v { s with toks := s.toks + 1 }) (hs : subscripted slice false (.ref d) (.int p t) = operate [.ref d, .int p t] (getItem (.ref d) (.int p t)) := by with_unfolding_all rfl) :
    wpAny (model prog w) A (subscriptTail value slice (.ref d) (.int p t)) Q E s := key_tail N (S.sub _ hd) D (intKind_is prog w p t) hv h hs
theorem in_imm {d : Addr} {o : Obj} {b : Nat} {p : Int} {t : Tok} {f : Int → Option Value} {Q : Value → Shared → Prop} (N : News h₀ L s.heap news) (S : Sys z lay σ imm news) (hd : (d, o) ∈ imm) (lo : (d == sysModules) = false) (D : IntD prog w o f b)
    (h : Q (.bool (f p).isSome) { s with toks := s.toks + 1 }) : wpAny (model prog w) A (compareOp .In (.int p t) (.ref d)) Q E s := key_in N (S.sub _ hd) lo D (intKind_is prog w p t) h
theorem notin_imm {d : Addr} {o : Obj} {b : Nat} {p : Int} {t : Tok} {f : Int → Option Value} {Q : Value → Shared → Prop} (N : News h₀ L s.heap news) (S : Sys z lay σ imm news) (hd : (d, o) ∈ imm) (lo : (d == sysModules) = false) (D : IntD prog w o f b)
    (h : Q (.bool (!(f p).isSome)) { s with toks := s.toks + 1 }) : wpAny (model prog w) A (compareOp .NotIn (.int p t) (.ref d)) Q E s := key_notin N (S.sub _ hd) lo D (intKind_is prog w p t) h
theorem int_setZ {i b : Nat} {p : Int} {t : Tok} {f : Int → Option Value} {v : Value} {Q : Unit → Shared → Prop} (hi : i < 14) (F : Fr h₀ L s.heap m) (N : News h₀ L s.heap news) (S : Sys z lay σ imm news) (T : IntD prog w (σ i) f b) (hb : b ≤ 1000000)
    (h : ∀ h' o' news', Fr h₀ L h' m → News h₀ L h' news' → Sys z lay (upd σ i o') imm news' → IntD prog w o' (fun x => if x = p then some v else f x) (b + 1) → Q () { s with heap := h', toks := s.toks + 1 }) :
    wpAny (model prog w) A (setItem (.ref (lay i)) (.int p t) v) Q E s := key_setZ hi F N S T (intKind_is prog w p t) hb h
theorem int_delZ {i b : Nat} {p : Int} {t : Tok} {f : Int → Option Value} {Q : Unit → Shared → Prop} (hi : i < 14) (F : Fr h₀ L s.heap m) (N : News h₀ L s.heap news) (S : Sys z lay σ imm news) (T : IntD prog w (σ i) f b) (hb : b ≤ 1000000) (hf : (f p).isSome = true)
    (h : ∀ h' o' news', Fr h₀ L h' m → News h₀ L h' news' → Sys z lay (upd σ i o') imm news' → IntD prog w o' (fun x => if x = p then none else f x) b → Q () { s with heap := h', toks := s.toks + 1 }) :
    wpAny (model prog w) A (delItem (.ref (lay i)) (.int p t)) Q E s := key_delZ hi F N S T (intKind_is prog w p t) hb hf h
theorem int_get2Z {i b : Nat} {p : Int} {t : Tok} {f : Int → Option Value} {dflt : Value} {Q : Value → Shared → Prop} (hi : i < 14) (N : News h₀ L s.heap news) (S : Sys z lay σ imm news) (D : IntD prog w (σ i) f b)
    (h : Q ((f p).getD dflt) { s with toks := s.toks + 1 }) : wpAny (model prog w) A (call (.builtin "dict.get") [.ref (lay i), .int p t, dflt]) Q E s := key_get2 N (S.mem i hi) (S.lo i hi) D (intKind_is prog w p t) h
theorem int_getMethodZ {i b : Nat} {f : Int → Option Value} {pl : Sem Bool} {Q : Value × List Value → Shared → Prop} (hi : i < 14) (N : News h₀ L s.heap news) (S : Sys z lay σ imm news) (D : IntD prog w (σ i) f b)
    (h : Q (.builtin "dict.get", [.ref (lay i)]) s) : wpAny (model prog w) A (getMethod (.ref (lay i)) "get" pl) Q E s := key_getMethod N (S.mem i hi) D h
theorem int_inZ {i b : Nat} {p : Int} {t : Tok} {f : Int → Option Value} {Q : Value → Shared → Prop} (hi : i < 14) (N : News h₀ L s.heap news) (S : Sys z lay σ imm news) (D : IntD prog w (σ i) f b)
    (h : Q (.bool (f p).isSome) { s with toks := s.toks + 1 }) : wpAny (model prog w) A (compareOp .In (.int p t) (.ref (lay i))) Q E s := key_in N (S.mem i hi) (S.lo i hi) D (intKind_is prog w p t) h
theorem int_notinZ {i b : Nat} {p : Int} {t : Tok} {f : Int → Option Value} {Q : Value → Shared → Prop} (hi : i < 14) (N : News h₀ L s.heap news) (S : Sys z lay σ imm news) (D : IntD prog w (σ i) f b)
    (h : Q (.bool (!(f p).isSome)) { s with toks := s.toks + 1 }) : wpAny (model prog w) A (compareOp .NotIn (.int p t) (.ref (lay i))) Q E s := key_notin N (S.mem i hi) (S.lo i hi) D (intKind_is prog w p t) h
end

section
variable {w : World} {st : Addr} {ax : Aux} {lay : Nat → Addr} {σ : Nat → Obj} {imm imm' : Led} {x : SX} {b b' : Nat}
theorem ix_ne {i : Nat} (p : Int) (h : 3 ≤ i) : ix p ≠ i := by have := ix_lt p; omega
theorem StRep.mono (R : StRep w st ax lay σ imm x b) (hs : ∀ q ∈ imm, q ∈ imm') (hb : b ≤ b') : StRep w st ax lay σ imm' x b' :=
  ⟨hs _ R.st, R.sd, hs _ R.ac, R.acl, R.acd, fun i hi => hs _ (R.acc i hi), fun i hi => hs _ (R.accd i hi), hs _ R.ds, R.dsl, R.dsd,
    fun p hp => let ⟨f, a, c⟩ := R.stor p hp; ⟨f, a.mono hb, c⟩, R.jl, R.jr.mono hs, Nat.le_trans R.jb hb,
    (by obtain ⟨f, a, c⟩ := R.td; exact ⟨f, a.mono hb, c⟩), R.tdp, (by obtain ⟨f, a, c⟩ := R.wo; exact ⟨f, a.mono hb, c⟩), (by obtain ⟨f, a, c⟩ := R.ws; exact ⟨f, a.mono hs hb, c⟩), (by obtain ⟨f, a, c⟩ := R.og; exact ⟨f, a.mono hs hb, c⟩)⟩
theorem StRep.lift {σ' : Nat → Obj} {z : Nat} {news : Led} (R : StRep w st ax lay σ imm x b) (S : Sys z lay σ' imm' news) (hs : Suf imm imm') (hb : b ≤ b') : StRep w st ax lay σ imm' x b' := R.mono hs.sub hb
theorem stor_ne {i : Nat} {o' : Obj} {cur : Int → Int → Int} (h : ∀ p, Pl p → ∃ f, IntD pr w (σ (ix p)) f b ∧ ∀ k, IsW (f k) (cur p k)) (hi : 3 ≤ i) :
    ∀ p, Pl p → ∃ f, IntD pr w (upd σ i o' (ix p)) f b ∧ ∀ k, IsW (f k) (cur p k) := fun p hp => by
  rw [upd_ne _ _ (ix_ne p hi)]; exact h p hp
theorem StRep.set_ws (R : StRep w st ax lay σ imm x b) {o' : Obj} {f' : List Int → Option Value} {ws' : Int → Int → Bool} (T : TupD pr w imm o' f' b) (e : ∀ p k, (f' [p, k]).isSome = ws' p k) :
    StRep w st ax lay (upd σ iWs o') imm { x with c := { x.c with ws := ws' } } b :=
  ⟨R.st, R.sd, R.ac, R.acl, R.acd, R.acc, R.accd, R.ds, R.dsl, R.dsd, stor_ne R.stor (by decide), R.jl, R.jr, R.jb, R.td, R.tdp, R.wo, ⟨f', T, e⟩, R.og⟩
theorem StRep.set_wo (R : StRep w st ax lay σ imm x b) {o' : Obj} {f' : Int → Option Value} {wo' : Int → Bool} (T : IntD pr w o' f' b) (e : ∀ p, (f' p).isSome = wo' p) :
    StRep w st ax lay (upd σ iWo o') imm { x with c := { x.c with wo := wo' } } b :=
  ⟨R.st, R.sd, R.ac, R.acl, R.acd, R.acc, R.accd, R.ds, R.dsl, R.dsd, stor_ne R.stor (by decide), R.jl, R.jr, R.jb, R.td, R.tdp, ⟨f', T, e⟩, R.ws, R.og⟩
theorem StRep.set_td (R : StRep w st ax lay σ imm x b) {o' : Obj} {f' : Int → Option Value} {td' : Int → Bool} (T : IntD pr w o' f' b) (e : ∀ p, (f' p).isSome = td' p) (ht : ∀ p, td' p = true → Pl p) :
    StRep w st ax lay (upd σ iTd o') imm { x with c := { x.c with tch := td' } } b :=
  ⟨R.st, R.sd, R.ac, R.acl, R.acd, R.acc, R.accd, R.ds, R.dsl, R.dsd, stor_ne R.stor (by decide), R.jl, R.jr, R.jb, ⟨f', T, e⟩, ht, R.wo, R.ws, R.og⟩
theorem StRep.set_og (R : StRep w st ax lay σ imm x b) {o' : Obj} {f' : List Int → Option Value} {og' : Int → Int → Option Int} (T : TupD pr w imm o' f' b) (e : ∀ p k, IsO (f' [p, k]) (og' p k)) :
    StRep w st ax lay (upd σ iOg o') imm { x with og := og' } b :=
  ⟨R.st, R.sd, R.ac, R.acl, R.acd, R.acc, R.accd, R.ds, R.dsl, R.dsd, stor_ne R.stor (by decide), R.jl, R.jr, R.jb, R.td, R.tdp, R.wo, R.ws, ⟨f', T, e⟩⟩
theorem StRep.set_stor (R : StRep w st ax lay σ imm x b) {p : Int} (hp : Pl p) {o' : Obj} {f' : Int → Option Value} {cur' : Int → Int → Int} (T : IntD pr w o' f' b) (e : ∀ k, IsW (f' k) (cur' p k)) (he : ∀ q, q ≠ p → cur' q = x.c.cur q) :
    StRep w st ax lay (upd σ (ix p) o') imm { x with c := { x.c with cur := cur' } } b := by
  have n : ∀ i, 3 ≤ i → upd σ (ix p) o' i = σ i := fun i hi => upd_ne _ _ (by have := ix_lt p; omega)
  refine ⟨R.st, (n _ (by decide)).trans R.sd, R.ac, R.acl, R.acd, R.acc, R.accd, R.ds, R.dsl, R.dsd, fun q hq => ?_, (n _ (by decide)).trans R.jl, R.jr, R.jb, ?_, R.tdp, ?_, ?_, ?_⟩
  · by_cases h : q = p
    · subst h; exact ⟨f', by rw [upd_self]; exact T, e⟩
    · rw [upd_ne _ _ fun e => h (ix_inj hq hp e)]
      obtain ⟨f, a, c⟩ := R.stor q hq
      exact ⟨f, a, fun k => by show IsW _ (cur' q k); rw [he q h]; exact c k⟩
  · rw [n _ (by decide)]; exact R.td
  · rw [n _ (by decide)]; exact R.wo
  · rw [n _ (by decide)]; exact R.ws
  · rw [n _ (by decide)]; exact R.og
theorem StRep.push (R : StRep w st ax lay σ imm x b) {v : Value} {r : Row} {n : Nat} (hr : RowIs imm v r) (hb : ax.jv.length + 1 ≤ b) :
    StRep w st { ax with jv := ax.jv ++ [v], jn := n } lay (upd σ iJl (listOf (ax.jv.toArray.push v) n)) imm { x with jr := x.jr ++ [r] } b :=
  ⟨R.st, R.sd, R.ac, R.acl, R.acd, R.acc, R.accd, R.ds, R.dsl, R.dsd, stor_ne R.stor (by decide), by rw [upd_self]; simp, R.jr.snoc hr, by simp; exact hb, R.td, R.tdp, R.wo, R.ws, R.og⟩
theorem StRep.pop (R : StRep w st ax lay σ imm x b) {v : Value} {r : Row} {vs : List Value} {rs : List Row} {n : Nat} (ev : ax.jv = vs ++ [v]) (er : x.jr = rs ++ [r]) :
    StRep w st { ax with jv := vs, jn := n } lay (upd σ iJl (listOf vs.toArray n)) imm { x with jr := rs } b ∧ RowIs imm v r := by
  have h := R.jr
  rw [ev, er] at h
  generalize ea : vs ++ [v] = va at h
  generalize eb : rs ++ [r] = rb at h
  cases h with
  | nil => simp at ea
  | @snoc vs' rs' v' r' h1 h2 =>
    obtain ⟨rfl, e1⟩ := List.append_inj' ea (by simp)
    obtain ⟨rfl, e2⟩ := List.append_inj' eb (by simp)
    cases e1; cases e2
    exact ⟨⟨R.st, R.sd, R.ac, R.acl, R.acd, R.acc, R.accd, R.ds, R.dsl, R.dsd, stor_ne R.stor (by decide), by rw [upd_self], h1, by have := R.jb; rw [ev] at this; simp at this; show vs.length ≤ b; omega, R.td, R.tdp, R.wo, R.ws, R.og⟩, h2⟩
theorem StRep.set_rf (R : StRep w st ax lay σ imm x b) {hs : Nat → Int} {ts : Nat → Tok} {n : Nat} {rf : Int} {es : List DictEntry} (e : es = sdE hs ts ax.ac (lay iJl) (lay iTd) ax.ds (lay iWo) (lay iWs) (lay iOg) rf ax.lg) :
    StRep w st { ax with hs := hs, ts := ts, sn := n } lay (upd σ iSd (dictOf es n)) imm { x with c := { x.c with rf := rf } } b := by
  subst e
  exact ⟨R.st, by rw [upd_self], R.ac, R.acl, R.acd, R.acc, R.accd, R.ds, R.dsl, R.dsd, stor_ne R.stor (by decide), R.jl, R.jr, R.jb, R.td, R.tdp, R.wo, R.ws, R.og⟩
end
/-- f at p k is v -/
def set1 {α : Type} (f : Int → α) (p : Int) (v : α) : Int → α := fun q => if q = p then v else f q
def set2 {α : Type} (f : Int → Int → α) (p k : Int) (v : α) : Int → Int → α := fun q l => if q = p ∧ l = k then v else f q l
def SX.warmSlot (x : SX) (p k : Int) : SX := if x.c.ws p k then x else { x with c := { x.c with ws := set2 x.c.ws p k true }, jr := x.jr ++ [.wslot p k] }
def SX.warm (x : SX) (p : Int) : SX := if x.c.wo p then x else { x with c := { x.c with wo := set1 x.c.wo p true }, jr := x.jr ++ [.warm p] }
theorem Frame.refl (z : Nat) (lay : Nat → Addr) (σ : Nat → Obj) : Frame z lay lay σ σ := fun _ _ _ => ⟨rfl, rfl⟩
theorem Frame.upd {z : Nat} {lay lay' : Nat → Addr} {σ σ' : Nat → Obj} (h : Frame z lay lay' σ σ') {i : Nat} (hi : i ≠ 3 ∧ i < 10) (o : Obj) : Frame z lay lay' σ (upd σ' i o) := fun j hj hz => by
  obtain ⟨a, b⟩ := h j hj hz
  exact ⟨a, by rw [upd_ne _ _ (by omega)]; exact b⟩
theorem RowAt.of {imm : Led} {x dx : Addr} {kind : String} {p k old : Int} {t4 t5 t6 t7 : Tok} {hs : Nat → Int} {ts : Nat → Tok} {n : Nat} (h1 : (x, instObj 80 dx) ∈ imm)
    (h2 : (dx, dictOf (rowV hs ts (.str (Str.ofString kind) t4) (.int p t5) (.int k t6) (.int old t7)) n) ∈ imm) : RowAt imm (.ref x) kind p k old := ⟨x, dx, hs, ts, n, t4, t5, t6, t7, rfl, h1, h2⟩
theorem ws_put {f : List Int → Option Value} {g : Int → Int → Bool} (e : ∀ p k, (f [p, k]).isSome = g p k) (p k : Int) (v : Value) :
    ∀ q l, ((fun x => if x = [p, k] then some v else f x) [q, l]).isSome = set2 g p k true q l := fun q l => by
  show (if [q, l] = [p, k] then some v else f [q, l]).isSome = if q = p ∧ l = k then true else g q l
  by_cases h : q = p ∧ l = k
  · rw [if_pos h, if_pos (by rw [h.1, h.2])]; rfl
  · rw [if_neg h, if_neg (fun e => h (by injection e with a b; injection b with b _; exact ⟨a, b⟩))]; exact e q l
theorem ws_cut {f : List Int → Option Value} {g : Int → Int → Bool} (e : ∀ p k, (f [p, k]).isSome = g p k) (p k : Int) :
    ∀ q l, ((fun x => if x = [p, k] then none else f x) [q, l]).isSome = set2 g p k false q l := fun q l => by
  show (if [q, l] = [p, k] then none else f [q, l]).isSome = if q = p ∧ l = k then false else g q l
  by_cases h : q = p ∧ l = k
  · rw [if_pos h, if_pos (by rw [h.1, h.2])]; rfl
  · rw [if_neg h, if_neg (fun e => h (by injection e with a b; injection b with b _; exact ⟨a, b⟩))]; exact e q l
theorem wo_put {f : Int → Option Value} {g : Int → Bool} (e : ∀ p, (f p).isSome = g p) (p : Int) (v : Value) :
    ∀ q, ((fun x => if x = p then some v else f x) q).isSome = set1 g p true q := fun q => by
  show (if q = p then some v else f q).isSome = if q = p then true else g q
  by_cases h : q = p
  · rw [if_pos h, if_pos h]; rfl
  · rw [if_neg h, if_neg h]; exact e q
theorem wo_cut {f : Int → Option Value} {g : Int → Bool} (e : ∀ p, (f p).isSome = g p) (p : Int) :
    ∀ q, ((fun x => if x = p then none else f x) q).isSome = set1 g p false q := fun q => by
  show (if q = p then none else f q).isSome = if q = p then false else g q
  by_cases h : q = p
  · rw [if_pos h, if_pos h]; rfl
  · rw [if_neg h, if_neg h]; exact e q
theorem ix_fr (p : Int) : ix p ≠ 3 ∧ ix p < 10 := by have := ix_lt p; omega
/-- what a State's method leaves -/
abbrev Post (w : World) (z : Nat) (st : Addr) (lay : Nat → Addr) (σ σ' : Nat → Obj) (imm' : Led) (x' : SX) (b' : Nat) : Prop := ∃ ax', StRep w st ax' lay σ' imm' x' b' ∧ Frame z lay lay σ σ'
theorem ix_lt14 (p : Int) : ix p < 14 := by have := ix_lt p; omega
def SX.touch (x : SX) (p : Int) : SX := if x.c.tch p then x else { x with c := { x.c with tch := set1 x.c.tch p true }, jr := x.jr ++ [.touched p] }
def SX.put (x : SX) (p k v : Int) : SX := { x with c := { x.c with cur := set2 x.c.cur p k v } }
theorem set2_same {α : Type} (f : Int → Int → α) (p k : Int) : set2 f p k (f p k) = f := by
  funext q l; unfold set2; split
  · rename_i h; rw [h.1, h.2]
  · rfl
theorem Frame.trans {z : Nat} {lay lay' lay'' : Nat → Addr} {σ σ' σ'' : Nat → Obj} (h : Frame z lay lay' σ σ') (k : Frame z lay' lay'' σ' σ'') : Frame z lay lay'' σ σ'' := fun i hi hz =>
  ⟨(k i hi hz).1.trans (h i hi hz).1, (k i hi hz).2.trans (h i hi hz).2⟩
def SX.orig (x : SX) (p k : Int) : SX := if (x.og p k).isSome then x else { x with og := set2 x.og p k (some (x.c.cur p k)) }
def SX.row (x : SX) (r : Row) : SX := { x with jr := x.jr ++ [r] }
def SX.setSlot (x : SX) (p k v : Int) : SX := (((x.orig p k).touch p).row (.slot p k (x.c.cur p k))).put p k v
def C.undo (c : C) : Row → C
  | .junk => c
  | .touched p => { c with tch := set1 c.tch p false }
  | .warm p => { c with wo := set1 c.wo p false }
  | .wslot p k => { c with ws := set2 c.ws p k false }
  | .slot p k old => { c with cur := set2 c.cur p k old }
  | .refund old => { c with rf := old }
def C.UndoOk (c : C) : Row → Prop
  | .junk => False
  | .touched p => c.tch p = true
  | .warm p => c.wo p = true
  | .wslot p k => c.ws p k = true
  | .slot p _ _ => Pl p
  | .refund _ => True
def SX.undo (x : SX) (r : Row) : SX := { x with c := x.c.undo r }
/-- what stood at a mark, by undoing row after row -/
inductive Trail : C → List Row → C → List Row → Prop
  | refl (c : C) (jr : List Row) : Trail c jr c jr
  | step {c c' : C} {jr jr' : List Row} {r : Row} : c.UndoOk r → Trail (c.undo r) jr c' jr' → Trail c (jr ++ [r]) c' jr'
theorem Trail.le {c c' : C} {jr jr' : List Row} (h : Trail c jr c' jr') : jr'.length ≤ jr.length := by
  induction h with
  | refl => exact Nat.le_refl _
  | step _ _ ih => simp only [List.length_append, List.length_cons, List.length_nil]; omega
theorem Trail.more {c c' : C} {jr jr' : List Row} (h : Trail c jr c' jr') (hl : jr'.length < jr.length) : ∃ js r, jr = js ++ [r] ∧ c.UndoOk r ∧ Trail (c.undo r) js c' jr' := by
  cases h with
  | refl => exact absurd hl (Nat.lt_irrefl _)
  | step a b => exact ⟨_, _, rfl, a, b⟩
theorem Trail.same {c c' : C} {jr jr' : List Row} (h : Trail c jr c' jr') (hl : jr.length ≤ jr'.length) : c = c' ∧ jr = jr' := by
  cases h with
  | refl => exact ⟨rfl, rfl⟩
  | step a b => have := b.le; simp only [List.length_append, List.length_cons, List.length_nil] at hl; omega
abbrev PostL (w : World) (z : Nat) (st : Addr) (lay lay' : Nat → Addr) (σ σ' : Nat → Obj) (imm' : Led) (x' : SX) (b' : Nat) : Prop := ∃ ax', StRep w st ax' lay' σ' imm' x' b' ∧ Frame z lay lay' σ σ'
theorem Frame.swap {z : Nat} {lay lay' : Nat → Addr} {σ σ' : Nat → Obj} (h : Frame z lay lay' σ σ') {i : Nat} (hi : i ≠ 3 ∧ i < 10) (q : Addr) (o : Obj) : Frame z lay (Mine.upd lay' i q) σ (Mine.upd σ' i o) := fun j hj hz => by
  obtain ⟨a, b⟩ := h j hj hz
  exact ⟨by rw [upd_ne _ _ (by omega)]; exact a, by rw [upd_ne _ _ (by omega)]; exact b⟩
theorem Frame.top {z : Nat} {lay lay' : Nat → Addr} {σ σ' : Nat → Obj} (h : Frame (z + 1) lay lay' σ σ') : Frame z lay lay' σ σ' := fun i hi hz => h i hi (by omega)
/-- the state says nothing of the loops' own objects -/
theorem StRep.same {w : World} {st : Addr} {ax : Aux} {lay lay' : Nat → Addr} {σ σ' : Nat → Obj} {imm : Led} {x : SX} {b : Nat} (R : StRep w st ax lay σ imm x b) (h : ∀ i, i < 14 → lay' i = lay i ∧ σ' i = σ i) : StRep w st ax lay' σ' imm x b := by
  have e : ∀ i, i < 14 → lay' i = lay i := fun i hi => (h i hi).1
  have f : ∀ i, i < 14 → σ' i = σ i := fun i hi => (h i hi).2
  refine ⟨by rw [e iSd (by decide)]; exact R.st, by rw [f iSd (by decide), e iJl (by decide), e iTd (by decide), e iWo (by decide), e iWs (by decide), e iOg (by decide)]; exact R.sd, R.ac, R.acl, R.acd, R.acc, fun i hi => by rw [e i (by omega)]; exact R.accd i hi,
    R.ds, R.dsl, R.dsd, fun p hp => by rw [f _ (by have := ix_lt p; omega)]; exact R.stor p hp, by rw [f iJl (by decide)]; exact R.jl, R.jr, R.jb, by rw [f iTd (by decide)]; exact R.td, R.tdp, by rw [f iWo (by decide)]; exact R.wo,
    by rw [f iWs (by decide)]; exact R.ws, by rw [f iOg (by decide)]; exact R.og⟩
theorem StRep.more {w : World} {st : Addr} {ax : Aux} {lay : Nat → Addr} {σ : Nat → Obj} {imm : Led} {x : SX} {b : Nat} (R : StRep w st ax lay σ imm x b) {z : Nat} (hz : 14 ≤ z) (q : Addr) (o : Obj) : StRep w st ax (upd lay z q) (upd σ z o) imm x b :=
  R.same fun i hi => ⟨upd_ne _ _ (by omega), upd_ne _ _ (by omega)⟩
def SX.ended (x : SX) : SX := { c := { wo := fun _ => false, ws := fun _ _ => false, cur := x.c.cur, tch := fun _ => false, rf := x.c.rf }, og := fun _ _ => none, jr := [] }

section
variable {w : World} {A : Around} {E : Value → Shared → Prop} {s : Shared} {h₀ : Heap} {L : Addr} {m : Str → Option Value} {z : Nat} {lay : Nat → Addr} {σ : Nat → Obj} {imm news : Led} {st : Addr} {ax : Aux} {x : SX} {b : Nat} {p k : Int} {t u : Tok} {tp : Addr}

theorem r_in_ws {Q : Value → Shared → Prop} (hu : A.units + 1 < cLine) (N : News h₀ L s.heap news) (S : Sys z lay σ imm news) (R : StRep w st ax lay σ imm x b) (ht : (tp, tupO [.int p t, .int k u]) ∈ imm)
    (h : Q (.bool (x.c.ws p k)) { s with toks := s.toks + 3 }) : wpAny (model pr w) A (compareOp .In (.ref tp) (.ref (lay iWs))) Q E s := by
  obtain ⟨f, T, e⟩ := R.ws
  exact tup_in hu N S.sub (S.mem iWs (by decide)) (S.lo iWs (by decide)) T (S.sub _ ht) (pairKey _ _ _ _ _ _) (by rw [e]; exact h)
theorem r_notin_ws {Q : Value → Shared → Prop} (hu : A.units + 1 < cLine) (N : News h₀ L s.heap news) (S : Sys z lay σ imm news) (R : StRep w st ax lay σ imm x b) (ht : (tp, tupO [.int p t, .int k u]) ∈ imm)
    (h : Q (.bool (!x.c.ws p k)) { s with toks := s.toks + 3 }) : wpAny (model pr w) A (compareOp .NotIn (.ref tp) (.ref (lay iWs))) Q E s := by
  obtain ⟨f, T, e⟩ := R.ws
  exact tup_notin hu N S.sub (S.mem iWs (by decide)) (S.lo iWs (by decide)) T (S.sub _ ht) (pairKey _ _ _ _ _ _) (by rw [e]; exact h)
theorem IsO.isSome {o : Option Value} {v : Option Int} (h : IsO o v) : o.isSome = v.isSome := by
  rcases h with ⟨rfl, rfl⟩ | ⟨i, t, rfl, rfl⟩ <;> rfl
theorem r_notin_og {Q : Value → Shared → Prop} (hu : A.units + 1 < cLine) (N : News h₀ L s.heap news) (S : Sys z lay σ imm news) (R : StRep w st ax lay σ imm x b) (ht : (tp, tupO [.int p t, .int k u]) ∈ imm)
    (h : Q (.bool (!(x.og p k).isSome)) { s with toks := s.toks + 3 }) : wpAny (model pr w) A (compareOp .NotIn (.ref tp) (.ref (lay iOg))) Q E s := by
  obtain ⟨f, T, e⟩ := R.og
  exact tup_notin hu N S.sub (S.mem iOg (by decide)) (S.lo iOg (by decide)) T (S.sub _ ht) (pairKey _ _ _ _ _ _) (by rw [(e p k).isSome]; exact h)
theorem r_get_og {d : Int} {v : Tok} {Q : Value → Shared → Prop} (hu : A.units + 1 < cLine) (N : News h₀ L s.heap news) (S : Sys z lay σ imm news) (R : StRep w st ax lay σ imm x b) (ht : (tp, tupO [.int p t, .int k u]) ∈ imm)
    (h : ∀ t', Q (.int ((x.og p k).getD d) t') { s with toks := s.toks + 3 }) : wpAny (model pr w) A (call (.builtin "dict.get") [.ref (lay iOg), .ref tp, .int d v]) Q E s := by
  obtain ⟨f, T, e⟩ := R.og
  refine tup_get2 hu N S.sub (S.mem iOg (by decide)) (S.lo iOg (by decide)) T (S.sub _ ht) (pairKey _ _ _ _ _ _) ?_
  rcases e p k with ⟨e1, e2⟩ | ⟨i, t', e1, e2⟩
  · have := h v; rw [e1] at this; rw [e2]; exact this
  · have := h t'; rw [e1] at this; rw [e2]; exact this
theorem r_getMethod_og {pl : Sem Bool} {Q : Value × List Value → Shared → Prop} (N : News h₀ L s.heap news) (S : Sys z lay σ imm news) (R : StRep w st ax lay σ imm x b)
    (h : Q (.builtin "dict.get", [.ref (lay iOg)]) s) : wpAny (model pr w) A (getMethod (.ref (lay iOg)) "get" pl) Q E s := by
  obtain ⟨f, T, e⟩ := R.og
  exact tup_getMethod N S.sub (S.mem iOg (by decide)) T h
theorem r_in_wo {Q : Value → Shared → Prop} (N : News h₀ L s.heap news) (S : Sys z lay σ imm news) (R : StRep w st ax lay σ imm x b)
    (h : Q (.bool (x.c.wo p)) { s with toks := s.toks + 1 }) : wpAny (model pr w) A (compareOp .In (.int p t) (.ref (lay iWo))) Q E s := by
  obtain ⟨f, T, e⟩ := R.wo
  exact int_inZ (by decide) N S T (by rw [e]; exact h)
theorem r_notin_wo {Q : Value → Shared → Prop} (N : News h₀ L s.heap news) (S : Sys z lay σ imm news) (R : StRep w st ax lay σ imm x b)
    (h : Q (.bool (!x.c.wo p)) { s with toks := s.toks + 1 }) : wpAny (model pr w) A (compareOp .NotIn (.int p t) (.ref (lay iWo))) Q E s := by
  obtain ⟨f, T, e⟩ := R.wo
  exact int_notinZ (by decide) N S T (by rw [e]; exact h)
theorem r_notin_td {Q : Value → Shared → Prop} (N : News h₀ L s.heap news) (S : Sys z lay σ imm news) (R : StRep w st ax lay σ imm x b)
    (h : Q (.bool (!x.c.tch p)) { s with toks := s.toks + 1 }) : wpAny (model pr w) A (compareOp .NotIn (.int p t) (.ref (lay iTd))) Q E s := by
  obtain ⟨f, T, e⟩ := R.td
  exact int_notinZ (by decide) N S T (by rw [e]; exact h)
theorem r_in_ac {Q : Value → Shared → Prop} (N : News h₀ L s.heap news) (S : Sys z lay σ imm news) (R : StRep w st ax lay σ imm x b) (hp : Pl p)
    (h : Q (.bool true) { s with toks := s.toks + 1 }) : wpAny (model pr w) A (compareOp .In (.int p t) (.ref ax.ac)) Q E s :=
  in_imm N S R.ac R.acl R.acd (by rw [accF, if_pos hp]; exact h)
theorem r_in_ac' {Q : Value → Shared → Prop} (N : News h₀ L s.heap news) (S : Sys z lay σ imm news) (R : StRep w st ax lay σ imm x b) (hp : ¬ Pl p)
    (h : Q (.bool false) { s with toks := s.toks + 1 }) : wpAny (model pr w) A (compareOp .In (.int p t) (.ref ax.ac)) Q E s :=
  in_imm N S R.ac R.acl R.acd (by rw [accF, if_neg hp]; exact h)
theorem r_notin_ac {Q : Value → Shared → Prop} (N : News h₀ L s.heap news) (S : Sys z lay σ imm news) (R : StRep w st ax lay σ imm x b) (hp : Pl p)
    (h : Q (.bool false) { s with toks := s.toks + 1 }) : wpAny (model pr w) A (compareOp .NotIn (.int p t) (.ref ax.ac)) Q E s :=
  notin_imm N S R.ac R.acl R.acd (by rw [accF, if_pos hp]; exact h)
theorem r_in_ds {Q : Value → Shared → Prop} (N : News h₀ L s.heap news) (S : Sys z lay σ imm news) (R : StRep w st ax lay σ imm x b)
    (h : Q (.bool false) { s with toks := s.toks + 1 }) : wpAny (model pr w) A (compareOp .In (.int p t) (.ref ax.ds)) Q E s :=
  in_imm N S R.ds R.dsl R.dsd h
theorem r_acc {value slice : Expr} {Q : Value → Shared → Prop} (N : News h₀ L s.heap news) (S : Sys z lay σ imm news) (R : StRep w st ax lay σ imm x b) (hp : Pl p)
    (h : Q (.ref (ax.acc (ix p))) { s with toks := s.toks + 1 }) (hs : subscripted slice false (.ref ax.ac) (.int p t) = operate [.ref ax.ac, .int p t] (getItem (.ref ax.ac) (.int p t)) := by with_unfolding_all rfl) :
    wpAny (model pr w) A (subscriptTail value slice (.ref ax.ac) (.int p t)) Q E s :=
  getItem_imm N S R.ac R.acd (by rw [accF, if_pos hp]) h hs
theorem r_set_ws {v : Value} {Q : Unit → Shared → Prop} (hu : A.units + 1 < cLine) (F : Fr h₀ L s.heap m) (N : News h₀ L s.heap news) (S : Sys z lay σ imm news) (R : StRep w st ax lay σ imm x b) (ht : (tp, tupO [.int p t, .int k u]) ∈ imm) (hb : b ≤ 1000000)
    (h : ∀ h' o' news', Fr h₀ L h' m → News h₀ L h' news' → Sys z lay (upd σ iWs o') imm news' → StRep w st ax lay (upd σ iWs o') imm { x with c := { x.c with ws := set2 x.c.ws p k true } } (b + 1) → Q () { s with heap := h', toks := s.toks + 3 }) :
    wpAny (model pr w) A (setItem (.ref (lay iWs)) (.ref tp) v) Q E s := by
  obtain ⟨f, T, e⟩ := R.ws
  exact tup_setZ (by decide) hu F N S T ht (pairKey _ _ _ _ _ _) hb fun h' o' n' F' N' S' T' => h h' o' n' F' N' S' ((R.mono (fun _ q => q) (Nat.le_succ b)).set_ws T' (ws_put e p k v))
theorem IsO.put {f : List Int → Option Value} {g : Int → Int → Option Int} (e : ∀ p k, IsO (f [p, k]) (g p k)) (p k : Int) (v : Int) (t : Tok) :
    ∀ q l, IsO ((fun x => if x = [p, k] then some (.int v t) else f x) [q, l]) (set2 g p k (some v) q l) := fun q l => by
  show IsO (if [q, l] = [p, k] then some (.int v t) else f [q, l]) (if q = p ∧ l = k then some v else g q l)
  by_cases h : q = p ∧ l = k
  · rw [if_pos h, if_pos (by rw [h.1, h.2])]; exact .inr ⟨v, t, rfl, rfl⟩
  · rw [if_neg h, if_neg (fun e => h (by injection e with a b; injection b with b _; exact ⟨a, b⟩))]; exact e q l
theorem r_set_og {v : Int} {tv : Tok} {Q : Unit → Shared → Prop} (hu : A.units + 1 < cLine) (F : Fr h₀ L s.heap m) (N : News h₀ L s.heap news) (S : Sys z lay σ imm news) (R : StRep w st ax lay σ imm x b) (ht : (tp, tupO [.int p t, .int k u]) ∈ imm) (hb : b ≤ 1000000)
    (h : ∀ h' o' news', Fr h₀ L h' m → News h₀ L h' news' → Sys z lay (upd σ iOg o') imm news' → StRep w st ax lay (upd σ iOg o') imm { x with og := set2 x.og p k (some v) } (b + 1) → Q () { s with heap := h', toks := s.toks + 3 }) :
    wpAny (model pr w) A (setItem (.ref (lay iOg)) (.ref tp) (.int v tv)) Q E s := by
  obtain ⟨f, T, e⟩ := R.og
  exact tup_setZ (by decide) hu F N S T ht (pairKey _ _ _ _ _ _) hb fun h' o' n' F' N' S' T' => h h' o' n' F' N' S' ((R.mono (fun _ q => q) (Nat.le_succ b)).set_og T' (IsO.put e p k v tv))
theorem r_set_wo {v : Value} {Q : Unit → Shared → Prop} (F : Fr h₀ L s.heap m) (N : News h₀ L s.heap news) (S : Sys z lay σ imm news) (R : StRep w st ax lay σ imm x b) (hb : b ≤ 1000000)
    (h : ∀ h' o' news', Fr h₀ L h' m → News h₀ L h' news' → Sys z lay (upd σ iWo o') imm news' → StRep w st ax lay (upd σ iWo o') imm { x with c := { x.c with wo := set1 x.c.wo p true } } (b + 1) → Q () { s with heap := h', toks := s.toks + 1 }) :
    wpAny (model pr w) A (setItem (.ref (lay iWo)) (.int p t) v) Q E s := by
  obtain ⟨f, T, e⟩ := R.wo
  exact int_setZ (by decide) F N S T hb fun h' o' n' F' N' S' T' => h h' o' n' F' N' S' ((R.mono (fun _ q => q) (Nat.le_succ b)).set_wo T' (wo_put e p v))
theorem r_set_td {v : Value} {Q : Unit → Shared → Prop} (hp : Pl p) (F : Fr h₀ L s.heap m) (N : News h₀ L s.heap news) (S : Sys z lay σ imm news) (R : StRep w st ax lay σ imm x b) (hb : b ≤ 1000000)
    (h : ∀ h' o' news', Fr h₀ L h' m → News h₀ L h' news' → Sys z lay (upd σ iTd o') imm news' → StRep w st ax lay (upd σ iTd o') imm { x with c := { x.c with tch := set1 x.c.tch p true } } (b + 1) → Q () { s with heap := h', toks := s.toks + 1 }) :
    wpAny (model pr w) A (setItem (.ref (lay iTd)) (.int p t) v) Q E s := by
  obtain ⟨f, T, e⟩ := R.td
  exact int_setZ (by decide) F N S T hb fun h' o' n' F' N' S' T' => h h' o' n' F' N' S' ((R.mono (fun _ q => q) (Nat.le_succ b)).set_td T' (wo_put e p v) fun q hq => by
    unfold set1 at hq; split at hq
    · rename_i h; rw [h]; exact hp
    · exact R.tdp q hq)
theorem r_del_ws {Q : Unit → Shared → Prop} (hu : A.units + 1 < cLine) (F : Fr h₀ L s.heap m) (N : News h₀ L s.heap news) (S : Sys z lay σ imm news) (R : StRep w st ax lay σ imm x b) (ht : (tp, tupO [.int p t, .int k u]) ∈ imm) (hb : b ≤ 1000000) (hf : x.c.ws p k = true)
    (h : ∀ h' o' news', Fr h₀ L h' m → News h₀ L h' news' → Sys z lay (upd σ iWs o') imm news' → StRep w st ax lay (upd σ iWs o') imm { x with c := { x.c with ws := set2 x.c.ws p k false } } b → Q () { s with heap := h', toks := s.toks + 3 }) :
    wpAny (model pr w) A (delItem (.ref (lay iWs)) (.ref tp)) Q E s := by
  obtain ⟨f, T, e⟩ := R.ws
  exact tup_delZ (by decide) hu F N S T ht (pairKey _ _ _ _ _ _) hb (by rw [e]; exact hf) fun h' o' n' F' N' S' T' => h h' o' n' F' N' S' (R.set_ws T' (ws_cut e p k))
theorem r_del_wo {Q : Unit → Shared → Prop} (F : Fr h₀ L s.heap m) (N : News h₀ L s.heap news) (S : Sys z lay σ imm news) (R : StRep w st ax lay σ imm x b) (hb : b ≤ 1000000) (hf : x.c.wo p = true)
    (h : ∀ h' o' news', Fr h₀ L h' m → News h₀ L h' news' → Sys z lay (upd σ iWo o') imm news' → StRep w st ax lay (upd σ iWo o') imm { x with c := { x.c with wo := set1 x.c.wo p false } } b → Q () { s with heap := h', toks := s.toks + 1 }) :
    wpAny (model pr w) A (delItem (.ref (lay iWo)) (.int p t)) Q E s := by
  obtain ⟨f, T, e⟩ := R.wo
  exact int_delZ (by decide) F N S T hb (by rw [e]; exact hf) fun h' o' n' F' N' S' T' => h h' o' n' F' N' S' (R.set_wo T' (wo_cut e p))
theorem r_del_td {Q : Unit → Shared → Prop} (F : Fr h₀ L s.heap m) (N : News h₀ L s.heap news) (S : Sys z lay σ imm news) (R : StRep w st ax lay σ imm x b) (hb : b ≤ 1000000) (hf : x.c.tch p = true)
    (h : ∀ h' o' news', Fr h₀ L h' m → News h₀ L h' news' → Sys z lay (upd σ iTd o') imm news' → StRep w st ax lay (upd σ iTd o') imm { x with c := { x.c with tch := set1 x.c.tch p false } } b → Q () { s with heap := h', toks := s.toks + 1 }) :
    wpAny (model pr w) A (delItem (.ref (lay iTd)) (.int p t)) Q E s := by
  obtain ⟨f, T, e⟩ := R.td
  exact int_delZ (by decide) F N S T hb (by rw [e]; exact hf) fun h' o' n' F' N' S' T' => h h' o' n' F' N' S' (R.set_td T' (wo_cut e p) fun q hq => by
    unfold set1 at hq; split at hq
    · cases hq
    · exact R.tdp q hq)
/-! storage -/
theorem IsW.isSome {o : Option Value} {v : Int} (h : IsW o v) : o.isSome = decide (v ≠ 0) := by
  rcases h with ⟨rfl, rfl⟩ | ⟨h, t, rfl⟩
  · rfl
  · simp [h]
theorem r_in_stor {Q : Value → Shared → Prop} (N : News h₀ L s.heap news) (S : Sys z lay σ imm news) (R : StRep w st ax lay σ imm x b) (hp : Pl p)
    (h : Q (.bool (decide (x.c.cur p k ≠ 0))) { s with toks := s.toks + 1 }) : wpAny (model pr w) A (compareOp .In (.int k t) (.ref (lay (ix p)))) Q E s := by
  obtain ⟨f, T, e⟩ := R.stor p hp
  exact int_inZ (ix_lt14 p) N S T (by rw [(e k).isSome]; exact h)
theorem r_get_stor {Q : Value → Shared → Prop} (N : News h₀ L s.heap news) (S : Sys z lay σ imm news) (R : StRep w st ax lay σ imm x b) (hp : Pl p)
    (h : ∀ t', Q (.int (x.c.cur p k) t') { s with toks := s.toks + 1 }) : wpAny (model pr w) A (call (.builtin "dict.get") [.ref (lay (ix p)), .int k t, .int 0 u]) Q E s := by
  obtain ⟨f, T, e⟩ := R.stor p hp
  refine int_get2Z (ix_lt14 p) N S T ?_
  rcases e k with ⟨e1, e2⟩ | ⟨_, t', e2⟩
  · have := h u; rw [e1] at this; rw [e2]; exact this
  · rw [e2]; exact h t'
theorem r_getMethod_stor {pl : Sem Bool} {Q : Value × List Value → Shared → Prop} (N : News h₀ L s.heap news) (S : Sys z lay σ imm news) (R : StRep w st ax lay σ imm x b) (hp : Pl p)
    (h : Q (.builtin "dict.get", [.ref (lay (ix p))]) s) : wpAny (model pr w) A (getMethod (.ref (lay (ix p))) "get" pl) Q E s := by
  obtain ⟨f, T, e⟩ := R.stor p hp
  exact int_getMethodZ (ix_lt14 p) N S T h
theorem r_set_stor {v : Int} {tv : Tok} {Q : Unit → Shared → Prop} (F : Fr h₀ L s.heap m) (N : News h₀ L s.heap news) (S : Sys z lay σ imm news) (R : StRep w st ax lay σ imm x b) (hp : Pl p) (hb : b ≤ 1000000) (hv : v ≠ 0)
    (h : ∀ h' o' news', Fr h₀ L h' m → News h₀ L h' news' → Sys z lay (upd σ (ix p) o') imm news' → StRep w st ax lay (upd σ (ix p) o') imm { x with c := { x.c with cur := set2 x.c.cur p k v } } (b + 1) → Q () { s with heap := h', toks := s.toks + 1 }) :
    wpAny (model pr w) A (setItem (.ref (lay (ix p))) (.int k t) (.int v tv)) Q E s := by
  obtain ⟨f, T, e⟩ := R.stor p hp
  refine int_setZ (ix_lt14 p) F N S T hb fun h' o' n' F' N' S' T' => h h' o' n' F' N' S' ((R.mono (fun _ q => q) (Nat.le_succ b)).set_stor hp T' (fun l => ?_) fun q hq => ?_)
  · show IsW (if l = k then some (.int v tv) else f l) (if p = p ∧ l = k then v else x.c.cur p l)
    by_cases hl : l = k
    · rw [if_pos hl, if_pos ⟨rfl, hl⟩]; exact .inr ⟨hv, tv, rfl⟩
    · rw [if_neg hl, if_neg fun e => hl e.2]; exact e l
  · funext l
    show (if q = p ∧ l = k then v else x.c.cur q l) = x.c.cur q l
    rw [if_neg fun e => hq e.1]
theorem r_del_stor {Q : Unit → Shared → Prop} (F : Fr h₀ L s.heap m) (N : News h₀ L s.heap news) (S : Sys z lay σ imm news) (R : StRep w st ax lay σ imm x b) (hp : Pl p) (hb : b ≤ 1000000) (hv : x.c.cur p k ≠ 0)
    (h : ∀ h' o' news', Fr h₀ L h' m → News h₀ L h' news' → Sys z lay (upd σ (ix p) o') imm news' → StRep w st ax lay (upd σ (ix p) o') imm { x with c := { x.c with cur := set2 x.c.cur p k 0 } } b → Q () { s with heap := h', toks := s.toks + 1 }) :
    wpAny (model pr w) A (delItem (.ref (lay (ix p))) (.int k t)) Q E s := by
  obtain ⟨f, T, e⟩ := R.stor p hp
  refine int_delZ (ix_lt14 p) F N S T hb (by rw [(e k).isSome]; exact decide_eq_true hv) fun h' o' n' F' N' S' T' => h h' o' n' F' N' S' (R.set_stor hp T' (fun l => ?_) fun q hq => ?_)
  · show IsW (if l = k then none else f l) (if p = p ∧ l = k then 0 else x.c.cur p l)
    by_cases hl : l = k
    · rw [if_pos hl, if_pos ⟨rfl, hl⟩]; exact .inl ⟨rfl, rfl⟩
    · rw [if_neg hl, if_neg fun e => hl e.2]; exact e l
  · funext l
    show (if q = p ∧ l = k then 0 else x.c.cur q l) = x.c.cur q l
    rw [if_neg fun e => hq e.1]
/-! journal -/
theorem rw_touched {v : Value} {k o : Int} (h : RowAt imm v "touched" p k o) : RowIs imm v (.touched p) := ⟨k, o, h⟩
theorem rw_warm {v : Value} {k o : Int} (h : RowAt imm v "warm" p k o) : RowIs imm v (.warm p) := ⟨k, o, h⟩
theorem rw_wslot {v : Value} {o : Int} (h : RowAt imm v "warm_slot" p k o) : RowIs imm v (.wslot p k) := ⟨o, h⟩
theorem rw_slot {v : Value} {o : Int} (h : RowAt imm v "slot" p k o) : RowIs imm v (.slot p k o) := h
theorem rw_refund {v : Value} {o : Int} (h : RowAt imm v "refund" p k o) : RowIs imm v (.refund o) := ⟨p, k, h⟩
theorem r_push {v : Value} {r : Row} {Q : Value → Shared → Prop} (F : Fr h₀ L s.heap m) (N : News h₀ L s.heap news) (S : Sys z lay σ imm news) (R : StRep w st ax lay σ imm x b) (hr : RowIs imm v r) (hb : b ≤ 999000)
    (h : ∀ h' o' news', Fr h₀ L h' m → News h₀ L h' news' → Sys z lay (upd σ iJl o') imm news' → StRep w st { ax with jv := ax.jv ++ [v], jn := ax.jn + 1 } lay (upd σ iJl o') imm { x with jr := x.jr ++ [r] } (b + 1) → Q .none { s with heap := h' }) :
    wpAny (model pr w) A (call (.builtin "list.append") [.ref (lay iJl), v]) Q E s :=
  append_Z (by decide) F N S R.jl (by have := R.jb; rw [List.size_toArray]; omega) fun h' n' F' N' S' => h h' _ n' F' N' S' ((R.mono (fun _ q => q) (Nat.le_succ b)).push hr (Nat.succ_le_succ R.jb))
theorem r_getMethod_jl {name : Str} {id : String} {pl : Sem Bool} {Q : Value × List Value → Shared → Prop} (slot : Slot "list" name id) (hty : typeOf (.builtin id) = pure (.type "method_descriptor")) (N : News h₀ L s.heap news) (S : Sys z lay σ imm news) (R : StRep w st ax lay σ imm x b)
    (h : Q (.builtin id, [.ref (lay iJl)]) s) : wpAny (model pr w) A (getMethod (.ref (lay iJl)) name pl) Q E s := list_getMethod slot hty N (S.mem_eq (by decide) R.jl) h
theorem r_getMethod_ap {pl : Sem Bool} {Q : Value × List Value → Shared → Prop} (N : News h₀ L s.heap news) (S : Sys z lay σ imm news) (R : StRep w st ax lay σ imm x b)
    (h : Q (.builtin "list.append", [.ref (lay iJl)]) s) : wpAny (model pr w) A (getMethod (.ref (lay iJl)) (Str.ofString "append") pl) Q E s := r_getMethod_jl PySem.F.slot_list_append PySem.F.type_list_append N S R h
theorem r_getMethod_po {pl : Sem Bool} {Q : Value × List Value → Shared → Prop} (N : News h₀ L s.heap news) (S : Sys z lay σ imm news) (R : StRep w st ax lay σ imm x b)
    (h : Q (.builtin "list.pop", [.ref (lay iJl)]) s) : wpAny (model pr w) A (getMethod (.ref (lay iJl)) (Str.ofString "pop") pl) Q E s := r_getMethod_jl PySem.F.slot_list_pop PySem.F.type_list_pop N S R h
theorem RowsAre.snoc_inv {imm : Led} {vs : List Value} {rs : List Row} {r : Row} (h : RowsAre imm vs (rs ++ [r])) : ∃ us v, vs = us ++ [v] := by
  generalize e : rs ++ [r] = ra at h
  cases h with
  | nil => simp at e
  | snoc _ _ => exact ⟨_, _, rfl⟩
theorem r_pop {r : Row} {rs : List Row} {Q : Value → Shared → Prop} (F : Fr h₀ L s.heap m) (N : News h₀ L s.heap news) (S : Sys z lay σ imm news) (R : StRep w st ax lay σ imm x b) (hx : x.jr = rs ++ [r]) (hb : b ≤ 999000)
    (h : ∀ h' o' us news' v, Fr h₀ L h' m → News h₀ L h' news' → Sys z lay (upd σ iJl o') imm news' → StRep w st { ax with jv := us, jn := ax.jn + 1 } lay (upd σ iJl o') imm { x with jr := rs } b → RowIs imm v r → Q v { s with heap := h' }) :
    wpAny (model pr w) A (call (.builtin "list.pop") [.ref (lay iJl)]) Q E s := by
  have h1 := R.jr
  rw [hx] at h1
  obtain ⟨us, v, e⟩ := h1.snoc_inv
  have h2 := R.jb
  rw [e] at h2
  simp only [List.length_append, List.length_cons, List.length_nil] at h2
  refine pop_Z (by decide) F N S (by rw [R.jl, e]) (by omega) fun h' n' F' N' S' => ?_
  obtain ⟨R1, R2⟩ := R.pop (n := ax.jn + 1) e hx
  exact h h' _ us n' v F' N' S' R1 R2
theorem r_len_jl {Q : Value → Shared → Prop} (N : News h₀ L s.heap news) (S : Sys z lay σ imm news) (R : StRep w st ax lay σ imm x b) (hb : b ≤ 999000)
    (h : ∀ t', Q (.int x.jr.length t') { s with toks := s.toks + 1 + 1 }) : wpAny (model pr w) A (call (.builtin "len") [.ref (lay iJl)]) Q E s := by
  have e : ax.jv.toArray.size = x.jr.length := by rw [List.size_toArray, R.jr.length]
  have := R.jb
  refine Calls.call_len_list (items := ax.jv.toArray) ⟨_, N.get (S.mem_eq (by decide) R.jl), rfl, _, rfl⟩ (by rw [List.size_toArray]; omega) ?_
  rw [e]; exact h _
theorem r_set_rf {K : Frag} {rf : Int} {tr : Tok} {Q : Unit → Shared → Prop} (F : Fr h₀ L s.heap m) (X₀ : K.In h₀) (N : News h₀ L s.heap news) (S : Sys z lay σ imm news) (R : StRep w st ax lay σ imm x b)
    (hs : findIn K (.ref 325) "__setattr__" = some (some (.builtin "object.__setattr__"))) (hp : plainOver K 325 = true) (ht : takerIn K 325 (Str.ofString "refund") = some none) (hh : hasDictIn K 325 = true)
    (h : ∀ h' o' news', Fr h₀ L h' m → News h₀ L h' news' → Sys z lay (upd σ iSd o') imm news' → StRep w st { ax with ts := upd ax.ts 10 tr } lay (upd σ iSd o') imm { x with c := { x.c with rf := rf } } b → Q () { s with heap := h', toks := s.toks + 2 }) :
    wpAny (model pr w) A (setAttr (.ref st) (Str.ofString "refund") (.int rf tr)) Q E s :=
  setAttr_Z F X₀ N S R.st R.sd hs hp ht hh rfl sdp_refund sdp_n (Nat.le_of_ble_eq_true rfl) fun h' n' F' N' S' e' => h h' _ n' F' N' S' (R.set_rf rfl)
open SeqAt in
/-- x in ("a", "b") -/
theorem r_in_strs {prog : Program} {vs : List Value} {y : Str} {bb : Bool} {Q : Value → Shared → Prop} (N : News h₀ L s.heap news) (S : Sys z lay σ imm news) (ht : (tp, tupO vs) ∈ imm) (hc : ∃ es, CarriedAll vs es) (hb : vs.any (valHitsStr y) = bb)
    (h : Q (.bool bb) s) : wpAny (model prog w) A (compareOp .In (.str y t) (.ref tp)) Q E s :=
  let ⟨_, hc⟩ := hc
  in_tupleAt (valHitsStr y) ⟨_, N.get (S.sub _ ht), rfl, _, rfl⟩ (fun v hv => by obtain ⟨d, c⟩ := hc.memC v (by simpa using hv); exact c.eqAtStr y t) (by simp only [List.any_toArray]; rw [hb]; exact h)
end

section
variable {prog : Program} {w : World} {A : Around} {E : Value → Shared → Prop} {Q : Flow → Shared → Prop} {s : Shared} {env : Env} {h₀ : Heap} {L : Addr} {m : Str → Option Value}
def WStep (h₀ : Heap) (L : Addr) (s : Shared) (m : Str → Option Value) (J : Nat → Led → Prop) (Q : Flow → Shared → Prop) (n : Nat) (f : Flow) (s₃ : Shared) : Prop :=
  match f with
  | .next | .cont => ∃ h' tk n' news', s₃ = { s with heap := h', toks := tk } ∧ Fr h₀ L h' m ∧ News h₀ L h' news' ∧ n' < n ∧ J n' news'
  | .brk => Q .next s₃
  | .ret v => Q (.ret v) s₃
theorem WStep.intro {J : Nat → Led → Prop} {n n' : Nat} {h' : Heap} {tk : Nat} {news' : Led} (F : Fr h₀ L h' m) (N : News h₀ L h' news') (hn : n' < n) (hj : J n' news') : WStep h₀ L s m J Q n .next { s with heap := h', toks := tk } :=
  ⟨h', tk, n', news', rfl, F, N, hn, hj⟩
/-- a while that stores no name -/
theorem While_m {test : Expr} {body : List Stmt} {pos : Pos} {news : Led} (J : Nat → Led → Prop) {n₀ : Nat} (F : Fr h₀ L s.heap m) (N : News h₀ L s.heap news) (hJ : J n₀ news)
    (turn : ∀ n news₁ h₁ tk₁, Fr h₀ L h₁ m → News h₀ L h₁ news₁ → J n news₁ →
      wpAny (model prog w) A (isTrue test env (eval test env)) (fun b s₂ => if b = true then wpAny (model prog w) A (execs body env) (WStep h₀ L s m J Q n) E s₂ else Q .next s₂) E { s with heap := h₁, toks := tk₁ })
    (hE : PassesOwn (model prog w) A env E) : wpAny (model prog w) A (exec (.While test body [] pos) env) Q E s := by
  refine While_inv2 (fun n m₁ nx => m₁ = m ∧ J n nx) F N ⟨rfl, hJ⟩ ?_ hE
  rintro n m₁ news₁ h₁ tk₁ F₁ N₁ ⟨rfl, J₁⟩
  refine wpAny_mono (turn n news₁ h₁ tk₁ F₁ N₁ J₁) (fun b s₂ h₂ => ?_) fun _ _ x => x
  cases b with
  | false => exact h₂
  | true =>
    simp only [if_true] at h₂ ⊢
    refine wpAny_mono h₂ (fun f s₃ h₃ => ?_) fun _ _ x => x
    cases f with
    | next => obtain ⟨h', tk, n', news', e, F', N', hn, hj⟩ := h₃; exact ⟨h', tk, _, news', n', e, F', N', hn, rfl, hj⟩
    | cont => obtain ⟨h', tk, n', news', e, F', N', hn, hj⟩ := h₃; exact ⟨h', tk, _, news', n', e, F', N', hn, rfl, hj⟩
    | brk => exact h₃
    | ret v => exact h₃
end
section
variable {prog : Program} {w : World} {A : Around} {E : Value → Shared → Prop} {Q : Flow → Shared → Prop} {s : Shared} {env : Env} {h₀ : Heap} {m : Str → Option Value} {z : Nat} {lay : Nat → Addr} {σ : Nat → Obj} {imm news : Led}
theorem Sys.appL (S : Sys z lay σ imm news) (own : Led) : Sys z lay σ imm (own ++ news) :=
  ⟨S.le, S.inj, fun i hi => List.mem_append_right _ (S.mem' i hi), fun q hq => List.mem_append_right _ (S.sub q hq), S.off, S.lo⟩
abbrev LInv := Nat → (Str → Option Value) → (Nat → Addr) → (Nat → Obj) → Led → Prop
/-- a turn's end -/
def FStep (h₀ : Heap) (L : Addr) (z : Nat) (lay : Nat → Addr) (σ : Nat → Obj) (imm : Led) (s : Shared) (J : LInv) (i : Nat) (Q : Flow → Shared → Prop) (f : Flow) (s₂ : Shared) : Prop :=
  match f with
  | .ret v => Q (.ret v) s₂
  | .brk => Q .next s₂
  | _ => ∃ h' tk m' lay' σ' imm' news', s₂ = { s with heap := h', toks := tk } ∧ Fr h₀ L h' m' ∧ News h₀ L h' news' ∧ Sys (z + 1) lay' σ' imm' news' ∧ lay' z = lay z ∧ σ' z = σ z ∧ Suf imm imm' ∧ J i m' lay' σ' imm'
theorem FStep.intro {L : Addr} {J : LInv} {i : Nat} {h' : Heap} {tk : Nat} {m' : Str → Option Value} {lay' : Nat → Addr} {σ' : Nat → Obj} {imm' news' : Led} (F : Fr h₀ L h' m') (N : News h₀ L h' news') (S : Sys (z + 1) lay' σ' imm' news') (el : lay' z = lay z) (es : σ' z = σ z) (U : Suf imm imm') (hj : J i m' lay' σ' imm') :
    FStep h₀ L z lay σ imm s J i Q .next { s with heap := h', toks := tk } := ⟨h', tk, m', lay', σ', imm', news', rfl, F, N, S, el, es, U, hj⟩
theorem loop_Z {x : Str} {body : List Stmt} {I : Addr} {fp : List Addr} {n : Nat} {P : Nat → Value → Prop} {St : Nat → Heap → Prop} (W : Walks prog w A I fp [I] n P St)
    (hfp : ∀ b ∈ fp, b = I ∨ ∃ o, (b, o) ∈ imm) (hSt : ∀ i h, St i h → ∃ o, h.get? I = some o) (F : Fr h₀ env.locals s.heap m) (N : News h₀ env.locals s.heap news) (S : Sys z lay σ imm news)
    (hn : ∀ p ∈ news, p.1 ≠ I) (h0 : h₀.get? I = none) (hL : I ≠ env.locals) (st0 : St 0 s.heap) (J : LInv) (hJ : J 0 m lay σ imm)
    (hJm : ∀ i m lay σ imm q o, J i m lay σ imm → J i m (upd lay z q) (upd σ z o) imm)
    (turn : ∀ i v m₁ lay₁ σ₁ imm₁ news₁ h tk, i < n → P i v → Suf imm imm₁ → J i m₁ lay₁ σ₁ imm₁ → Fr h₀ env.locals h (fun y => if y = x then some v else m₁ y) → News h₀ env.locals h news₁ → Sys (z + 1) lay₁ σ₁ imm₁ news₁ →
      ∀ G : Flow → Shared → Prop, (∀ f s₂, FStep h₀ env.locals z lay₁ σ₁ imm₁ { s with heap := h, toks := tk } J (i + 1) Q f s₂ → G f s₂) → wpAny (model prog w) A (execs body env) G E { s with heap := h, toks := tk })
    (done : ∀ m₁ lay₁ σ₁ imm₁ news₁ h tk, Suf imm imm₁ → J n m₁ lay₁ σ₁ imm₁ → Fr h₀ env.locals h m₁ → News h₀ env.locals h news₁ → Sys z lay₁ σ₁ imm₁ news₁ → Q .next { s with heap := h, toks := tk }) :
    LoopAtV prog w A h₀ env x body Q E (.ref I) s := by
  have hIfp : I ∈ fp := W.sub I (List.mem_singleton.mpr rfl)
  refine ⟨I, fp, [I], n, P, St, m, news, fun i m₁ news₁ => ∃ lay₁ σ₁ imm₁, Suf imm imm₁ ∧ Sys z lay₁ σ₁ imm₁ news₁ ∧ J i m₁ lay₁ σ₁ imm₁, rfl, W, ?_, ?_, ?_, st0, F, N, ⟨lay, σ, imm, Suf.refl _, S, hJ⟩, ?_, ?_⟩
  · intro hm
    rcases hfp _ hm with e | ⟨o, ho⟩
    · exact hL e.symm
    · exact (N _ (S.sub _ ho)).2.1 rfl
  · intro b hb; rw [List.mem_singleton.mp hb]; exact h0
  · intro p hp hI; exact hn p hp (List.mem_singleton.mp hI)
  · rintro i v m₁ news₁ s₁ own ⟨h, tk, rfl⟩ hi hP ⟨lay₁, σ₁, imm₁, U₁, S₁, J₁⟩ hoff ofp ohp oall st1 F₁ N₁
    obtain ⟨oI, hoI⟩ := hSt _ _ st1
    have hIo : (I, oI) ∈ own := oall I hIfp h0 oI hoI
    have hne : ∀ p ∈ news₁, p.1 ≠ I := fun p hp e => hoff p hp (List.mem_singleton.mpr e)
    have S₂ : Sys (z + 1) (upd lay₁ z I) (upd σ₁ z oI) imm₁ (own ++ news₁) := (S₁.appL own).more (List.mem_append_left _ hIo) (fun j hj e => hne _ (S₁.mem' j hj) e.symm) fun p hp => hne p (S₁.sub p hp)
    refine wpAny_mono (turn i v m₁ _ _ imm₁ _ h tk hi hP U₁ (hJm _ _ _ _ _ I oI J₁) F₁ N₁ S₂ _ fun _ _ e => e) (fun f s₂ q => ?_) fun _ _ e => e
    have fin : (∃ h' tk' m' lay' σ' imm' news', s₂ = { s with heap := h', toks := tk' } ∧ Fr h₀ env.locals h' m' ∧ News h₀ env.locals h' news' ∧ Sys (z + 1) lay' σ' imm' news' ∧ lay' z = upd lay₁ z I z ∧ σ' z = upd σ₁ z oI z ∧ Suf imm₁ imm' ∧ J (i + 1) m' lay' σ' imm') →
        LoopStepU h₀ env.locals [I] own (fun m₁ news₁ => ∃ lay₁ σ₁ imm₁, Suf imm imm₁ ∧ Sys z lay₁ σ₁ imm₁ news₁ ∧ J (i + 1) m₁ lay₁ σ₁ imm₁) { s with heap := h, toks := tk } .next s₂ := by
      rintro ⟨h', tk', m', lay', σ', imm', news', rfl, F', N', S', el, es, U', J'⟩
      rw [upd_self] at el es
      refine LoopStepU.intro (s₁ := { s with heap := h, toks := tk }) F' ?_ ?_ ⟨lay', σ', imm', U₁.trans U', S'.less S₁.le, J'⟩
      · intro p hp
        rcases List.mem_append.mp hp with hp | hp
        · refine N' p ?_
          rcases hfp _ (ofp p hp) with e | ⟨o, ho⟩
          · have h1 := ohp p hp
            have e' : p.1 = I := e
            rw [e'] at h1
            have h2 : p.2 = oI := Option.some.inj (h1.symm.trans hoI)
            have := S'.mem' z (Nat.lt_succ_self z)
            rw [el, es] at this
            have hpe : p = (I, oI) := Prod.ext e' h2
            rw [hpe]; exact this
          · have h1 := ohp p hp
            have h3 := (N₁ _ (List.mem_append_right _ (S₁.sub _ (U₁.sub _ ho)))).1
            have h2 : p.2 = o := Option.some.inj (h1.symm.trans h3)
            have hpe : p = (p.1, o) := Prod.ext rfl h2
            rw [hpe]; exact S'.sub _ (U'.sub _ (U₁.sub _ ho))
        · exact N' p (List.mem_filter.mp hp).1
      · intro p hp hI
        have := (List.mem_filter.mp hp).2
        rw [el] at this
        exact (of_decide_eq_true this) (List.mem_singleton.mp hI)
    cases f with
    | ret v => exact .ret q
    | brk => exact .brk q
    | next => exact .next (fin q)
    | cont => exact .cont (fin q)
  · rintro h' tk m' news' F' N' hoff ⟨lay₁, σ₁, imm₁, U₁, S₁, J₁⟩
    exact done m' lay₁ σ₁ imm₁ news' h' tk U₁ J₁ F' N' S₁
/-- over a list that never turns -/
theorem iter_list_Z {x : Str} {body : List Stmt} {l : Addr} {vs : List Value} {c : Nat} (hh : A.handled = none) (F : Fr h₀ env.locals s.heap m) (N : News h₀ env.locals s.heap news) (S : Sys z lay σ imm news) (hl : (l, listOf vs.toArray c) ∈ imm)
    (J : (Str → Option Value) → LInv) (hJ : J m 0 m lay σ imm) (hJm : ∀ i m' lay σ imm q o, J m i m' lay σ imm → J m i m' (upd lay z q) (upd σ z o) imm)
    (turn : ∀ i v m₁ lay₁ σ₁ imm₁ news₁ h tk, vs[i]? = some v → Suf imm imm₁ → J m i m₁ lay₁ σ₁ imm₁ → Fr h₀ env.locals h (fun y => if y = x then some v else m₁ y) → News h₀ env.locals h news₁ → Sys (z + 1) lay₁ σ₁ imm₁ news₁ →
      ∀ G : Flow → Shared → Prop, (∀ f s₂, FStep h₀ env.locals z lay₁ σ₁ imm₁ { s with heap := h, toks := tk } (J m) (i + 1) Q f s₂ → G f s₂) → wpAny (model prog w) A (execs body env) G E { s with heap := h, toks := tk })
    (done : ∀ m₁ lay₁ σ₁ imm₁ news₁ h tk, Suf imm imm₁ → J m vs.length m₁ lay₁ σ₁ imm₁ → Fr h₀ env.locals h m₁ → News h₀ env.locals h news₁ → Sys z lay₁ σ₁ imm₁ news₁ → Q .next { s with heap := h, toks := tk }) :
    wpAny (model prog w) A (pyIter (.ref l)) (fun it s₂ => LoopAtV prog w A h₀ env x body Q E it s₂) E s := by
  have hlm := N.get (S.sub _ hl)
  have hls : s.heap.IsList l vs.toArray := ⟨_, hlm, rfl, c, rfl⟩
  have hne : l ≠ s.heap.objs.size := Nat.ne_of_lt (Heap.lt_size hlm)
  refine wpAny_pyIter_list hls ?_
  have W := Walks.list (prog := prog) (w := w) hh s.heap.objs.size l hne vs.toArray
  refine loop_Z W ?_ ?_ (F.push _) (fun p hp => ⟨Heap.get?_push_of_some _ (N p hp).1, (N p hp).2⟩) S ?_ ?_ ?_ ⟨⟨_, Heap.get?_push_size _ rfl, rfl, rfl⟩, hls.at fun o e => Heap.get?_push_of_some _ e⟩ (J m) hJ hJm ?_ ?_
  · intro b hb
    rcases List.mem_cons.mp hb with e | hb
    · exact .inl e
    · rw [List.mem_singleton.mp hb]; exact .inr ⟨_, hl⟩
  · rintro i h ⟨⟨o, ho, _⟩, _⟩; exact ⟨o, ho⟩
  · intro p hp e; exact absurd (Heap.lt_size (N p hp).1) (by rw [e]; exact Nat.lt_irrefl _)
  · cases q : h₀.get? s.heap.objs.size with
    | none => rfl
    | some o => exact absurd (Heap.lt_size (F.keep _ _ q)) (Nat.lt_irrefl _)
  · exact Nat.ne_of_gt F.ns.lt
  · intro i v m₁ lay₁ σ₁ imm₁ news₁ h tk hi hP U J₁ F₁ N₁ S₁ G hG
    exact turn i v m₁ lay₁ σ₁ imm₁ news₁ h tk (by simpa using hP) U J₁ F₁ N₁ S₁ G hG
  · intro m₁ lay₁ σ₁ imm₁ news₁ h tk U J₁ F₁ N₁ S₁
    exact done m₁ lay₁ σ₁ imm₁ news₁ h tk U (by simpa using J₁) F₁ N₁ S₁
end

section
variable {prog : Program} {w : World} {A : Around} {E : Value → Shared → Prop} {s : Shared} {h₀ : Heap} {L : Addr} {m : Str → Option Value} {z : Nat} {lay : Nat → Addr} {σ : Nat → Obj} {imm news : Led} {st : Addr} {ax : Aux} {x : SX} {b : Nat} {q : Addr} {o : Obj}

/-- an object just made, not yet at any place -/
def Fresh (z : Nat) (lay : Nat → Addr) (imm news : Led) (q : Addr) (o : Obj) : Prop := (q, o) ∈ news ∧ (∀ i, i < z → q ≠ lay i) ∧ (∀ p ∈ imm, p.1 ≠ q) ∧ (q == sysModules) = false
theorem Sys.swap (S : Sys z lay σ imm news) {i : Nat} (hi : i < 14) (f : Fresh z lay imm news q o) : Sys z (upd lay i q) (upd σ i o) imm news :=
  ⟨S.le, fun a b ha hb e => by
      by_cases h1 : a = i <;> by_cases h2 : b = i
      · rw [h1, h2]
      · subst h1; rw [upd_self, upd_ne _ _ h2] at e; exact absurd e (f.2.1 b hb)
      · subst h2; rw [upd_self, upd_ne _ _ h1] at e; exact absurd e.symm (f.2.1 a ha)
      · rw [upd_ne _ _ h1, upd_ne _ _ h2] at e; exact S.inj a b ha hb e,
    fun a ha => by
      by_cases h1 : a = i
      · subst h1; rw [upd_self, upd_self]; exact f.1
      · rw [upd_ne _ _ h1, upd_ne _ _ h1]; exact S.mem' a ha,
    S.sub, fun p hp a ha => by
      by_cases h1 : a = i
      · subst h1; rw [upd_self]; exact f.2.2.1 p hp
      · rw [upd_ne _ _ h1]; exact S.off p hp a ha,
    fun a ha => by
      by_cases h1 : a = i
      · subst h1; rw [upd_self]; exact f.2.2.2
      · rw [upd_ne _ _ h1]; exact S.lo a ha⟩
theorem Fresh.put (f : Fresh z lay imm news q o) {i : Nat} (hi : i < z) (o' : Obj) : Fresh z lay imm (put (lay i) o' news) q o := ⟨mem_put f.1 (f.2.1 i hi), f.2⟩
theorem fresh_of (S : Sys z lay σ imm news) (hl : ∀ p ∈ news, p.1 < q) (lo : (q == sysModules) = false) : Fresh z lay imm ((q, o) :: news) q o :=
  ⟨.head _, S.lt_of hl, fun p hp e => absurd (hl p (S.sub p hp)) (by rw [e]; exact Nat.lt_irrefl _), lo⟩

/-- the same, in the ledger's own words -/
theorem StRep.as {σ' σ'' : Nat → Obj} {lay' : Nat → Addr} {ax' : Aux} {imm' : Led} {x' : SX} {b' : Nat} {news' : Led} (R : StRep w st ax' lay' σ' imm' x' b') (_S : Sys z lay' σ'' imm' news') (e : σ' = σ'' := by rfl) : StRep w st ax' lay' σ'' imm' x' b' := e ▸ R
theorem fr_congr {h : Heap} {m₀ m₁ : Str → Option Value} {y : Str} {v : Value} (e : ∀ x, x ≠ y → m₁ x = m₀ x) (F : Fr h₀ L h (fun x => if x = y then some v else m₁ x)) : Fr h₀ L h (fun x => if x = y then some v else m₀ x) := by
  have : (fun x => if x = y then some v else m₁ x) = fun x => if x = y then some v else m₀ x := by
    funext x; split
    · rfl
    · rename_i h; exact e x h
  rw [← this]; exact F
theorem fr_congr2 {h : Heap} {m₀ m₁ : Str → Option Value} {y : Str} (e : ∀ x, x ≠ y → m₁ x = m₀ x) (F : Fr h₀ L h m₁) : Fr h₀ L h (fun x => if x = y then m₁ x else m₀ x) := by
  have : m₁ = fun x => if x = y then m₁ x else m₀ x := by
    funext x; split
    · rfl
    · rename_i h; exact e x h
  rw [← this]; exact F
theorem newList_Z {vs : List Value} {Q : Value → Shared → Prop} (F : Fr h₀ L s.heap m) (N : News h₀ L s.heap news) (S : Sys z lay σ imm news) (lim : h₀.NoLimit)
    (h : ∀ q h' news', Fr h₀ L h' m → News h₀ L h' news' → Sys z lay σ imm news' → Fresh z lay imm news' q (listOf vs.toArray 0) → Q (.ref q) { s with heap := h' }) (hv : Nat.ble vs.length 1000 = true) :
    wpAny (model prog w) A (newList vs) Q E s := by
  have hsz := Nat.le_of_ble_eq_true hv
  refine newList_N F N (fun h' F' N' => ?_) (by rw [sizeLine_eq]; omega)
  have hl : ∀ p ∈ news, p.1 < s.heap.objs.size := fun p hp => Heap.lt_size (N p hp).1
  have lo : (s.heap.objs.size == sysModules) = false := by
    have h1 := modules_low lim; have h2 := F.above; have h3 := F.ns.lt
    exact beq_eq_false_iff_ne.mpr (Nat.ne_of_gt (Nat.lt_of_lt_of_le h1 (Nat.le_trans h2 (Nat.le_of_lt h3))))
  exact h _ h' _ F' N' (S.cons _) (fresh_of S hl lo)
theorem newDict_Z {env : Env} {pos : Pos} {Q : Value → Shared → Prop} (F : Fr h₀ L s.heap m) (N : News h₀ L s.heap news) (S : Sys z lay σ imm news) (lim : h₀.NoLimit)
    (h : ∀ q h' o news', Fr h₀ L h' m → News h₀ L h' news' → Sys z lay σ imm news' → Fresh z lay imm news' q o → o.IsDictOf (intKind prog w) [] → Q (.ref q) { s with heap := h' }) :
    wpAny (model prog w) A (eval (.Dict [] [] pos) env) Q E s :=
  newDict_K F N lim fun q h' o F' N' hl lo _ _ hi _ => h q h' o _ F' N' (S.cons _) (fresh_of S hl lo) hi
theorem IntD.empty {o : Obj} (h : o.IsDictOf (intKind prog w) []) : IntD prog w o (fun _ => none) 0 := ⟨[], h, fun _ => rfl, Nat.le_refl _⟩
theorem TupD.empty {o : Obj} (h : o.IsDictOf (intKind prog w) []) : TupD prog w imm o (fun _ => none) 0 := by
  obtain ⟨es, ep, hc, hd, _, hp, _⟩ := h
  have he : es.toList = [] := List.length_eq_zero_iff.mp hp.length
  exact ⟨es, ep, [], hc, hd, he, List.nodup_nil, fun _ hx => by simp at hx, fun _ => rfl, Nat.le_refl _⟩
/-- self.x = a fresh object that is to stand at a place -/
theorem setAttr_new {K : Frag} {i : Nat} {es es' : List DictEntry} {n n' : Nat} {name : Str} {Q : Unit → Shared → Prop} (hi : i < 14) (_hn : i ≠ iSd) (F : Fr h₀ L s.heap m) (X₀ : K.In h₀) (N : News h₀ L s.heap news) (S : Sys z lay σ imm news)
    (f : Fresh z lay imm news q o) (hx : (st, instObj 325 (lay iSd)) ∈ imm) (e : σ iSd = dictOf es n)
    (hs : findIn K (.ref 325) "__setattr__" = some (some (.builtin "object.__setattr__"))) (hp : plainOver K 325 = true) (ht : takerIn K 325 name = some none) (hh : hasDictIn K 325 = true) (hl : (getL name es).isSome = true)
    (he : ∀ h k, putL name h k (.ref q) es = es') (hn : putN name es n = n') (hz : es.length ≤ 100)
    (h : ∀ h' news', Fr h₀ L h' m → News h₀ L h' news' → Sys z (upd lay i q) (upd (upd σ iSd (dictOf es' n')) i o) imm news' → Q () { s with heap := h', toks := s.toks + 2 }) :
    wpAny (model prog w) A (setAttr (.ref st) name (.ref q)) Q E s :=
  set_dict F X₀ (S.focus (i := iSd) N (S.up (by decide))) ⟨N.get (S.sub _ hx), rfl, rfl, N.get (S.mem_eq (by decide) e)⟩ rfl hs hp ht hh hl (by rw [he, hn]) (by rw [e]; exact Upd.head (put_off _ _))
    (by rw [← he (PyData.keyHash w.params name) (.str name (s.toks + 1))]; have := putL_length name (PyData.keyHash w.params name) (.str name (s.toks + 1)) (.ref q) es; omega)
    fun h' F' N' => h h' _ F' N' ((S.write (S.up (by decide)) _).swap hi (f.put (S.up (by decide)) _))
/-- .. that never turns -/
theorem setAttr_fix {K : Frag} {es es' : List DictEntry} {n n' : Nat} {name : Str} {Q : Unit → Shared → Prop} (F : Fr h₀ L s.heap m) (X₀ : K.In h₀) (N : News h₀ L s.heap news) (S : Sys z lay σ imm news)
    (f : Fresh z lay imm news q o) (hx : (st, instObj 325 (lay iSd)) ∈ imm) (e : σ iSd = dictOf es n)
    (hs : findIn K (.ref 325) "__setattr__" = some (some (.builtin "object.__setattr__"))) (hp : plainOver K 325 = true) (ht : takerIn K 325 name = some none) (hh : hasDictIn K 325 = true) (hl : (getL name es).isSome = true)
    (he : ∀ h k, putL name h k (.ref q) es = es') (hn : putN name es n = n') (hz : es.length ≤ 100)
    (h : ∀ h' news', Fr h₀ L h' m → News h₀ L h' news' → Sys z lay (upd σ iSd (dictOf es' n')) ((q, o) :: imm) news' → Q () { s with heap := h', toks := s.toks + 2 }) :
    wpAny (model prog w) A (setAttr (.ref st) name (.ref q)) Q E s :=
  set_dict F X₀ (S.focus (i := iSd) N (S.up (by decide))) ⟨N.get (S.sub _ hx), rfl, rfl, N.get (S.mem_eq (by decide) e)⟩ rfl hs hp ht hh hl (by rw [he, hn]) (by rw [e]; exact Upd.head (put_off _ _))
    (by rw [← he (PyData.keyHash w.params name) (.str name (s.toks + 1))]; have := putL_length name (PyData.keyHash w.params name) (.str name (s.toks + 1)) (.ref q) es; omega)
    fun h' F' N' => have f' := f.put (S.up (i := iSd) (by decide)) (dictOf es' n'); h h' _ F' N' ((S.write (S.up (by decide)) _).keep1 f'.1 f'.2.1)

section new
variable {hs : Nat → Int} {ts : Nat → Tok} {n : Nat}
theorem accd_upd (h : ∀ i, i < 3 → (ax.accd i, dictOf (adE (ax.ah i) (ax.at_ i) (lay i)) (ax.an i)) ∈ imm) {j : Nat} (hj : 3 ≤ j) (q : Addr) :
    ∀ i, i < 3 → (ax.accd i, dictOf (adE (ax.ah i) (ax.at_ i) (upd lay j q i)) (ax.an i)) ∈ imm := fun i hi => by
  rw [upd_ne _ _ (show i ≠ j by omega)]; exact h i hi
theorem StRep.new_jl (R : StRep w st ax lay σ imm x b) (q : Addr) (o : Obj) :
    StRep w st { ax with jv := [], jn := 0 } (upd lay iJl q) (upd (upd σ iSd (dictOf (sdE ax.hs ax.ts ax.ac q (lay iTd) ax.ds (lay iWo) (lay iWs) (lay iOg) x.c.rf ax.lg) ax.sn)) iJl (listOf #[] 0)) imm { x with jr := [] } b :=
  ⟨R.st, rfl, R.ac, R.acl, R.acd, R.acc, accd_upd R.accd (by decide) q, R.ds, R.dsl, R.dsd, stor_ne (stor_ne R.stor (by decide)) (by decide), rfl, .nil, Nat.zero_le _, R.td, R.tdp, R.wo, R.ws, R.og⟩
theorem StRep.new_td (R : StRep w st ax lay σ imm x b) (q : Addr) (ho : o.IsDictOf (intKind pr w) []) :
    StRep w st ax (upd lay iTd q) (upd (upd σ iSd (dictOf (sdE ax.hs ax.ts ax.ac (lay iJl) q ax.ds (lay iWo) (lay iWs) (lay iOg) x.c.rf ax.lg) ax.sn)) iTd o) imm { x with c := { x.c with tch := fun _ => false } } b :=
  ⟨R.st, rfl, R.ac, R.acl, R.acd, R.acc, accd_upd R.accd (by decide) q, R.ds, R.dsl, R.dsd, stor_ne (stor_ne R.stor (by decide)) (by decide), R.jl, R.jr, R.jb, ⟨_, (IntD.empty ho).mono (Nat.zero_le _), fun _ => rfl⟩, (fun _ h => by cases h), R.wo, R.ws, R.og⟩
theorem StRep.new_wo (R : StRep w st ax lay σ imm x b) (q : Addr) (ho : o.IsDictOf (intKind pr w) []) :
    StRep w st ax (upd lay iWo q) (upd (upd σ iSd (dictOf (sdE ax.hs ax.ts ax.ac (lay iJl) (lay iTd) ax.ds q (lay iWs) (lay iOg) x.c.rf ax.lg) ax.sn)) iWo o) imm { x with c := { x.c with wo := fun _ => false } } b :=
  ⟨R.st, rfl, R.ac, R.acl, R.acd, R.acc, accd_upd R.accd (by decide) q, R.ds, R.dsl, R.dsd, stor_ne (stor_ne R.stor (by decide)) (by decide), R.jl, R.jr, R.jb, R.td, R.tdp, ⟨_, (IntD.empty ho).mono (Nat.zero_le _), fun _ => rfl⟩, R.ws, R.og⟩
theorem StRep.new_ws (R : StRep w st ax lay σ imm x b) (q : Addr) (ho : o.IsDictOf (intKind pr w) []) :
    StRep w st ax (upd lay iWs q) (upd (upd σ iSd (dictOf (sdE ax.hs ax.ts ax.ac (lay iJl) (lay iTd) ax.ds (lay iWo) q (lay iOg) x.c.rf ax.lg) ax.sn)) iWs o) imm { x with c := { x.c with ws := fun _ _ => false } } b :=
  ⟨R.st, rfl, R.ac, R.acl, R.acd, R.acc, accd_upd R.accd (by decide) q, R.ds, R.dsl, R.dsd, stor_ne (stor_ne R.stor (by decide)) (by decide), R.jl, R.jr, R.jb, R.td, R.tdp, R.wo, ⟨_, (TupD.empty ho).mono (fun _ h => h) (Nat.zero_le _), fun _ _ => rfl⟩, R.og⟩
theorem StRep.new_og (R : StRep w st ax lay σ imm x b) (q : Addr) (ho : o.IsDictOf (intKind pr w) []) :
    StRep w st ax (upd lay iOg q) (upd (upd σ iSd (dictOf (sdE ax.hs ax.ts ax.ac (lay iJl) (lay iTd) ax.ds (lay iWo) (lay iWs) q x.c.rf ax.lg) ax.sn)) iOg o) imm { x with og := fun _ _ => none } b :=
  ⟨R.st, rfl, R.ac, R.acl, R.acd, R.acc, accd_upd R.accd (by decide) q, R.ds, R.dsl, R.dsd, stor_ne (stor_ne R.stor (by decide)) (by decide), R.jl, R.jr, R.jb, R.td, R.tdp, R.wo, R.ws, ⟨_, (TupD.empty ho).mono (fun _ h => h) (Nat.zero_le _), fun _ _ => .inl ⟨rfl, rfl⟩⟩⟩
theorem StRep.new_ds (R : StRep w st ax lay σ imm x b) (q : Addr) (lo : (q == sysModules) = false) (ho : o.IsDictOf (intKind pr w) []) :
    StRep w st { ax with ds := q, dso := o } lay (upd σ iSd (dictOf (sdE ax.hs ax.ts ax.ac (lay iJl) (lay iTd) q (lay iWo) (lay iWs) (lay iOg) x.c.rf ax.lg) ax.sn)) ((q, o) :: imm) x b :=
  have R' := R.mono (imm' := (q, o) :: imm) (fun _ h => .tail _ h) (Nat.le_refl _)
  ⟨R'.st, rfl, R'.ac, R.acl, R.acd, R'.acc, R'.accd, .head _, lo, IntD.empty ho, stor_ne R.stor (by decide), R.jl, R'.jr, R.jb, R.td, R.tdp, R.wo, R'.ws, R'.og⟩
theorem StRep.new_lg (R : StRep w st ax lay σ imm x b) (q : Addr) (o : Obj) :
    StRep w st { ax with lg := q } lay (upd σ iSd (dictOf (sdE ax.hs ax.ts ax.ac (lay iJl) (lay iTd) ax.ds (lay iWo) (lay iWs) (lay iOg) x.c.rf q) ax.sn)) ((q, o) :: imm) x b :=
  have R' := R.mono (imm' := (q, o) :: imm) (fun _ h => .tail _ h) (Nat.le_refl _)
  ⟨R'.st, rfl, R'.ac, R.acl, R.acd, R'.acc, R'.accd, R'.ds, R.dsl, R.dsd, stor_ne R.stor (by decide), R.jl, R'.jr, R.jb, R.td, R.tdp, R.wo, R'.ws, R'.og⟩
end new

/-! sequences -/
theorem sortedHeap_old {h : Heap} {a b' : Addr} {vs : List Value} {out : Array Value} {o' : Obj} (hb : b' ≠ a) (e : h.get? b' = some o') : (sortedHeap h a vs out).get? b' = some o' := by
  unfold sortedHeap
  exact (Heap.get?_update_other _ _ (Ne.symm hb)).trans (Heap.get?_push_of_some _ (Heap.get?_push_of_some _ ((Heap.get?_update_other _ _ (Ne.symm hb)).trans e)))
theorem sortedHeap_self {h : Heap} {a : Addr} {vs us : Array Value} {ws : List Value} {c : Nat} {out : Array Value} (e : h.get? a = some (seqObj "list" us c)) : ∃ c', (sortedHeap h a ws out).get? a = some (seqObj "list" out c') := by
  unfold sortedHeap
  have h1 := get?_update_seq e (fun _ => #[])
  have h2 := Heap.get?_push_of_some (seqObj "list" #[] 0) (Heap.get?_push_of_some (seqObj "tuple" ws.toArray 0) h1)
  exact ⟨_, get?_update_seq h2 (fun _ => out)⟩
theorem nodup_le : ∀ (l : List Int), l.Nodup → ∀ s : List Int, (∀ x ∈ l, x ∈ s) → l.length ≤ s.length := by
  intro l
  induction l with
  | nil => intro _ s _; exact Nat.zero_le _
  | cons a r ih =>
    intro hn s hs
    rw [List.nodup_cons] at hn
    have ha := hs a (.head _)
    have := ih hn.2 (s.erase a) fun x hx => by
      have hx' := hs x (.tail _ hx)
      exact (List.mem_erase_of_ne (show x ≠ a from fun e => hn.1 (e ▸ hx))).mpr hx'
    have hl := List.length_erase_of_mem ha
    have hp : 0 < s.length := List.length_pos_of_mem ha
    simp only [List.length_cons]
    omega
/-- sorted of a short dict by ints -/
theorem sorted_Z {kvs : List (Int × Value)} {d : Addr} {Q : Value → Shared → Prop} (hh : A.handled = none) (F : Fr h₀ L s.heap m) (N : News h₀ L s.heap news) (S : Sys z lay σ imm news) (hd : (d, o) ∈ news) (lo : (d == sysModules) = false)
    (T : o.IsDictOf (intKind prog w) kvs) (h64 : kvs.length < 64)
    (h : ∀ D vs ns c h' tk' news', Fr h₀ L h' m → News h₀ L h' news' → Sys z lay σ ((D, listOf vs.toArray c) :: imm) news' → IntsAre vs ns → ns.length < 64 → Q (.ref D) { s with heap := h', toks := tk' }) :
    wpAny (model prog w) A (call (.builtin "sorted") [.ref d]) Q E s := by
  have hD : s.heap.DictOf (intKind prog w) d kvs := Heap.dictOf_iff.mpr ⟨o, N.get hd, T⟩
  obtain ⟨ep, hat⟩ := hD.dictAt
  refine kdu_sorted (kdl_dict (knd := intKind prog w) (kvs := kvs) (ep := ep) lo) hh F N hat (by rw [sizeLine_eq]; omega) fun D h' tk vs F' N' l1 hl hv => ?_
  have hi : ∃ ns, IntsAre vs ns := by
    have : ∀ v ∈ vs, ∃ k t, v = .int k t := fun v hv' => by
      obtain ⟨j, hj⟩ := List.mem_iff_getElem?.mp hv'
      obtain ⟨k, x', _, hk⟩ := hv j v hj
      cases v with
      | int i t => exact ⟨i, t, rfl⟩
      | _ => cases hk
    clear hv hl N' F'
    induction vs with
    | nil => exact ⟨[], .nil⟩
    | cons v r ih =>
      obtain ⟨k, t, rfl⟩ := this v (.head _)
      obtain ⟨ns, hns⟩ := ih fun u hu => this u (.tail _ hu)
      exact ⟨k :: ns, .cons k t hns⟩
  obtain ⟨ns, hns⟩ := hi
  have hDm := N'.get (.head _)
  refine wpAny_call_entry PyProof.Rows.slot_list_sort ⟨_, hDm, rfl⟩ PyProof.Rows.entry_list_sort (list_sort_tree (n := 0) (vs := vs) hDm hns (by omega) fun out ns' hI hp hP => ⟨.none, rfl, ?_⟩) (PyProof.Rows.args_list_sort _)
  obtain ⟨c', hc'⟩ := sortedHeap_self (vs := #[]) (ws := vs) (out := out) hDm
  have hDn := N' _ (List.Mem.head _)
  have keep : ∀ b' o', b' ≠ D → h'.get? b' = some o' → (sortedHeap h' D vs out).get? b' = some o' := fun b' o' hb e => sortedHeap_old hb e
  have F2 : Fr h₀ L (sortedHeap h' D vs out) m := by
    obtain ⟨oL, a1, a2, hoL, a3⟩ := F'.ns
    refine ⟨⟨oL, a1, a2, keep _ _ (Ne.symm hDn.2.1) hoL, a3⟩, fun b' x' e => keep _ _ (fun q => ?_) (F'.keep b' x' e), F'.above⟩
    have := hDn.2.2
    rw [← q, e] at this; cases this
  have N2 : News h₀ L (sortedHeap h' D vs out) ((D, listOf out.toList.toArray c') :: news) := fun p hp => by
    rcases List.mem_cons.mp hp with rfl | hp
    · exact ⟨by rw [Array.toArray_toList]; exact hc', hDn.2⟩
    · have hP := N' p (.tail _ hp)
      exact ⟨keep _ _ (Nat.ne_of_lt (l1 p hp)) hP.1, hP.2⟩
  refine h D out.toList ns' c' _ _ _ F2 N2 (S.push l1) hI ?_
  have e1 := hp.length_eq
  have e2 := hns.length
  omega
theorem r_sorted_td {Q : Value → Shared → Prop} (hh : A.handled = none) (F : Fr h₀ L s.heap m) (N : News h₀ L s.heap news) (S : Sys z lay σ imm news) (R : StRep w st ax lay σ imm x b)
    (h : ∀ D vs ns c h' tk' news', Fr h₀ L h' m → News h₀ L h' news' → Sys z lay σ ((D, listOf vs.toArray c) :: imm) news' → IntsAre vs ns → ns.length < 64 → Q (.ref D) { s with heap := h', toks := tk' }) :
    wpAny (model pr w) A (call (.builtin "sorted") [.ref (lay iTd)]) Q E s := by
  obtain ⟨f, ⟨kvs, T, e, _⟩, e2⟩ := R.td
  refine sorted_Z hh F N S (S.mem iTd (by decide)) (S.lo iTd (by decide)) T ?_ h
  obtain ⟨_, _, _, _, _, _, hn⟩ := T
  have := nodup_le (kvs.map (·.1)) hn [3, 77, 2 ^ 160 - 1] fun p hp => by
    have : x.c.tch p = true := by
      rw [← e2, ← e]
      obtain ⟨kv, hkv, rfl⟩ := List.mem_map.mp hp
      unfold valueAt
      rw [Option.isSome_map, List.find?_isSome]
      exact ⟨kv, hkv, by simp⟩
    have hp' := R.tdp p this
    rcases hp' with rfl | rfl | rfl <;> simp
  simp only [List.length_map, List.length_cons, List.length_nil] at this
  omega
theorem r_sorted_ds {Q : Value → Shared → Prop} (hh : A.handled = none) (F : Fr h₀ L s.heap m) (N : News h₀ L s.heap news) (S : Sys z lay σ imm news) (R : StRep w st ax lay σ imm x b)
    (h : ∀ D vs ns c h' tk' news', Fr h₀ L h' m → News h₀ L h' news' → Sys z lay σ ((D, listOf vs.toArray c) :: imm) news' → IntsAre vs ns → ns.length < 64 → Q (.ref D) { s with heap := h', toks := tk' }) :
    wpAny (model pr w) A (call (.builtin "sorted") [.ref ax.ds]) Q E s := by
  obtain ⟨kvs, T, e, hl⟩ := R.dsd
  exact sorted_Z hh F N S (S.sub _ R.ds) R.dsl T (by omega) h
theorem r_add_ints {a c : Addr} {vs us : List Value} {ns ms : List Int} {n1 n2 : Nat} {Q : Value → Shared → Prop} (F : Fr h₀ L s.heap m) (N : News h₀ L s.heap news) (S : Sys z lay σ imm news) (ha : (a, listOf vs.toArray n1) ∈ imm) (hc : (c, listOf us.toArray n2) ∈ imm)
    (hi : IntsAre vs ns) (hj : IntsAre us ms) (h1 : ns.length < 64) (h2 : ms.length < 64)
    (h : ∀ D ws h' news', Fr h₀ L h' m → News h₀ L h' news' → Sys z lay σ ((D, listOf (List.toArray ws) 0) :: imm) news' → IntsAre ws (ns ++ ms) → Q (.ref D) { s with heap := h' }) :
    wpAny (model prog w) A (binaryOp .Add (.ref a) (.ref c)) Q E s :=
  kmk_add_ints F N ⟨_, N.get (S.sub _ ha), rfl, _, rfl⟩ ⟨_, N.get (S.sub _ hc), rfl, _, rfl⟩ hi hj (fun D ws h' F' N' l1 hk => h D ws h' _ F' N' (S.push l1) hk) (by rw [sizeLine_eq]; omega)
end

local macro_rules | `(tactic| ktr_rel) => `(tactic| first | assumption | exact List.Mem.head _ | (refine List.Mem.tail _ ?_; ktr_rel) | (refine List.mem_append_right _ ?_; ktr_rel))
local macro_rules | `(tactic| k_mem) => `(tactic| first | exact Sys.mem_eq (by assumption) (by decide) (StRep.sd (by assumption)) | exact Sys.sub (by assumption) _ (StRep.st (by assumption)) | exact Sys.sub (by assumption) _ (StRep.acc (by assumption) _ (ix_lt _)) | exact Sys.sub (by assumption) _ (StRep.accd (by assumption) _ (ix_lt _)) | exact Sys.sub (by assumption) _ (by ktr_rel))
local macro_rules | `(tactic| ktr_room) => `(tactic| first | exact rmD (by assumption) rfl rfl | exact rmD0 (by assumption) rfl | exact rmZ (by assumption) rfl | (simp only [depth_under_make, depth_under_kw, depth_in1, depth_deeper, depth_caller, recursionLimit]; omega))
local macro_rules | `(tactic| ktr_units) => `(tactic| first | exact rmU (by assumption) rfl rfl | exact rmU0 (by assumption) rfl | (simp only [units_in1, units_deeper, Around.mark_units, units_caller, cLine]; omega))
local macro_rules | `(tactic| k_room) => `(tactic| ktr_room)
local macro_rules | `(tactic| k_units) => `(tactic| ktr_units)
local macro_rules | `(tactic| k_all) => `(tactic| exact allLt_ne (by assumption))
local macro_rules | `(tactic| tb_start) => `(tactic| first | exact Suf.refl _ | (refine Suf.cons ?_ _; tb_start) | (refine Suf.app ?_ _; tb_start) | assumption | (refine Suf.trans ?_ (by assumption); tb_start))
local macro_rules | `(tactic| kwd_inv) => `(tactic| first | exact Frame.refl _ _ _ | assumption | (refine Frame.swap ?_ (by decide) _ _; kwd_inv) | (refine Frame.upd ?_ (by first | decide | exact ix_fr _) _; kwd_inv) | (refine Frame.trans ?_ (by assumption); kwd_inv))
local macro_rules | `(tactic| walk_at "zb") => `(tactic| first | assumption | exact bd0 (by assumption) rfl | exact bd1 (by assumption) rfl | exact bd2 (by assumption) rfl | exact bd3 (by assumption) rfl | exact bd4 (by assumption) rfl | omega)
local macro_rules | `(tactic| walk_at "zd") => `(tactic| first | exact rm1 (by assumption) rfl rfl | exact rm0 (by assumption) rfl | decide | (dsimp only; omega) | (simp only [depth_deeper, depth_caller, units_deeper, units_caller]; omega) | (simp only [depth_deeper, depth_caller]; decide))
local macro_rules | `(tactic| kspl_open $n) => `(tactic| fail_if_success (case' $n:ident => skip))
local macro_rules | `(tactic| row_room_at $n) => `(tactic| first | (case $n:ident => first | k_asm | omega) | kspl_open $n)
local macro_rules | `(tactic| o_unpack $n) => `(tactic| first | (case $n:ident => first | assumption | exact rfl | ktr_rel) | kspl_open $n)
local macro_rules | `(tactic| walk_at "zq") => `(tactic| (row_room_at N; row_room_at F; row_room_at S; row_room_at R; row_room_at B; row_room_at I; (first | (case hu => ktr_units) | kspl_open hu); o_unpack ht; row_room_at hp; (first | (case hb => walk_at "zb") | kspl_open hb); (first | (case hr => first | exact rw_wslot (by assumption) | exact rw_warm (by assumption) | exact rw_slot (by assumption) | exact rw_touched (by assumption) | exact rw_refund (by assumption)) | kspl_open hr); row_room_at hf; o_unpack hv; o_unpack hm; row_room_at hi; row_room_at h0; row_room_at h1; row_room_at hl; row_room_at hz; (first | (case lim => exact TopRead.nolimit (by k_asm)) | kspl_open lim); row_room_at hx; row_room_at hk; row_room_at hn; (first | (case hs => with_unfolding_all rfl) | kspl_open hs)))
local macro_rules | `(tactic| walk_at "S") => `(tactic| rename Sys _ _ _ _ _ => lS)
local macro_rules | `(tactic| walk_at "R") => `(tactic| rename StRep _ _ _ _ _ _ _ _ => lR)
local macro_rules | `(tactic| walk_at "F") => `(tactic| rename Fresh _ _ _ _ _ _ => lF)
local macro_rules | `(tactic| walk_at "d") => `(tactic| ((try k_sweep); (try dsimp only)))
local macro_rules | `(tactic| walk_at "u") => `(tactic| (ktr_unf; walk_at "d"))
local macro_rules | `(tactic| walk_at "zc") => `(tactic| ((try (case R => assumption)); (try (case H => assumption)); (try (case C0 => assumption)); (try (case I => assumption)); all_goals (first | assumption | decide | ktr_rel | walk_at "zb")))
local macro_rules | `(tactic| walk_at "zl") => `(tactic| ((try (walk_at "S"; walk_at "R"; replace lR := StRep.lift lR lS (by tb_start) (Nat.le_refl _))); walk_at "u"))
local macro_rules | `(tactic| k_call_by "r" $t) => `(tactic| (k_here; k_dflt (apply $t; walk_at "zq")))
local macro_rules | `(tactic| k_call_by "k" $n $t) => `(tactic| ((with_reducible show wpAny _ _ (subscriptTail _ _ (Value.ref _) (Value.str (PySem.Str.ofString $n) _)) _ _ _); k_call_by "r" $t))
local macro_rules | `(tactic| k_call_by "n" $t) => `(tactic| ((with_reducible show wpAny _ _ (subscriptTail _ _ (Value.ref _) (Value.int _ _)) _ _ _); k_call_by "r" $t))
local macro_rules | `(tactic| k_call_by "m" $n $t) => `(tactic| ((with_reducible show wpAny _ _ (getMethod (Value.ref _) (PySem.Str.ofString $n) _) _ _ _); k_call_by "r" $t))
local macro_rules | `(tactic| k_call_by "w" $t) => `(tactic| (walk_at "S"; walk_at "R"; k_call_by "r" $t; clear lS lR; intro zh zo zn zF zN zS zR; walk_at "u"))
local macro_rules | `(tactic| k_call_by "c" $u $t) => `(tactic| (k_here; walk_at "S"; (try walk_at "R"); k_dflt (refine' $u ?yC ?yB ?yF ?yX ?yN ?yT lS ?yk ?yd ?yu ?_; (case yC => first | (apply $t (R := lR); walk_at "zc") | (apply $t; walk_at "zc")); row_room_at yB; row_room_at yF; row_room_at yX; row_room_at yN; row_room_at yT; (case yk => exact rfl); (case yd => walk_at "zd"); (case yu => walk_at "zd")); clear lS))
local macro_rules | `(tactic| k_call_by "0a" $t) => `(tactic| (k_call_by "c" Ct0.use $t; intro zr zn zm zh zt zF zN zS zI; walk_at "zl"))
local macro_rules | `(tactic| k_call_by "0e" $t) => `(tactic| (k_call_by "c" Ct0.useE $t; intro zn zm zh zt zF zN zS; walk_at "zl"))
local macro_rules | `(tactic| k_call_by "0t" $t) => `(tactic| (k_call_by "c" Ct0.useT $t; intro zu zn zm zh zt zF zN zS; walk_at "zl"))
local macro_rules | `(tactic| k_call_by "1e" $t) => `(tactic| (k_call_by "c" Ct1.useP $t; clear lR; intro zg za zn zm zh zt zF zN zS zR zf; walk_at "u"))
local macro_rules | `(tactic| k_call_by "2e" $t) => `(tactic| (k_call_by "c" Ct.useP $t; clear lR; intro zy zg za zn zm zh zt zF zN zS zR zf; walk_at "u"))
local macro_rules | `(tactic| walk_at "newTuple") => `(tactic| (walk_at "S"; k_call_by "r" newTuple_Z; clear lS; intro zt zh zn zF zN zS; walk_at "zl"))
local macro_rules | `(tactic| walk_at "compareOp In ref ref") => `(tactic| k_call_by "r" r_in_ws)
local macro_rules | `(tactic| walk_at "compareOp NotIn ref ref") => `(tactic| first | k_call_by "r" r_notin_ws | k_call_by "r" r_notin_og)
local macro_rules | `(tactic| walk_at "compareOp In int ref") => `(tactic| first | k_call_by "r" r_in_wo | k_call_by "r" r_in_ac | k_call_by "r" r_in_ac' | k_call_by "r" r_in_ds | k_call_by "r" r_in_stor)
local macro_rules | `(tactic| walk_at "compareOp NotIn int ref") => `(tactic| first | k_call_by "r" r_notin_wo | k_call_by "r" r_notin_td | k_call_by "r" r_notin_ac)
local macro_rules | `(tactic| walk_at "setItem ref int") => `(tactic| first | k_call_by "w" r_set_wo | k_call_by "w" r_set_td | k_call_by "w" r_set_stor)
local macro_rules | `(tactic| walk_at "setItem ref ref") => `(tactic| first | k_call_by "w" r_set_ws | k_call_by "w" r_set_og)
local macro_rules | `(tactic| walk_at "delItem ref int") => `(tactic| first | k_call_by "w" r_del_wo | k_call_by "w" r_del_td | k_call_by "w" r_del_stor)
local macro_rules | `(tactic| walk_at "delItem ref ref") => `(tactic| k_call_by "w" r_del_ws)
local macro_rules | `(tactic| walk_at "call builtin:list.append") => `(tactic| k_call_by "w" r_push)
local macro_rules | `(tactic| walk_at "call builtin:list.pop") => `(tactic| (walk_at "S"; walk_at "R"; k_call_by "r" r_pop; clear lS lR; intro zh zo zu zn zv zF zN zS zR zI; walk_at "u"))
local macro_rules | `(tactic| walk_at "call builtin:len") => `(tactic| (k_call_by "r" r_len_jl; intro zu))
local macro_rules | `(tactic| walk_at "call builtin:dict.get") => `(tactic| ((first | k_call_by "r" r_get_stor | k_call_by "r" r_get_og); intro zu))
local macro_rules | `(tactic| walk_at "getMethod ref") => `(tactic| first | k_call_by "m" "get" r_getMethod_stor | k_call_by "m" "get" r_getMethod_og | k_call_by "m" "append" r_getMethod_ap | k_call_by "m" "pop" r_getMethod_po)
local macro_rules | `(tactic| walk_at "zk") => `(tactic| ((case yk1 => k_asm); (case yk2 => k_asm); (case yk3 => k_asm); (case yk6 => k_is); (case yk7 => k_is); (case yk8 => k_is); (case yk9 => k_is)))
local macro_rules | `(tactic| walk_at "setAttr ref") => `(tactic| (k_here; walk_at "S"; walk_at "R"; k_dflt (refine' r_set_rf ?yk1 ?yk2 ?yk3 lS lR ?yk6 ?yk7 ?yk8 ?yk9 ?_; walk_at "zk"); clear lS lR; intro zh zo zn zF zN zS zR; walk_at "u"))
local macro_rules | `(tactic| walk_at "subscriptTail") => `(tactic| k_call_by "n" r_acc)
local macro_rules | `(tactic| walk_at "zs") => `(tactic| ((case N => k_asm); (case S => assumption); (case ht => ktr_rel); (case hc => exact ⟨_, .cons (.str _ _) (.cons (.str _ _) (.cons (.str _ _) (.cons (.str _ _) .nil)))⟩); (case hb => exact rfl)))
local macro_rules | `(tactic| walk_at "compareOp In str ref") => `(tactic| (k_here; k_dflt (first | (apply r_in_strs (bb := true); walk_at "zs") | (apply r_in_strs (bb := false); walk_at "zs"))))
local macro_rules | `(tactic| walk_at "newList") => `(tactic| (walk_at "S"; k_call_by "r" newList_Z; clear lS; intro zq zh zn zF zN zS zf; walk_at "u"))
local macro_rules | `(tactic| walk_at "eval Dict nil nil") => `(tactic| (walk_at "S"; k_call_by "r" newDict_Z; clear lS; intro zq zh zo zn zF zN zS zf zp; walk_at "u"))
local macro_rules | `(tactic| walk_at "call builtin:sorted") => `(tactic| (k_here; walk_at "S"; k_dflt ((first | refine' r_sorted_td ?yH ?yF ?yN lS ?yR ?_ | refine' r_sorted_ds ?yH ?yF ?yN lS ?yR ?_); row_room_at yF; row_room_at yN; row_room_at yR; (case yH => exact rfl)); clear lS; intro zD zv zn zc zh zt zm zF zN zS zI zl; walk_at "zl"))
local macro_rules | `(tactic| walk_at "binaryOp Add ref ref") => `(tactic| (k_here; walk_at "S"; k_dflt (refine' r_add_ints ?yF ?yN lS ?ya ?yc ?yi ?yj ?yx ?yy ?_; row_room_at yF; row_room_at yN; (case ya => ktr_rel); (case yc => ktr_rel); row_room_at yi; row_room_at yj; row_room_at yx; row_room_at yy); clear lS; intro zD zv zh zn zF zN zS zI; walk_at "zl"))
local macro_rules | `(tactic| ktn_call ($a, $c) ($b, $n)) => `(tactic| (k_here; (with_reducible show wpAny _ _ (setAttr (Value.ref _) (PySem.Str.ofString $n) (Value.ref _)) _ _ _); walk_at "S"; walk_at "R"; walk_at "F"; k_dflt (refine' $a ?yk1 ?yk2 ?yk3 lS lF (StRep.st lR) (StRep.sd lR) ?yk6 ?yk7 ?yk8 ?yk9 ?yk10 (fun _ _ => $c) sdp_n (Nat.le_of_ble_eq_true rfl) ?_; walk_at "zk"; (case yk10 => exact rfl)); intro zh zn zF zN zS; (first | replace lR := StRep.as ($b lR _ (by assumption)) zS | replace lR := StRep.as ($b lR _ (listOf #[] 0)) zS | replace lR := StRep.as ($b lR _ lF.2.2.2 (by assumption)) zS | replace lR := StRep.as ($b lR _ _) zS); clear lS lF; walk_at "u"))
local macro_rules | `(tactic| walk_at "setAttr ref ref") => `(tactic| first | ktn_call ((setAttr_new (i := iJl) (by decide) (by decide)), sdp_journal) (StRep.new_jl, "journal") | ktn_call ((setAttr_new (i := iTd) (by decide) (by decide)), sdp_touched) (StRep.new_td, "touched") | ktn_call ((setAttr_new (i := iWo) (by decide) (by decide)), sdp_warm_ones) (StRep.new_wo, "warm_ones") | ktn_call ((setAttr_new (i := iWs) (by decide) (by decide)), sdp_warm_slots) (StRep.new_ws, "warm_slots") | ktn_call ((setAttr_new (i := iOg) (by decide) (by decide)), sdp_originals) (StRep.new_og, "originals") | ktn_call (setAttr_fix, sdp_destroyed) (StRep.new_ds, "destroyed") | ktn_call (setAttr_fix, sdp_logs) (StRep.new_lg, "logs"))

/-- Row(kind, address, key, old) -/
theorem C_Row (w : World) (z : Nat) (lay : Nat → Addr) (σ : Nat → Obj) (imm : Led) (v1 v2 v3 v4 : Value) :
    Ct0 w 1 80 [v1, v2, v3, v4] z lay σ imm (fun r imm' => ∃ x dx, r = .ref x ∧ (x, instObj 80 dx) ∈ imm' ∧ ∃ (hs : Nat → Int) (ts : Nat → Tok) (n : Nat), (dx, dictOf (rowV hs ts v1 v2 v3 v4) n) ∈ imm') := by
  unfold Ct0
  k_fill
  intro V lw dp un gd cn cs a ccd cl outer A₀ base h₀ L m s mean mg mb news Q E B F X N T S hk hd hu hret
  k_dflt (refine' call_cls ?k1 ?k2 ?k3 ?k4 ?k5 ?k6 ?_; (case k1 => k_asm); (case k2 => k_asm); (case k3 => k_asm); (case k4 => k_is); (case k5 => k_is); (case k6 => k_is); k_whole; intro x' d' h' F' N' l1 l2; have l3 := allLt_of l1; have l2 := ltN l2; ktr_enter)
  k_steps
  (refine hret _ _ _ _ _ (by k_asm) (by k_asm) ?su (S.push2 l3 l2) ?_; (case su => tb_start))
  exact ⟨x', d', rfl, .head _, row_mem (.tail _ (.head _))⟩
theorem C_Row2 (w : World) (z : Nat) (lay : Nat → Addr) (σ : Nat → Obj) (imm : Led) (kind : String) (p k o : Int) (t1 t2 t3 t4 : Tok) :
    Ct0 w 1 80 [.str (Str.ofString kind) t1, .int p t2, .int k t3, .int o t4] z lay σ imm (fun r imm' => RowAt imm' r kind p k o) := by
  have h := C_Row w z lay σ imm (.str (Str.ofString kind) t1) (.int p t2) (.int k t3) (.int o t4)
  unfold Ct0 at h ⊢
  intro V lw dp un gd cn cs a ccd cl outer A₀ base h₀ L m s mean mg mb news Q E B F X N T S hk hd hu hret
  exact h V lw dp un gd cn cs a ccd cl outer A₀ base h₀ L m s mean mg mb news Q E B F X N T S hk hd hu fun r imm' n' h' tk' F' N' U S' R' =>
    hret r imm' n' h' tk' F' N' U S' (by obtain ⟨x, dx, rfl, h1, hs, ts, n, h2⟩ := R'; exact RowAt.of h1 h2)

local macro_rules | `(tactic| walk_at "call ref") => `(tactic| k_call_by "0a" C_Row2)

theorem C_is_warm_slot (w : World) (z : Nat) (st : Addr) (ax : Aux) (lay : Nat → Addr) (σ : Nat → Obj) (imm : Led) (x : SX) (b : Nat) (hb : b ≤ 990000) (R : StRep w st ax lay σ imm x b) (p k : Int) (t u : Tok) :
    Ct0 w 1 259 [.ref st, .int p t, .int k u] z lay σ imm (fun r imm' => r = .bool (x.c.ws p k)) := by
  unfold Ct0
  k_fill
  intro V lw dp un gd cn cs a ccd cl outer A₀ base h₀ L m s mean mg mb news Q E B F X N T S hk hd hu hret
  refine wpAny_call ?_
  k_dflt ktr_enter
  k_steps
  (refine hret _ _ _ _ _ (by k_asm) (by k_asm) ?su (by assumption) ?_; (case su => tb_start))
  rfl
theorem C_is_warm (w : World) (z : Nat) (st : Addr) (ax : Aux) (lay : Nat → Addr) (σ : Nat → Obj) (imm : Led) (x : SX) (b : Nat) (hb : b ≤ 990000) (R : StRep w st ax lay σ imm x b) (p : Int) (t : Tok) :
    Ct0 w 1 245 [.ref st, .int p t] z lay σ imm (fun r imm' => r = .bool (x.c.wo p)) := by
  unfold Ct0
  k_fill
  intro V lw dp un gd cn cs a ccd cl outer A₀ base h₀ L m s mean mg mb news Q E B F X N T S hk hd hu hret
  refine wpAny_call ?_
  k_dflt ktr_enter
  k_steps
  (refine hret _ _ _ _ _ (by k_asm) (by k_asm) ?su (by assumption) ?_; (case su => tb_start))
  rfl
theorem C_warm_slot (w : World) (z : Nat) (st : Addr) (ax : Aux) (lay : Nat → Addr) (σ : Nat → Obj) (imm : Led) (x : SX) (b : Nat) (hb : b ≤ 990000) (R : StRep w st ax lay σ imm x b) (p k : Int) (t u : Tok) :
    Ct1 w 3 266 [.ref st, .int p t, .int k u] z lay σ imm (fun r σ' imm' => r = .none ∧ Post w z st lay σ σ' imm' (x.warmSlot p k) (b + 2)) := by
  unfold Ct1
  k_fill
  intro V lw dp un gd cn cs a ccd cl outer A₀ base h₀ L m s mean mg mb news Q E B F X N T S hk hd hu hret
  refine wpAny_call ?_
  k_dflt ktr_enter
  k_steps
  · rename x.c.ws p k = true => hc
    rename StRep _ _ _ _ _ _ _ _ => R9
    (refine hret _ _ _ _ _ _ (by k_asm) (by k_asm) ?su (by assumption) ?_; (case su => tb_start))
    exact ⟨rfl, _, by rw [SX.warmSlot, if_pos hc]; exact R9.mono (fun _ q => q) (by omega), by kwd_inv⟩
  · rename x.c.ws p k = false => hc
    rename StRep _ _ _ _ _ _ _ _ => R9
    (refine hret _ _ _ _ _ _ (by k_asm) (by k_asm) ?su (by assumption) ?_; (case su => tb_start))
    exact ⟨rfl, _, by rw [SX.warmSlot, if_neg (by rw [hc]; exact Bool.false_ne_true)]; exact R9, by kwd_inv⟩
theorem C_warm (w : World) (z : Nat) (st : Addr) (ax : Aux) (lay : Nat → Addr) (σ : Nat → Obj) (imm : Led) (x : SX) (b : Nat) (hb : b ≤ 990000) (R : StRep w st ax lay σ imm x b) (p : Int) (t : Tok) :
    Ct1 w 3 252 [.ref st, .int p t] z lay σ imm (fun r σ' imm' => r = .none ∧ Post w z st lay σ σ' imm' (x.warm p) (b + 2)) := by
  unfold Ct1
  k_fill
  intro V lw dp un gd cn cs a ccd cl outer A₀ base h₀ L m s mean mg mb news Q E B F X N T S hk hd hu hret
  refine wpAny_call ?_
  k_dflt ktr_enter
  k_steps
  · rename x.c.wo p = true => hc
    rename StRep _ _ _ _ _ _ _ _ => R9
    (refine hret _ _ _ _ _ _ (by k_asm) (by k_asm) ?su (by assumption) ?_; (case su => tb_start))
    exact ⟨rfl, _, by rw [SX.warm, if_pos hc]; exact R9.mono (fun _ q => q) (by omega), by kwd_inv⟩
  · rename x.c.wo p = false => hc
    rename StRep _ _ _ _ _ _ _ _ => R9
    (refine hret _ _ _ _ _ _ (by k_asm) (by k_asm) ?su (by assumption) ?_; (case su => tb_start))
    exact ⟨rfl, _, by rw [SX.warm, if_neg (by rw [hc]; exact Bool.false_ne_true)]; exact R9, by kwd_inv⟩
theorem C_add_refund (w : World) (z : Nat) (st : Addr) (ax : Aux) (lay : Nat → Addr) (σ : Nat → Obj) (imm : Led) (x : SX) (b : Nat) (hb : b ≤ 990000) (R : StRep w st ax lay σ imm x b) (g : Int) (t : Tok) :
    Ct1 w 3 273 [.ref st, .int g t] z lay σ imm (fun r σ' imm' => r = .none ∧ Post w z st lay σ σ' imm' { x with c := { x.c with rf := x.c.rf + g }, jr := x.jr ++ [.refund x.c.rf] } (b + 1)) := by
  unfold Ct1
  k_fill
  intro V lw dp un gd cn cs a ccd cl outer A₀ base h₀ L m s mean mg mb news Q E B F X N T S hk hd hu hret
  refine wpAny_call ?_
  k_dflt ktr_enter
  k_steps
  rename StRep _ _ _ _ _ _ _ _ => R9
  (refine hret _ _ _ _ _ _ (by k_asm) (by k_asm) ?su (by assumption) ?_; (case su => tb_start))
  exact ⟨rfl, _, R9, by kwd_inv⟩
theorem C_mark (w : World) (z : Nat) (st : Addr) (ax : Aux) (lay : Nat → Addr) (σ : Nat → Obj) (imm : Led) (x : SX) (b : Nat) (hb : b ≤ 990000) (R : StRep w st ax lay σ imm x b) : Ct0 w 1 301 [.ref st] z lay σ imm (fun r imm' => ∃ t, r = .int x.jr.length t) := by
  unfold Ct0
  k_fill
  intro V lw dp un gd cn cs a ccd cl outer A₀ base h₀ L m s mean mg mb news Q E B F X N T S hk hd hu hret
  refine wpAny_call ?_
  k_dflt ktr_enter
  k_steps
  (refine hret _ _ _ _ _ (by k_asm) (by k_asm) ?su (by assumption) ?_; (case su => tb_start))
  exact ⟨_, rfl⟩
theorem C_slot (w : World) (z : Nat) (st : Addr) (ax : Aux) (lay : Nat → Addr) (σ : Nat → Obj) (imm : Led) (x : SX) (b : Nat) (hb : b ≤ 990000) (R : StRep w st ax lay σ imm x b) (p k : Int) (hp : Pl p) (t u : Tok) :
    Ct0 w 1 224 [.ref st, .int p t, .int k u] z lay σ imm (fun r imm' => ∃ t', r = .int (x.c.cur p k) t') := by
  unfold Ct0
  k_fill
  intro V lw dp un gd cn cs a ccd cl outer A₀ base h₀ L m s mean mg mb news Q E B F X N T S hk hd hu hret
  refine wpAny_call ?_
  k_dflt ktr_enter
  k_steps
  (refine hret _ _ _ _ _ (by k_asm) (by k_asm) ?su (by assumption) ?_; (case su => tb_start))
  exact ⟨_, rfl⟩

theorem C_put_slot (w : World) (z : Nat) (st : Addr) (ax : Aux) (lay : Nat → Addr) (σ : Nat → Obj) (imm : Led) (x : SX) (b : Nat) (hb : b ≤ 990000) (R : StRep w st ax lay σ imm x b) (p k v : Int) (hp : Pl p) (t u : Tok) :
    Ct1 w 2 63 [.ref (ax.acc (ix p)), .int k t, .int v u] z lay σ imm (fun r σ' imm' => r = .none ∧ Post w z st lay σ σ' imm' (x.put p k v) (b + 1)) := by
  unfold Ct1
  k_fill
  intro V lw dp un gd cn cs a ccd cl outer A₀ base h₀ L m s mean mg mb news Q E B F X N T S hk hd hu hret
  refine wpAny_call ?_
  k_dflt ktr_enter
  k_steps
  · rename StRep _ _ _ _ _ _ _ _ => R9
    (refine hret _ _ _ _ _ _ (by k_asm) (by k_asm) ?su (by assumption) ?_; (case su => tb_start))
    exact ⟨rfl, _, R9, by kwd_inv⟩
  · rename StRep _ _ _ _ _ _ _ _ => R9
    rename v = 0 => hv
    subst hv
    (refine hret _ _ _ _ _ _ (by k_asm) (by k_asm) ?su (by assumption) ?_; (case su => tb_start))
    exact ⟨rfl, _, R9.mono (fun _ q => q) (by omega), by kwd_inv⟩
  · rename StRep _ _ _ _ _ _ _ _ => R9
    rename v = 0 => hv
    rename ¬ x.c.cur p k ≠ 0 => hc
    have e : x.put p k v = x := by
      have hc' := Decidable.not_not.mp hc
      unfold SX.put; rw [hv, ← hc', set2_same]
    (refine hret _ _ _ _ _ _ (by k_asm) (by k_asm) ?su (by assumption) ?_; (case su => tb_start))
    exact ⟨rfl, _, by rw [e]; exact R9.mono (fun _ q => q) (by omega), by kwd_inv⟩
theorem C_written (w : World) (z : Nat) (st : Addr) (ax : Aux) (lay : Nat → Addr) (σ : Nat → Obj) (imm : Led) (x : SX) (b : Nat) (hb : b ≤ 990000) (R : StRep w st ax lay σ imm x b) (p : Int) (hp : Pl p) (t : Tok) :
    Ct1 w 3 140 [.ref st, .int p t] z lay σ imm (fun r σ' imm' => ∃ ax', StRep w st ax' lay σ' imm' (x.touch p) (b + 2) ∧ r = .ref (ax'.acc (ix p)) ∧ Frame z lay lay σ σ') := by
  unfold Ct1
  k_fill
  intro V lw dp un gd cn cs a ccd cl outer A₀ base h₀ L m s mean mg mb news Q E B F X N T S hk hd hu hret
  refine wpAny_call ?_
  k_dflt ktr_enter
  k_steps
  · rename x.c.tch p = true => hc
    rename StRep _ _ _ _ _ _ _ _ => R9
    (refine hret _ _ _ _ _ _ (by k_asm) (by k_asm) ?su (by assumption) ?_; (case su => tb_start))
    exact ⟨ax, by rw [SX.touch, if_pos hc]; exact R9.mono (fun _ q => q) (by omega), rfl, by kwd_inv⟩
  · rename x.c.tch p = false => hc
    rename StRep _ _ _ _ _ _ _ _ => R9
    (refine hret _ _ _ _ _ _ (by k_asm) (by k_asm) ?su (by assumption) ?_; (case su => tb_start))
    have e : x.touch p = _ := if_neg (by rw [hc]; exact Bool.false_ne_true)
    refine' ⟨_, ?r, ?q, ?f⟩
    case r => rw [e]; exact R9
    case q => rfl
    case f => kwd_inv

local macro_rules | `(tactic| walk_at "call ref") => `(tactic| first | k_call_by "0t" C_slot | k_call_by "0t" C_mark | k_call_by "1e" C_put_slot | (k_call_by "c" Ct1.use C_written; clear lR; rintro zr zg zn zm zh zt zF zN zS ⟨za, zR, e', zf⟩; subst e'; walk_at "u"))

theorem C_original_slot (w : World) (z : Nat) (st : Addr) (ax : Aux) (lay : Nat → Addr) (σ : Nat → Obj) (imm : Led) (x : SX) (b : Nat) (hb : b ≤ 980000) (R : StRep w st ax lay σ imm x b) (p k : Int) (hp : Pl p) (t u : Tok) :
    Ct0 w 3 238 [.ref st, .int p t, .int k u] z lay σ imm (fun r imm' => ∃ t', r = .int ((x.og p k).getD (x.c.cur p k)) t') := by
  unfold Ct0
  k_fill
  intro V lw dp un gd cn cs a ccd cl outer A₀ base h₀ L m s mean mg mb news Q E B F X N T S hk hd hu hret
  refine wpAny_call ?_
  k_dflt ktr_enter
  k_steps
  (refine hret _ _ _ _ _ (by k_asm) (by k_asm) ?su (by assumption) ?_; (case su => tb_start))
  exact ⟨_, rfl⟩
theorem C_set_slot (w : World) (z : Nat) (st : Addr) (ax : Aux) (lay : Nat → Addr) (σ : Nat → Obj) (imm : Led) (x : SX) (b : Nat) (hb : b ≤ 980000) (R : StRep w st ax lay σ imm x b) (p k v : Int) (hp : Pl p) (t u y : Tok) :
    Ct1 w 5 231 [.ref st, .int p t, .int k u, .int v y] z lay σ imm (fun r σ' imm' => r = .none ∧ Post w z st lay σ σ' imm' (x.setSlot p k v) (b + 6)) := by
  unfold Ct1
  k_fill
  intro V lw dp un gd cn cs a ccd cl outer A₀ base h₀ L m s mean mg mb news Q E B F X N T S hk hd hu hret
  refine wpAny_call ?_
  k_dflt ktr_enter
  k_steps
  · rename (x.og p k).isSome = true => hc
    rename StRep _ _ _ _ _ _ _ _ => R9
    have e : x.orig p k = x := if_pos hc
    (refine hret _ _ _ _ _ _ (by k_asm) (by k_asm) ?su (by assumption) ?_; (case su => tb_start))
    exact ⟨rfl, _, by rw [SX.setSlot, e]; exact R9.mono (fun _ q => q) (by omega), by kwd_inv⟩
  · rename (x.og p k).isSome = false => hc
    rename StRep _ _ _ _ _ _ _ _ => R9
    have e : x.orig p k = { x with og := set2 x.og p k (some (x.c.cur p k)) } := if_neg (by rw [hc]; exact Bool.false_ne_true)
    (refine hret _ _ _ _ _ _ (by k_asm) (by k_asm) ?su (by assumption) ?_; (case su => tb_start))
    exact ⟨rfl, _, by rw [SX.setSlot, e]; exact R9.mono (fun _ q => q) (by omega), by kwd_inv⟩

theorem C_undone_value (w : World) (z : Nat) (st : Addr) (ax : Aux) (lay : Nat → Addr) (σ : Nat → Obj) (imm : Led) (x : SX) (b : Nat) (hb : b ≤ 980000) (R : StRep w st ax lay σ imm x b) (p k o : Int) (hp : Pl p) (xr dx : Addr) (hs : Nat → Int) (ts : Nat → Tok) (n : Nat) (t4 t5 t6 t7 : Tok) (h1 : (xr, instObj 80 dx) ∈ imm)
    (h2 : (dx, dictOf (rowV hs ts (.str (Str.ofString "slot") t4) (.int p t5) (.int k t6) (.int o t7)) n) ∈ imm) :
    Ct1 w 4 91 [.ref (ax.acc (ix p)), .ref xr] z lay σ imm (fun r σ' imm' => r = .none ∧ Post w z st lay σ σ' imm' (x.undo (.slot p k o)) (b + 1)) := by
  unfold Ct1
  k_fill
  intro V lw dp un gd cn cs a ccd cl outer A₀ base h₀ L m s mean mg mb news Q E B F X N T S hk hd hu hret
  refine wpAny_call ?_
  k_dflt ktr_enter
  k_steps
  rename StRep _ _ _ _ _ _ _ _ => R9
  (refine hret _ _ _ _ _ _ (by k_asm) (by k_asm) ?su (by assumption) ?_; (case su => tb_start))
  exact ⟨rfl, _, R9, by kwd_inv⟩

local macro_rules | `(tactic| walk_at "call ref") => `(tactic| k_call_by "1e" C_undone_value)

theorem C_undone_slot (w : World) (z : Nat) (st : Addr) (ax : Aux) (lay : Nat → Addr) (σ : Nat → Obj) (imm : Led) (x : SX) (b : Nat) (hb : b ≤ 980000) (R : StRep w st ax lay σ imm x b) (p k o : Int) (hp : Pl p) (xr dx : Addr) (hs : Nat → Int) (ts : Nat → Tok) (n : Nat) (t4 t5 t6 t7 : Tok) (h1 : (xr, instObj 80 dx) ∈ imm)
    (h2 : (dx, dictOf (rowV hs ts (.str (Str.ofString "slot") t4) (.int p t5) (.int k t6) (.int o t7)) n) ∈ imm) :
    Ct1 w 6 98 [.ref st, .ref xr] z lay σ imm (fun r σ' imm' => r = .none ∧ Post w z st lay σ σ' imm' (x.undo (.slot p k o)) (b + 1)) := by
  unfold Ct1
  k_fill
  intro V lw dp un gd cn cs a ccd cl outer A₀ base h₀ L m s mean mg mb news Q E B F X N T S hk hd hu hret
  refine wpAny_call ?_
  k_dflt ktr_enter
  k_steps
  rename StRep _ _ _ _ _ _ _ _ => R9
  (refine hret _ _ _ _ _ _ (by k_asm) (by k_asm) ?su (by assumption) ?_; (case su => tb_start))
  exact ⟨rfl, _, R9.mono (fun _ q => q) (by omega), by kwd_inv⟩
theorem C_undone_warm (w : World) (z : Nat) (st : Addr) (ax : Aux) (lay : Nat → Addr) (σ : Nat → Obj) (imm : Led) (x : SX) (b : Nat) (hb : b ≤ 980000) (R : StRep w st ax lay σ imm x b) (p k o : Int) (hp : x.c.wo p = true) (xr dx : Addr) (hs : Nat → Int) (ts : Nat → Tok) (n : Nat) (t4 t5 t6 t7 : Tok) (h1 : (xr, instObj 80 dx) ∈ imm)
    (h2 : (dx, dictOf (rowV hs ts (.str (Str.ofString "warm") t4) (.int p t5) (.int k t6) (.int o t7)) n) ∈ imm) :
    Ct1 w 6 98 [.ref st, .ref xr] z lay σ imm (fun r σ' imm' => r = .none ∧ Post w z st lay σ σ' imm' (x.undo (.warm p)) (b + 1)) := by
  unfold Ct1
  k_fill
  intro V lw dp un gd cn cs a ccd cl outer A₀ base h₀ L m s mean mg mb news Q E B F X N T S hk hd hu hret
  refine wpAny_call ?_
  k_dflt ktr_enter
  k_steps
  rename StRep _ _ _ _ _ _ _ _ => R9
  (refine hret _ _ _ _ _ _ (by k_asm) (by k_asm) ?su (by assumption) ?_; (case su => tb_start))
  exact ⟨rfl, _, R9.mono (fun _ q => q) (by omega), by kwd_inv⟩
theorem C_undone_wslot (w : World) (z : Nat) (st : Addr) (ax : Aux) (lay : Nat → Addr) (σ : Nat → Obj) (imm : Led) (x : SX) (b : Nat) (hb : b ≤ 980000) (R : StRep w st ax lay σ imm x b) (p k o : Int) (hp : x.c.ws p k = true) (xr dx : Addr) (hs : Nat → Int) (ts : Nat → Tok) (n : Nat) (t4 t5 t6 t7 : Tok) (h1 : (xr, instObj 80 dx) ∈ imm)
    (h2 : (dx, dictOf (rowV hs ts (.str (Str.ofString "warm_slot") t4) (.int p t5) (.int k t6) (.int o t7)) n) ∈ imm) :
    Ct1 w 6 98 [.ref st, .ref xr] z lay σ imm (fun r σ' imm' => r = .none ∧ Post w z st lay σ σ' imm' (x.undo (.wslot p k)) (b + 1)) := by
  unfold Ct1
  k_fill
  intro V lw dp un gd cn cs a ccd cl outer A₀ base h₀ L m s mean mg mb news Q E B F X N T S hk hd hu hret
  refine wpAny_call ?_
  k_dflt ktr_enter
  k_steps
  rename StRep _ _ _ _ _ _ _ _ => R9
  (refine hret _ _ _ _ _ _ (by k_asm) (by k_asm) ?su (by assumption) ?_; (case su => tb_start))
  exact ⟨rfl, _, R9.mono (fun _ q => q) (by omega), by kwd_inv⟩
theorem C_undone_touched (w : World) (z : Nat) (st : Addr) (ax : Aux) (lay : Nat → Addr) (σ : Nat → Obj) (imm : Led) (x : SX) (b : Nat) (hb : b ≤ 980000) (R : StRep w st ax lay σ imm x b) (p k o : Int) (hp : x.c.tch p = true) (xr dx : Addr) (hs : Nat → Int) (ts : Nat → Tok) (n : Nat) (t4 t5 t6 t7 : Tok) (h1 : (xr, instObj 80 dx) ∈ imm)
    (h2 : (dx, dictOf (rowV hs ts (.str (Str.ofString "touched") t4) (.int p t5) (.int k t6) (.int o t7)) n) ∈ imm) :
    Ct1 w 6 98 [.ref st, .ref xr] z lay σ imm (fun r σ' imm' => r = .none ∧ Post w z st lay σ σ' imm' (x.undo (.touched p)) (b + 1)) := by
  unfold Ct1
  k_fill
  intro V lw dp un gd cn cs a ccd cl outer A₀ base h₀ L m s mean mg mb news Q E B F X N T S hk hd hu hret
  refine wpAny_call ?_
  k_dflt ktr_enter
  k_steps
  rename StRep _ _ _ _ _ _ _ _ => R9
  (refine hret _ _ _ _ _ _ (by k_asm) (by k_asm) ?su (by assumption) ?_; (case su => tb_start))
  exact ⟨rfl, _, R9.mono (fun _ q => q) (by omega), by kwd_inv⟩
theorem C_undone_refund (w : World) (z : Nat) (st : Addr) (ax : Aux) (lay : Nat → Addr) (σ : Nat → Obj) (imm : Led) (x : SX) (b : Nat) (hb : b ≤ 980000) (R : StRep w st ax lay σ imm x b) (p k o : Int) (xr dx : Addr) (hs : Nat → Int) (ts : Nat → Tok) (n : Nat) (t4 t5 t6 t7 : Tok) (h1 : (xr, instObj 80 dx) ∈ imm)
    (h2 : (dx, dictOf (rowV hs ts (.str (Str.ofString "refund") t4) (.int p t5) (.int k t6) (.int o t7)) n) ∈ imm) :
    Ct1 w 6 98 [.ref st, .ref xr] z lay σ imm (fun r σ' imm' => r = .none ∧ Post w z st lay σ σ' imm' (x.undo (.refund o)) (b + 1)) := by
  unfold Ct1
  k_fill
  intro V lw dp un gd cn cs a ccd cl outer A₀ base h₀ L m s mean mg mb news Q E B F X N T S hk hd hu hret
  refine wpAny_call ?_
  k_dflt ktr_enter
  k_steps
  rename StRep _ _ _ _ _ _ _ _ => R9
  (refine hret _ _ _ _ _ _ (by k_asm) (by k_asm) ?su (by assumption) ?_; (case su => tb_start))
  exact ⟨rfl, _, R9.mono (fun _ q => q) (by omega), by kwd_inv⟩
theorem C_undone (w : World) (z : Nat) (st : Addr) (ax : Aux) (lay : Nat → Addr) (σ : Nat → Obj) (imm : Led) (x : SX) (b : Nat) (hb : b ≤ 980000) (R : StRep w st ax lay σ imm x b) (v : Value) (r : Row) (hr : RowIs imm v r) (ok : x.c.UndoOk r) :
    Ct1 w 6 98 [.ref st, v] z lay σ imm (fun r' σ' imm' => r' = .none ∧ Post w z st lay σ σ' imm' (x.undo r) (b + 1)) := by
  cases r with
  | junk => exact ok.elim
  | touched p => exact ex2 hr fun k o h => RowAt.elim (G := fun v => Ct1 w 6 98 [.ref st, v] z lay σ imm _) h fun xr dx hs ts n t4 t5 t6 t7 h1 h2 => C_undone_touched w z st ax lay σ imm x b hb R p k o ok xr dx hs ts n t4 t5 t6 t7 h1 h2
  | warm p => exact ex2 hr fun k o h => RowAt.elim (G := fun v => Ct1 w 6 98 [.ref st, v] z lay σ imm _) h fun xr dx hs ts n t4 t5 t6 t7 h1 h2 => C_undone_warm w z st ax lay σ imm x b hb R p k o ok xr dx hs ts n t4 t5 t6 t7 h1 h2
  | wslot p k => exact Exists.elim hr fun o h => RowAt.elim (G := fun v => Ct1 w 6 98 [.ref st, v] z lay σ imm _) h fun xr dx hs ts n t4 t5 t6 t7 h1 h2 => C_undone_wslot w z st ax lay σ imm x b hb R p k o ok xr dx hs ts n t4 t5 t6 t7 h1 h2
  | slot p k o => exact RowAt.elim (G := fun v => Ct1 w 6 98 [.ref st, v] z lay σ imm _) hr fun xr dx hs ts n t4 t5 t6 t7 h1 h2 => C_undone_slot w z st ax lay σ imm x b hb R p k o ok xr dx hs ts n t4 t5 t6 t7 h1 h2
  | refund o => exact ex2 hr fun p k h => RowAt.elim (G := fun v => Ct1 w 6 98 [.ref st, v] z lay σ imm _) h fun xr dx hs ts n t4 t5 t6 t7 h1 h2 => C_undone_refund w z st ax lay σ imm x b hb R p k o xr dx hs ts n t4 t5 t6 t7 h1 h2

local macro_rules | `(tactic| walk_at "call ref") => `(tactic| k_call_by "1e" C_undone)

theorem C_back (w : World) (z : Nat) (st : Addr) (ax : Aux) (lay : Nat → Addr) (σ : Nat → Obj) (imm : Led) (x : SX) (b : Nat) (hb : b ≤ 450000) (R : StRep w st ax lay σ imm x b) (mk : Int) (t : Tok) (c' : C) (jr' : List Row) (T0 : Trail x.c x.jr c' jr') (hm : (jr'.length : Int) = mk) :
    Ct1 w 8 308 [.ref st, .int mk t] z lay σ imm (fun r σ' imm' => r = .none ∧ Post w z st lay σ σ' imm' { x with c := c', jr := jr' } (b + x.jr.length - jr'.length)) := by
  unfold Ct1
  k_fill
  intro V lw dp un gd cn cs a ccd cl outer A₀ base h₀ L m s mean mg mb news Q E B F X N T S hk hd hu hret
  refine wpAny_call ?_
  k_dflt ktr_enter
  refine wpAny_execs_cons ?_
  have hl := T0.le
  have hjb := R.jb
  rw [R.jr.length] at hjb
  refine While_m (n₀ := x.jr.length) (fun n nx => ∃ σ' imm' ax' x', Suf imm imm' ∧ Sys z lay σ' imm' nx ∧ StRep w st ax' lay σ' imm' x' (b + x.jr.length - n) ∧ Frame z lay lay σ σ' ∧ x'.og = x.og ∧ Trail x'.c x'.jr c' jr' ∧ x'.jr.length = n ∧ n ≤ x.jr.length) (by k_asm) (by k_asm) ⟨σ, imm, ax, x, Suf.refl _, S, R.mono (fun _ q => q) bk4, Frame.refl _ _ _, rfl, T0, rfl, Nat.le_refl _⟩ ?_ (by passes_own)
  intro n nx h1 tk1 F1 N1 hJ
  refine ex4 hJ ?_
  intro σ1 imm1 ax1 x1 hK
  refine and8 hK ?_
  intro U1 S1 R1 fr1 eo1 T1 en1 le1
  have hl1 := T1.le
  have hB := bk3 (n := n) hb hjb
  clear hJ hK
  clear S R T0
  by_cases hlt : jr'.length < x1.jr.length
  · refine ex2 (T1.more hlt) ?_
    intro js r hT
    refine and3 hT ?_
    intro ej ok T2
    clear hT
    have hj : x1.jr.length = js.length + 1 := by rw [ej]; simp
    k_steps
    rename StRep _ _ _ _ _ _ _ _ => R9
    rename Sys _ _ _ _ _ => S9
    refine WStep.intro (n' := js.length) (by k_asm) (by k_asm) (by omega) ⟨_, _, _, _, Suf.trans U1 (by tb_start), S9, R9.mono (fun _ q => q) (bk1 en1 hj le1), by kwd_inv, eo1, T2, rfl, by omega⟩
  · have e : ({ x with c := c', jr := jr' } : SX) = x1 := by
      obtain ⟨e1, e2⟩ := T1.same (by omega)
      obtain ⟨c1, o1, j1⟩ := x1
      simp only at e1 e2 eo1
      rw [← e1, ← e2, ← eo1]
    k_steps
    refine hret _ _ _ _ _ _ (by k_asm) (by k_asm) U1 S1 ⟨rfl, ax1, ?_, fr1⟩
    rw [e]
    exact R1.mono (fun _ q => q) (bk2 en1 hl1)

theorem C_is_empty (w : World) (z : Nat) (st : Addr) (ax : Aux) (lay : Nat → Addr) (σ : Nat → Obj) (imm : Led) (x : SX) (b : Nat) (hb : b ≤ 990000) (R : StRep w st ax lay σ imm x b) (p : Int) (hp : Pl p) : Ct0 w 1 56 [.ref (ax.acc (ix p))] z lay σ imm (fun r imm' => r = .bool false) := by
  unfold Ct0
  k_fill
  intro V lw dp un gd cn cs a ccd cl outer A₀ base h₀ L m s mean mg mb news Q E B F X N T S hk hd hu hret
  refine wpAny_call ?_
  k_dflt ktr_enter
  k_steps
  (refine hret _ _ _ _ _ (by k_asm) (by k_asm) ?su (by assumption) ?_; (case su => tb_start))
  rfl

local macro_rules | `(tactic| walk_at "call ref") => `(tactic| k_call_by "0e" C_is_empty)

theorem ints_at {vs : List Value} {ns : List Int} (I : IntsAre vs ns) {i : Nat} {v : Value} (hv : vs[i]? = some v) : ∃ k t, v = .int k t ∧ i < vs.length := by
  have h1 := (List.getElem?_eq_some_iff.mp hv).1
  obtain ⟨t, ht⟩ := I.get i _ (List.getElem?_eq_getElem (by have := I.length; omega))
  exact ⟨_, _, Option.some.inj (hv.symm.trans ht), h1⟩
theorem C_end (w : World) (z : Nat) (st : Addr) (ax : Aux) (lay : Nat → Addr) (σ : Nat → Obj) (imm : Led) (x : SX) (b : Nat) (hb : b ≤ 980000) (R : StRep w st ax lay σ imm x b) : Ct w 8 322 [.ref st] z lay σ imm (fun r lay' σ' imm' => r = .none ∧ PostL w z st lay lay' σ σ' imm' x.ended b) := by
  unfold Ct
  k_fill
  intro V lw dp un gd cn cs a ccd cl outer A₀ base h₀ L m s mean mg mb news Q E B F X N T S hk hd hu hret
  refine wpAny_call ?_
  k_dflt ktr_enter
  refine wpAny_execs_cons ?_
  rename Fr _ _ _ _ => F9
  k_dflt refine For_invVF F9 (by exact rfl) (by exact rfl) ?_ (by intro _; rfl) (by passes_own)
  k_steps
  rename StRep _ _ _ _ _ _ _ _ => R9
  rename Sys _ _ _ _ _ => S9
  rename IntsAre _ (_ ++ _) => I9
  have hz := S9.le
  k_dflt refine iter_list_Z (by exact rfl) (by k_asm) (by k_asm) S9 (by ktr_rel) (fun m₀ i m' lay' σ' imm' => (∀ y, y ≠ Str.ofString "address" → m' y = m₀ y) ∧ (∀ j, j < z → lay' j = lay j ∧ σ' j = σ j) ∧ StRep w st ax lay' σ' imm' x b) ⟨fun _ _ => rfl, fun _ _ => ⟨rfl, rfl⟩, R9⟩ ?_ ?_ ?_
  · intro i m' lay' σ' imm' q o hJ
    exact ⟨hJ.1, fun j hj => by rw [upd_ne _ _ (by omega), upd_ne _ _ (by omega)]; exact hJ.2.1 j hj, hJ.2.2.more hz q o⟩
  · intro i v m₁ lay₁ σ₁ imm₁ news₁ h1 tk1 hv
    apply exV (ints_at I9 hv)
    intro nv tv _ U1 hJ F1 N1 S1 G hG
    have hl := hJ.2.1
    have R1 := hJ.2.2
    have F2 := fr_congr hJ.1 F1
    clear F1 S9 R9 hv hJ
    by_cases hp : Pl nv
    · k_steps
      rename StRep _ _ _ _ _ _ _ _ => R8
      refine hG _ _ ?_
      refine FStep.intro (by k_asm) (by k_asm) (by assumption) rfl rfl ?su ⟨fun y hy => if_neg hy, hl, R8⟩
      case su => tb_start
    · k_steps
      rename StRep _ _ _ _ _ _ _ _ => R8
      refine hG _ _ ?_
      refine FStep.intro (by k_asm) (by k_asm) (by assumption) rfl rfl ?su ⟨fun y hy => if_neg hy, hl, R8⟩
      case su => tb_start
  · intro m₁ lay₁ σ₁ imm₁ news₁ h1 tk1 U1 hJ F1 N1 S1
    have R1 := hJ.2.2
    have F2 := fr_congr2 hJ.1 F1
    have fr0 : Frame z lay lay₁ σ σ₁ := fun i _ hi => hJ.2.1 i hi
    clear S9 R9 F1 hJ
    k_steps
    rename StRep _ _ _ _ _ _ _ _ => R8
    (refine hret _ _ _ _ _ _ _ (by k_asm) (by k_asm) ?su (by assumption) ?_; (case su => tb_start))
    exact ⟨rfl, _, R8, by kwd_inv⟩

local macro_rules | `(tactic| walk_at "call ref") => `(tactic| k_call_by "2e" C_end)

theorem C_begin (w : World) (z : Nat) (st : Addr) (ax : Aux) (lay : Nat → Addr) (σ : Nat → Obj) (imm : Led) (x : SX) (b : Nat) (hb : b ≤ 980000) (R : StRep w st ax lay σ imm x b) : Ct w 10 315 [.ref st] z lay σ imm (fun r lay' σ' imm' => r = .none ∧ PostL w z st lay lay' σ σ' imm' { x.ended with c := { x.ended.c with rf := 0 } } b) := by
  unfold Ct
  k_fill
  intro V lw dp un gd cn cs a ccd cl outer A₀ base h₀ L m s mean mg mb news Q E B F X N T S hk hd hu hret
  refine wpAny_call ?_
  k_dflt ktr_enter
  k_steps
  rename StRep _ _ _ _ _ _ _ _ => R8
  (refine hret _ _ _ _ _ _ _ (by k_asm) (by k_asm) ?su (by assumption) ?_; (case su => tb_start))
  exact ⟨rfl, _, R8, by kwd_inv⟩

/-! the law's own book and feed -/
inductive Item where
  | p (p : Int)
  | s (p k : Int)
def Item.same : Item → Item → Bool
  | .p a, .p b => a == b
  | .s a b, .s c d => a == c && b == d
  | _, _ => false
def has (l : List Item) (i : Item) : Bool := l.any (·.same i)
structure Mk where
  n : Nat
  warm : List Item
  cur : Int → Int → Option Int
  rf : Int
structure BX where
  warm : List Item
  cur : Int → Int → Option Int
  bef : Int → Int → Option Int
  rf : Int
  marks : List Mk
def All2 {α : Type} (R : Value → α → Prop) (vs : List Value) (xs : List α) : Prop := vs.length = xs.length ∧ ∀ (i : Nat) v x, vs[i]? = some v → xs[i]? = some x → R v x
theorem All2.nil {α : Type} {R : Value → α → Prop} : All2 R [] [] := ⟨rfl, fun i v x h => by simp at h⟩
theorem All2.mono {α : Type} {R R' : Value → α → Prop} {vs : List Value} {xs : List α} (h : All2 R vs xs) (hr : ∀ v x, R v x → R' v x) : All2 R' vs xs := ⟨h.1, fun i v x a b => hr _ _ (h.2 i v x a b)⟩
theorem All2.snoc {α : Type} {R : Value → α → Prop} {vs : List Value} {xs : List α} {v : Value} {x : α} (h : All2 R vs xs) (hr : R v x) : All2 R (vs ++ [v]) (xs ++ [x]) := by
  refine ⟨by simp [h.1], fun i u y a b => ?_⟩
  by_cases hi : i < vs.length
  · rw [List.getElem?_append_left hi] at a
    rw [List.getElem?_append_left (by have := h.1; omega)] at b
    exact h.2 i u y a b
  · have e1 := h.1
    rw [List.getElem?_append_right (by omega)] at a b
    rw [← e1] at b
    cases q : i - vs.length with
    | zero => rw [q] at a b; simp at a b; rw [← a, ← b]; exact hr
    | succ n => rw [q] at a; simp at a
theorem All2.take {α : Type} {R : Value → α → Prop} {vs : List Value} {xs : List α} (h : All2 R vs xs) (n : Nat) : All2 R (vs.take n) (xs.take n) := by
  refine ⟨by simp [h.1], fun i v x a b => ?_⟩
  rw [List.getElem?_take] at a b
  split at a
  · rename_i hi; rw [if_pos hi] at b; exact h.2 i v x a b
  · cases a
def ItemIs (imm : Led) (v : Value) : Item → Prop
  | .p p => ∃ t, v = .int p t
  | .s p k => ∃ a t u, v = .ref a ∧ (a, tupO [.int p t, .int k u]) ∈ imm
theorem ItemIs.mono {imm imm' : Led} {v : Value} {i : Item} (h : ItemIs imm v i) (hs : ∀ q ∈ imm, q ∈ imm') : ItemIs imm' v i := by
  cases i with
  | p p => exact h
  | s p k => obtain ⟨a, t, u, e, m⟩ := h; exact ⟨a, t, u, e, hs _ m⟩
def Sl (k : Int) : Prop := k = 0 ∨ k = 9 ∨ k = 2 ^ 256 - 1
def Ky (ks : List Int) : Prop := ∃ p k, ks = [p, k] ∧ Pl p ∧ Sl k
/-- a dict of words -/
def Wd (w : World) (imm : Led) (o : Obj) (cur : Int → Int → Option Int) (b : Nat) : Prop := ∃ f, TupD pr w imm o f b ∧ (∀ p k, IsO (f [p, k]) (cur p k)) ∧ ∀ ks, (f ks).isSome = true → Ky ks
theorem Wd.mono {w : World} {imm imm' : Led} {o : Obj} {cur : Int → Int → Option Int} {b b' : Nat} (h : Wd w imm o cur b) (hs : ∀ q ∈ imm, q ∈ imm') (hb : b ≤ b') : Wd w imm' o cur b' :=
  by obtain ⟨f, h1, h2⟩ := h; exact ⟨f, h1.mono hs hb, h2⟩
/-- a mark: (n, the warm ones, the words, the refund) -/
def MkIs (w : World) (imm : Led) (b : Nat) (v : Value) (k : Mk) : Prop :=
  ∃ a tn wl wd tr wvs wn o, v = .ref a ∧ (a, tupO [.int k.n tn, .ref wl, .ref wd, .int k.rf tr]) ∈ imm ∧ (wl, listOf (List.toArray wvs) wn) ∈ imm ∧ All2 (ItemIs imm) wvs k.warm ∧ wvs.length ≤ b ∧
    (wd, o) ∈ imm ∧ (wd == sysModules) = false ∧ Wd w imm o k.cur b
theorem MkIs.mono {w : World} {imm imm' : Led} {b b' : Nat} {v : Value} {k : Mk} (h : MkIs w imm b v k) (hs : ∀ q ∈ imm, q ∈ imm') (hb : b ≤ b') : MkIs w imm' b' v k := by
  obtain ⟨a, tn, wl, wd, tr, wvs, wn, o, h1, h2, h3, h4, h5, h6, h7, h8⟩ := h
  exact ⟨a, tn, wl, wd, tr, wvs, wn, o, h1, hs _ h2, hs _ h3, h4.mono fun _ _ x => x.mono hs, Nat.le_trans h5 hb, hs _ h6, h7, h8.mono hs hb⟩
structure Bux where
  bd : Addr
  bdo : Obj
  wvs : List Value
  wn : Nat
  mvs : List Value
  mn : Nat
/-- the words of the book, and its first key -/
structure BRep0 (w : World) (bk : Addr) (lay : Nat → Addr) (σ : Nat → Obj) (imm : Led) (cur : Int → Int → Option Int) (b : Nat) : Prop where
  bk : lay iBk = bk
  wd : Wd w imm (σ iWd) cur b
  words : ∃ f, StrD pr w (σ iBk) f b ∧ f (Str.ofString "words") = some (.ref (lay iWd))
structure BRep (w : World) (bk : Addr) (bx : Bux) (lay : Nat → Addr) (σ : Nat → Obj) (imm : Led) (y : BX) (b : Nat) : Prop where
  bk : lay iBk = bk
  wd : Wd w imm (σ iWd) y.cur b
  keys : ∃ f t, StrD pr w (σ iBk) f b ∧ f (Str.ofString "words") = some (.ref (lay iWd)) ∧ f (Str.ofString "warm") = some (.ref (lay iWl)) ∧ f (Str.ofString "before") = some (.ref bx.bd) ∧ f (Str.ofString "marks") = some (.ref (lay iMl)) ∧
    f (Str.ofString "refund") = some (.int y.rf t)
  wl : σ iWl = listOf bx.wvs.toArray bx.wn
  items : All2 (ItemIs imm) bx.wvs y.warm
  wlen : bx.wvs.length ≤ b
  bd : (bx.bd, bx.bdo) ∈ imm
  bdl : (bx.bd == sysModules) = false
  bef : Wd w imm bx.bdo y.bef b
  ml : σ iMl = listOf bx.mvs.toArray bx.mn
  marks : All2 (MkIs w imm b) bx.mvs y.marks
  mlen : bx.mvs.length ≤ b
theorem BRep.zero {w : World} {bk : Addr} {bx : Bux} {lay : Nat → Addr} {σ : Nat → Obj} {imm : Led} {y : BX} {b : Nat} (B : BRep w bk bx lay σ imm y b) : BRep0 w bk lay σ imm y.cur b :=
  ⟨B.bk, B.wd, let ⟨f, _, h1, h2, _⟩ := B.keys; ⟨f, h1, h2⟩⟩
structure Fux where
  cl : Addr
  cvs : List Value
  cn : Nat
structure FRep (w : World) (fd : Addr) (fx : Fux) (lay : Nat → Addr) (σ : Nat → Obj) (imm : Led) (cells : List Int) (b : Nat) : Prop where
  fd : lay iFd = fd
  feed : ∃ f t, ∃ at_ : Nat, StrD pr w (σ iFd) f 10 ∧ f (Str.ofString "cells") = some (.ref fx.cl) ∧ f (Str.ofString "at") = some (.int at_ t) ∧ at_ ≤ b
  cl : (fx.cl, listOf fx.cvs.toArray fx.cn) ∈ imm
  inums : IntsAre fx.cvs cells
  clen : cells.length ≤ 63

section
variable {w : World} {A : Around} {E : Value → Shared → Prop} {s : Shared} {h₀ : Heap} {L : Addr} {m : Str → Option Value} {z : Nat} {lay lay' : Nat → Addr} {σ σ' : Nat → Obj} {imm imm' news news' : Led} {st fd bk : Addr} {ax : Aux} {bx : Bux} {fx : Fux} {x : SX} {y : BX} {cells : List Int} {b b' : Nat} {p k : Int} {t u : Tok} {tp : Addr} {cur : Int → Int → Option Int}
/-- the book's part of the frame -/
theorem BRep.mono (B : BRep w bk bx lay σ imm y b) (hs : ∀ q ∈ imm, q ∈ imm') (hb : b ≤ b') : BRep w bk bx lay σ imm' y b' :=
  ⟨B.bk, B.wd.mono hs hb, (by obtain ⟨f, t, h1, h2⟩ := B.keys; exact ⟨f, t, h1.mono hb, h2⟩), B.wl, B.items.mono fun _ _ h => h.mono hs, Nat.le_trans B.wlen hb, hs _ B.bd, B.bdl, B.bef.mono hs hb, B.ml, B.marks.mono fun _ _ h => h.mono hs hb, Nat.le_trans B.mlen hb⟩
theorem BRep0.mono (B : BRep0 w bk lay σ imm cur b) (hs : ∀ q ∈ imm, q ∈ imm') (hb : b ≤ b') : BRep0 w bk lay σ imm' cur b' :=
  ⟨B.bk, B.wd.mono hs hb, (by obtain ⟨f, h1, h2⟩ := B.words; exact ⟨f, h1.mono hb, h2⟩)⟩
theorem FRep.mono (B : FRep w fd fx lay σ imm cells b) (hs : ∀ q ∈ imm, q ∈ imm') (hb : b ≤ b') : FRep w fd fx lay σ imm' cells b' :=
  ⟨B.fd, (by obtain ⟨f, t, a, h1, h2, h3, h4⟩ := B.feed; exact ⟨f, t, a, h1, h2, h3, Nat.le_trans h4 hb⟩), hs _ B.cl, B.inums, B.clen⟩
theorem BRep.same (B : BRep w bk bx lay σ imm y b) (h : ∀ i, 10 ≤ i → i < 14 → lay' i = lay i ∧ σ' i = σ i) : BRep w bk bx lay' σ' imm y b := by
  have e : ∀ i, 10 ≤ i → i < 14 → lay' i = lay i := fun i a c => (h i a c).1
  have f : ∀ i, 10 ≤ i → i < 14 → σ' i = σ i := fun i a c => (h i a c).2
  refine ⟨by rw [e iBk (by decide) (by decide)]; exact B.bk, by rw [f iWd (by decide) (by decide)]; exact B.wd, by rw [f iBk (by decide) (by decide), e iWd (by decide) (by decide), e iWl (by decide) (by decide), e iMl (by decide) (by decide)]; exact B.keys,
    by rw [f iWl (by decide) (by decide)]; exact B.wl, B.items, B.wlen, B.bd, B.bdl, B.bef, by rw [f iMl (by decide) (by decide)]; exact B.ml, B.marks, B.mlen⟩
theorem BRep0.same (B : BRep0 w bk lay σ imm cur b) (h : ∀ i, 10 ≤ i → i < 14 → lay' i = lay i ∧ σ' i = σ i) : BRep0 w bk lay' σ' imm cur b := by
  have e : ∀ i, 10 ≤ i → i < 14 → lay' i = lay i := fun i a c => (h i a c).1
  have f : ∀ i, 10 ≤ i → i < 14 → σ' i = σ i := fun i a c => (h i a c).2
  exact ⟨by rw [e iBk (by decide) (by decide)]; exact B.bk, by rw [f iWd (by decide) (by decide)]; exact B.wd, by rw [f iBk (by decide) (by decide), e iWd (by decide) (by decide)]; exact B.words⟩
theorem FRep.same (B : FRep w fd fx lay σ imm cells b) (h : lay' 3 = lay 3 ∧ σ' 3 = σ 3) : FRep w fd fx lay' σ' imm cells b :=
  ⟨by rw [show lay' iFd = lay iFd from h.1]; exact B.fd, by rw [show σ' iFd = σ iFd from h.2]; exact B.feed, B.cl, B.inums, B.clen⟩
theorem BRep.to (B : BRep w bk bx lay σ imm y b) (S : Sys z lay' σ' imm' news') (fr : Frame z lay lay' σ σ') (su : Suf imm imm') : BRep w bk bx lay' σ' imm' y b :=
  (B.mono su.sub (Nat.le_refl _)).same fun i h1 h2 => fr i (.inr h1) (S.up h2)
theorem BRep0.to (B : BRep0 w bk lay σ imm cur b) (S : Sys z lay' σ' imm' news') (fr : Frame z lay lay' σ σ') (su : Suf imm imm') : BRep0 w bk lay' σ' imm' cur b :=
  (B.mono su.sub (Nat.le_refl _)).same fun i h1 h2 => fr i (.inr h1) (S.up h2)
theorem FRep.to (B : FRep w fd fx lay σ imm cells b) (S : Sys z lay' σ' imm' news') (fr : Frame z lay lay' σ σ') (su : Suf imm imm') : FRep w fd fx lay' σ' imm' cells b :=
  (B.mono su.sub (Nat.le_refl _)).same (fr 3 (.inl rfl) (S.up (by decide)))
/-- the state's part: places of the book and the feed turned -/
theorem StRep.same' (R : StRep w st ax lay σ imm x b) (h : ∀ i, i < 10 → i ≠ 3 → lay' i = lay i ∧ σ' i = σ i) : StRep w st ax lay' σ' imm x b := by
  have e : ∀ i, i < 10 → i ≠ 3 → lay' i = lay i := fun i a c => (h i a c).1
  have f : ∀ i, i < 10 → i ≠ 3 → σ' i = σ i := fun i a c => (h i a c).2
  refine ⟨by rw [e iSd (by decide) (by decide)]; exact R.st, by rw [f iSd (by decide) (by decide), e iJl (by decide) (by decide), e iTd (by decide) (by decide), e iWo (by decide) (by decide), e iWs (by decide) (by decide), e iOg (by decide) (by decide)]; exact R.sd, R.ac, R.acl, R.acd, R.acc,
    fun i hi => by rw [e i (by omega) (by omega)]; exact R.accd i hi, R.ds, R.dsl, R.dsd, fun p hp => by rw [f _ (by have := ix_lt p; omega) (by have := ix_lt p; omega)]; exact R.stor p hp, by rw [f iJl (by decide) (by decide)]; exact R.jl, R.jr, R.jb,
    by rw [f iTd (by decide) (by decide)]; exact R.td, R.tdp, by rw [f iWo (by decide) (by decide)]; exact R.wo, by rw [f iWs (by decide) (by decide)]; exact R.ws, by rw [f iOg (by decide) (by decide)]; exact R.og⟩
theorem StRep.updB (R : StRep w st ax lay σ imm x b) {i : Nat} (hi : i = 3 ∨ 10 ≤ i) (o : Obj) : StRep w st ax lay (upd σ i o) imm x b := R.same' fun j h1 h2 => ⟨rfl, upd_ne _ _ (by omega)⟩
end

section
variable {w : World} {A : Around} {E : Value → Shared → Prop} {s : Shared} {h₀ : Heap} {L : Addr} {m : Str → Option Value} {z : Nat} {lay : Nat → Addr} {σ : Nat → Obj} {imm news : Led} {st fd bk : Addr} {ax : Aux} {bx : Bux} {fx : Fux} {x : SX} {y : BX} {cells : List Int} {b : Nat} {p k : Int} {t u : Tok} {tp : Addr} {cur : Int → Int → Option Int}
def Item.data : Item → PyData
  | .p p => .int p
  | .s p k => .tuple [.int p, .int k]
theorem item_reads {h : Heap} {v : Value} {i : Item} (hh : ∀ q ∈ imm, h.get? q.1 = some q.2) (e : ItemIs imm v i) : ∃ as, Reads h v i.data as := by
  cases i with
  | p p => obtain ⟨t, rfl⟩ := e; exact ⟨_, .int p t⟩
  | s p k =>
    obtain ⟨a, t, u, rfl, hm⟩ := e
    exact ⟨_, .tuple (hh _ hm) rfl rfl (.cons (.int p t) (.cons (.int k u) .nil))⟩
theorem items_reads {h : Heap} (hh : ∀ q ∈ imm, h.get? q.1 = some q.2) : ∀ {vs : List Value} {is : List Item}, All2 (ItemIs imm) vs is → ∃ as, ReadsAll h vs (is.map Item.data) as := by
  intro vs
  induction vs with
  | nil => intro is e; have := e.1; cases is with | nil => exact ⟨_, .nil⟩ | cons _ _ => simp at this
  | cons v r ih =>
    intro is e
    cases is with
    | nil => have := e.1; simp at this
    | cons i q =>
      obtain ⟨as, ha⟩ := item_reads hh (e.2 0 v i rfl rfl)
      obtain ⟨bs, hb⟩ := ih (is := q) ⟨by have := e.1; simpa using this, fun j v' x' a c => e.2 (j + 1) v' x' (by simpa using a) (by simpa using c)⟩
      exact ⟨_, .cons ha hb⟩
theorem items_lay : ∀ is : List Item, PyData.canLayAll0 (is.map Item.data) = true := by
  intro is
  induction is with
  | nil => rfl
  | cons i r ih => cases i <;> simp [PyData.canLayAll0, PyData.canLay0, Item.data, ih]
theorem items_eqv (i : Item) : ∀ is : List Item, (is.map Item.data).any (fun y => PyData.eqv y i.data) = has is i := by
  intro is
  induction is with
  | nil => rfl
  | cons j r ih =>
    rw [List.map_cons, List.any_cons, ih]
    unfold has
    rw [List.any_cons]
    congr 1
    cases i <;> cases j <;> simp [Item.data, PyData.eqv, PyData.eqvAll, Item.same]
theorem reads_list (N : News h₀ L s.heap news) (S : Sys z lay σ imm news) (B : BRep w bk bx lay σ imm y b) : ∃ as, Reads s.heap (.ref (lay iWl)) (.list (y.warm.map Item.data)) as := by
  obtain ⟨as, ha⟩ := items_reads (h := s.heap) (fun q hq => N.get (S.sub q hq)) B.items
  exact ⟨_, .list (N.get (S.mem_eq (i := iWl) (by decide) B.wl)) rfl rfl (by simpa using ha)⟩
theorem r_in_wl_int {Q : Value → Shared → Prop} (hu : A.units + 5 < cLine) (N : News h₀ L s.heap news) (S : Sys z lay σ imm news) (B : BRep w bk bx lay σ imm y b)
    (h : Q (.bool (has y.warm (.p p))) s) : wpAny (model pr w) A (compareOp .In (.int p t) (.ref (lay iWl))) Q E s := by
  obtain ⟨as, ha⟩ := reads_list N S B
  refine SeqAt.in_list_reads ha (.int p t) (items_lay _) rfl ?_ (by rw [show PyData.int p = (Item.p p).data from rfl, items_eqv]; exact h)
  have := Nat.min_le_right (PyData.depthAll (y.warm.map Item.data)) (PyData.depth (.int p)); simp only [PyData.depth] at this ⊢; omega
theorem r_in_wl_tup {Q : Value → Shared → Prop} (hu : A.units + 5 < cLine) (N : News h₀ L s.heap news) (S : Sys z lay σ imm news) (B : BRep w bk bx lay σ imm y b) (ht : (tp, tupO [.int p t, .int k u]) ∈ imm)
    (h : Q (.bool (has y.warm (.s p k))) s) : wpAny (model pr w) A (compareOp .In (.ref tp) (.ref (lay iWl))) Q E s := by
  obtain ⟨as, ha⟩ := reads_list N S B
  have hr : Reads s.heap (.ref tp) (Item.s p k).data _ := .tuple (N.get (S.sub _ ht)) rfl rfl (.cons (.int p t) (.cons (.int k u) .nil))
  refine SeqAt.in_list_reads ha hr (items_lay _) rfl ?_ (by rw [items_eqv]; exact h)
  have := Nat.min_le_right (PyData.depthAll (y.warm.map Item.data)) (PyData.depth (Item.s p k).data); simp [Item.data, PyData.depth, PyData.depthAll] at this ⊢; omega
theorem r_notin_wl_tup {Q : Value → Shared → Prop} (hu : A.units + 5 < cLine) (N : News h₀ L s.heap news) (S : Sys z lay σ imm news) (B : BRep w bk bx lay σ imm y b) (ht : (tp, tupO [.int p t, .int k u]) ∈ imm)
    (h : Q (.bool (!has y.warm (.s p k))) s) : wpAny (model pr w) A (compareOp .NotIn (.ref tp) (.ref (lay iWl))) Q E s := by
  obtain ⟨as, ha⟩ := reads_list N S B
  have hr : Reads s.heap (.ref tp) (Item.s p k).data _ := .tuple (N.get (S.sub _ ht)) rfl rfl (.cons (.int p t) (.cons (.int k u) .nil))
  refine SeqAt.notIn_list_reads ha hr (items_lay _) rfl ?_ (by rw [items_eqv]; exact h)
  have := Nat.min_le_right (PyData.depthAll (y.warm.map Item.data)) (PyData.depth (Item.s p k).data); simp [Item.data, PyData.depth, PyData.depthAll] at this ⊢; omega
theorem r_wl_push {v : Value} {i : Item} {Q : Value → Shared → Prop} (F : Fr h₀ L s.heap m) (N : News h₀ L s.heap news) (S : Sys z lay σ imm news) (B : BRep w bk bx lay σ imm y b) (hv : ItemIs imm v i) (hb : b ≤ 999000)
    (h : ∀ h' o' news', Fr h₀ L h' m → News h₀ L h' news' → Sys z lay (upd σ iWl o') imm news' → BRep w bk { bx with wvs := bx.wvs ++ [v], wn := bx.wn + 1 } lay (upd σ iWl o') imm { y with warm := y.warm ++ [i] } (b + 1) → Q .none { s with heap := h' }) :
    wpAny (model pr w) A (call (.builtin "list.append") [.ref (lay iWl), v]) Q E s :=
  append_Z (by decide) F N S B.wl (by have := B.wlen; rw [List.size_toArray]; omega) fun h' n' F' N' S' => h h' _ n' F' N' S'
    (have B' := B.mono (b' := b + 1) (fun _ q => q) (Nat.le_succ b); ⟨B'.bk, B'.wd, B'.keys, by rw [upd_self]; simp, B'.items.snoc hv, by simp; exact B.wlen, B'.bd, B'.bdl, B'.bef, B'.ml, B'.marks, B'.mlen⟩)
theorem r_getMethod_wl {name : Str} {id : String} {pl : Sem Bool} {Q : Value × List Value → Shared → Prop} (slot : Slot "list" name id) (hty : typeOf (.builtin id) = pure (.type "method_descriptor")) (N : News h₀ L s.heap news) (S : Sys z lay σ imm news) (B : BRep w bk bx lay σ imm y b)
    (h : Q (.builtin id, [.ref (lay iWl)]) s) : wpAny (model pr w) A (getMethod (.ref (lay iWl)) name pl) Q E s := list_getMethod slot hty N (S.mem_eq (by decide) B.wl) h
theorem r_getMethod_ml {name : Str} {id : String} {pl : Sem Bool} {Q : Value × List Value → Shared → Prop} (slot : Slot "list" name id) (hty : typeOf (.builtin id) = pure (.type "method_descriptor")) (N : News h₀ L s.heap news) (S : Sys z lay σ imm news) (B : BRep w bk bx lay σ imm y b)
    (h : Q (.builtin id, [.ref (lay iMl)]) s) : wpAny (model pr w) A (getMethod (.ref (lay iMl)) name pl) Q E s := list_getMethod slot hty N (S.mem_eq (by decide) B.ml) h
/-! the book's keys -/
section keys
variable {value slice : Expr} {Q : Value → Shared → Prop}
theorem bk_key {f : Str → Option Value} {key : Str} {v : Value} (N : News h₀ L s.heap news) (S : Sys z lay σ imm news) (eb : lay iBk = bk) (D : StrD pr w (σ iBk) f b) (hv : f key = some v) (h : Q v { s with toks := s.toks + 1 })
    (hs : subscripted slice false (.ref bk) (.str key t) = operate [.ref bk, .str key t] (getItem (.ref bk) (.str key t)) := by with_unfolding_all rfl) : wpAny (model pr w) A (subscriptTail value slice (.ref bk) (.str key t)) Q E s := by
  subst eb
  exact key_tail N (S.mem iBk (by decide)) D (strKind_is pr w key t) hv h hs
theorem r_bk_words (N : News h₀ L s.heap news) (S : Sys z lay σ imm news) (B : BRep w bk bx lay σ imm y b) (h : Q (.ref (lay iWd)) { s with toks := s.toks + 1 })
    (hs : subscripted slice false (.ref bk) (.str (Str.ofString "words") t) = operate [.ref bk, .str (Str.ofString "words") t] (getItem (.ref bk) (.str (Str.ofString "words") t)) := by with_unfolding_all rfl) : wpAny (model pr w) A (subscriptTail value slice (.ref bk) (.str (Str.ofString "words") t)) Q E s :=
  by obtain ⟨_, _, h1, h2, _⟩ := B.keys; exact bk_key N S B.bk h1 h2 h hs
theorem r_bk_words0 (N : News h₀ L s.heap news) (S : Sys z lay σ imm news) (B : BRep0 w bk lay σ imm cur b) (h : Q (.ref (lay iWd)) { s with toks := s.toks + 1 })
    (hs : subscripted slice false (.ref bk) (.str (Str.ofString "words") t) = operate [.ref bk, .str (Str.ofString "words") t] (getItem (.ref bk) (.str (Str.ofString "words") t)) := by with_unfolding_all rfl) : wpAny (model pr w) A (subscriptTail value slice (.ref bk) (.str (Str.ofString "words") t)) Q E s :=
  by obtain ⟨_, h1, h2⟩ := B.words; exact bk_key N S B.bk h1 h2 h hs
theorem r_bk_warm (N : News h₀ L s.heap news) (S : Sys z lay σ imm news) (B : BRep w bk bx lay σ imm y b) (h : Q (.ref (lay iWl)) { s with toks := s.toks + 1 })
    (hs : subscripted slice false (.ref bk) (.str (Str.ofString "warm") t) = operate [.ref bk, .str (Str.ofString "warm") t] (getItem (.ref bk) (.str (Str.ofString "warm") t)) := by with_unfolding_all rfl) : wpAny (model pr w) A (subscriptTail value slice (.ref bk) (.str (Str.ofString "warm") t)) Q E s :=
  by obtain ⟨_, _, h1, _, h2, _⟩ := B.keys; exact bk_key N S B.bk h1 h2 h hs
theorem r_bk_before (N : News h₀ L s.heap news) (S : Sys z lay σ imm news) (B : BRep w bk bx lay σ imm y b) (h : Q (.ref bx.bd) { s with toks := s.toks + 1 })
    (hs : subscripted slice false (.ref bk) (.str (Str.ofString "before") t) = operate [.ref bk, .str (Str.ofString "before") t] (getItem (.ref bk) (.str (Str.ofString "before") t)) := by with_unfolding_all rfl) : wpAny (model pr w) A (subscriptTail value slice (.ref bk) (.str (Str.ofString "before") t)) Q E s :=
  by obtain ⟨_, _, h1, _, _, h2, _⟩ := B.keys; exact bk_key N S B.bk h1 h2 h hs
theorem r_bk_marks (N : News h₀ L s.heap news) (S : Sys z lay σ imm news) (B : BRep w bk bx lay σ imm y b) (h : Q (.ref (lay iMl)) { s with toks := s.toks + 1 })
    (hs : subscripted slice false (.ref bk) (.str (Str.ofString "marks") t) = operate [.ref bk, .str (Str.ofString "marks") t] (getItem (.ref bk) (.str (Str.ofString "marks") t)) := by with_unfolding_all rfl) : wpAny (model pr w) A (subscriptTail value slice (.ref bk) (.str (Str.ofString "marks") t)) Q E s :=
  by obtain ⟨_, _, h1, _, _, _, h2, _⟩ := B.keys; exact bk_key N S B.bk h1 h2 h hs
theorem r_bk_refund (N : News h₀ L s.heap news) (S : Sys z lay σ imm news) (B : BRep w bk bx lay σ imm y b) (h : ∀ t', Q (.int y.rf t') { s with toks := s.toks + 1 })
    (hs : subscripted slice false (.ref bk) (.str (Str.ofString "refund") t) = operate [.ref bk, .str (Str.ofString "refund") t] (getItem (.ref bk) (.str (Str.ofString "refund") t)) := by with_unfolding_all rfl) : wpAny (model pr w) A (subscriptTail value slice (.ref bk) (.str (Str.ofString "refund") t)) Q E s :=
  by obtain ⟨_, t', h1, _, _, _, _, h2⟩ := B.keys; exact bk_key N S B.bk h1 h2 (h t') hs
end keys
/-! words -/
theorem IsO.getD {f : Option Value} {v : Option Int} (h : IsO f v) (d : Int) (t : Tok) : ∃ t', f.getD (.int d t) = .int (v.getD d) t' := by
  rcases h with ⟨rfl, rfl⟩ | ⟨i, t', rfl, rfl⟩
  · exact ⟨t, rfl⟩
  · exact ⟨t', rfl⟩
theorem r_get_wd {d : Int} {v : Tok} {Q : Value → Shared → Prop} (hu : A.units + 1 < cLine) (N : News h₀ L s.heap news) (S : Sys z lay σ imm news) (B : BRep w bk bx lay σ imm y b) (ht : (tp, tupO [.int p t, .int k u]) ∈ imm)
    (h : ∀ t', Q (.int ((y.cur p k).getD d) t') { s with toks := s.toks + 3 }) : wpAny (model pr w) A (call (.builtin "dict.get") [.ref (lay iWd), .ref tp, .int d v]) Q E s := by
  obtain ⟨f, T, e, _⟩ := B.wd
  refine tup_get2 hu N S.sub (S.mem iWd (by decide)) (S.lo iWd (by decide)) T (S.sub _ ht) (pairKey _ _ _ _ _ _) ?_
  obtain ⟨t', e'⟩ := (e p k).getD d v
  rw [e']; exact h t'
theorem r_getMethod_wd {pl : Sem Bool} {Q : Value × List Value → Shared → Prop} (N : News h₀ L s.heap news) (S : Sys z lay σ imm news) (B : BRep w bk bx lay σ imm y b)
    (h : Q (.builtin "dict.get", [.ref (lay iWd)]) s) : wpAny (model pr w) A (getMethod (.ref (lay iWd)) "get" pl) Q E s :=
  by obtain ⟨_, T, _⟩ := B.wd; exact tup_getMethod N S.sub (S.mem iWd (by decide)) T h
theorem r_get_bd {d : Int} {v : Tok} {Q : Value → Shared → Prop} (hu : A.units + 1 < cLine) (N : News h₀ L s.heap news) (S : Sys z lay σ imm news) (B : BRep w bk bx lay σ imm y b) (ht : (tp, tupO [.int p t, .int k u]) ∈ imm)
    (h : ∀ t', Q (.int ((y.bef p k).getD d) t') { s with toks := s.toks + 3 }) : wpAny (model pr w) A (call (.builtin "dict.get") [.ref bx.bd, .ref tp, .int d v]) Q E s := by
  obtain ⟨f, T, e, _⟩ := B.bef
  refine tup_get2 hu N S.sub (S.sub _ B.bd) B.bdl T (S.sub _ ht) (pairKey _ _ _ _ _ _) ?_
  obtain ⟨t', e'⟩ := (e p k).getD d v
  rw [e']; exact h t'
theorem r_getMethod_bd {pl : Sem Bool} {Q : Value × List Value → Shared → Prop} (N : News h₀ L s.heap news) (S : Sys z lay σ imm news) (B : BRep w bk bx lay σ imm y b)
    (h : Q (.builtin "dict.get", [.ref bx.bd]) s) : wpAny (model pr w) A (getMethod (.ref bx.bd) "get" pl) Q E s :=
  by obtain ⟨_, T, _⟩ := B.bef; exact tup_getMethod N S.sub (S.sub _ B.bd) T h
theorem Ky.put {f : List Int → Option Value} (h : ∀ ks, (f ks).isSome = true → Ky ks) {p k : Int} (hp : Pl p) (hk : Sl k) (v : Option Value) : ∀ ks, ((fun x => if x = [p, k] then v else f x) ks).isSome = true → Ky ks := fun ks e => by
  by_cases a : ks = [p, k]
  · exact ⟨p, k, a, hp, hk⟩
  · simp only [if_neg a] at e; exact h ks e
theorem r_set_wd {v : Int} {tv : Tok} {Q : Unit → Shared → Prop} (hu : A.units + 1 < cLine) (F : Fr h₀ L s.heap m) (N : News h₀ L s.heap news) (S : Sys z lay σ imm news) (B : BRep w bk bx lay σ imm y b) (hp : Pl p) (hk : Sl k) (ht : (tp, tupO [.int p t, .int k u]) ∈ imm) (hb : b ≤ 999000)
    (h : ∀ h' o' news', Fr h₀ L h' m → News h₀ L h' news' → Sys z lay (upd σ iWd o') imm news' → BRep w bk bx lay (upd σ iWd o') imm { y with cur := set2 y.cur p k (some v) } (b + 1) → Q () { s with heap := h', toks := s.toks + 3 }) :
    wpAny (model pr w) A (setItem (.ref (lay iWd)) (.ref tp) (.int v tv)) Q E s := by
  obtain ⟨f, T, e, e2⟩ := B.wd
  exact tup_setZ (by decide) hu F N S T ht (pairKey _ _ _ _ _ _) (by omega) fun h' o' n' F' N' S' T' => h h' o' n' F' N' S'
    (have B' := B.mono (b' := b + 1) (fun _ q => q) (Nat.le_succ b); ⟨B'.bk, ⟨_, T', IsO.put e p k v tv, Ky.put e2 hp hk _⟩, B'.keys, B'.wl, B'.items, B'.wlen, B'.bd, B'.bdl, B'.bef, B'.ml, B'.marks, B'.mlen⟩)
theorem r_set_wd0 {v : Int} {tv : Tok} {Q : Unit → Shared → Prop} (hu : A.units + 1 < cLine) (F : Fr h₀ L s.heap m) (N : News h₀ L s.heap news) (S : Sys z lay σ imm news) (B : BRep0 w bk lay σ imm cur b) (hp : Pl p) (hk : Sl k) (ht : (tp, tupO [.int p t, .int k u]) ∈ imm) (hb : b ≤ 999000)
    (h : ∀ h' o' news', Fr h₀ L h' m → News h₀ L h' news' → Sys z lay (upd σ iWd o') imm news' → BRep0 w bk lay (upd σ iWd o') imm (set2 cur p k (some v)) (b + 1) → Q () { s with heap := h', toks := s.toks + 3 }) :
    wpAny (model pr w) A (setItem (.ref (lay iWd)) (.ref tp) (.int v tv)) Q E s := by
  obtain ⟨f, T, e, e2⟩ := B.wd
  exact tup_setZ (by decide) hu F N S T ht (pairKey _ _ _ _ _ _) (by omega) fun h' o' n' F' N' S' T' => h h' o' n' F' N' S'
    (have B' := B.mono (b' := b + 1) (fun _ q => q) (Nat.le_succ b); ⟨B'.bk, ⟨_, T', IsO.put e p k v tv, Ky.put e2 hp hk _⟩, B'.words⟩)
/-! a str key that stands there: no entry more -/
theorem stored_same_length {K : Type} [DecidableEq K] (kvs : List (K × Value)) (k : K) (v : Value) (h : (valueAt kvs k).isSome = true) : (stored kvs k v).length = kvs.length := by
  unfold stored
  split
  · simp
  · rename_i hn
    unfold valueAt at h
    rw [Option.isSome_map, List.find?_isSome] at h
    obtain ⟨a, ha, hb⟩ := h
    exact absurd (List.any_eq_true.mpr ⟨a, ha, hb⟩) hn
theorem str_setZ {i c : Nat} {key : Str} {f : Str → Option Value} {v : Value} {Q : Unit → Shared → Prop} (hi : i < 14) (F : Fr h₀ L s.heap m) (N : News h₀ L s.heap news) (S : Sys z lay σ imm news) (T : StrD pr w (σ i) f c) (hk : (f key).isSome = true) (hb : c ≤ 999000)
    (h : ∀ h' o' news', Fr h₀ L h' m → News h₀ L h' news' → Sys z lay (upd σ i o') imm news' → StrD pr w o' (fun x => if x = key then some v else f x) c → Q () { s with heap := h', toks := s.toks + 1 }) :
    wpAny (model pr w) A (setItem (.ref (lay i)) (.str key t) v) Q E s := by
  obtain ⟨kvs, hD, e, l⟩ := T.dict (s := s) N (S.mem i hi)
  refine wpAny_setItem_pairs (hsz := by rw [sizeLine_eq]; omega) (strKind_is pr w key t) hD fun h' hm' hs => ?_
  obtain ⟨o', ho', hd'⟩ := Heap.dictOf_iff.mp hm'
  obtain ⟨F', N'⟩ := S.change (S.up hi) F N hs ho'
  exact h h' o' _ F' N' (S.write (S.up hi) o') ⟨_, hd', fun x => by rw [valueAt_stored, e], by rw [stored_same_length _ _ _ (by rw [e]; exact hk)]; exact l⟩
theorem r_set_brf {v : Int} {tv : Tok} {Q : Unit → Shared → Prop} (F : Fr h₀ L s.heap m) (N : News h₀ L s.heap news) (S : Sys z lay σ imm news) (B : BRep w bk bx lay σ imm y b) (hb : b ≤ 999000)
    (h : ∀ h' o' news', Fr h₀ L h' m → News h₀ L h' news' → Sys z lay (upd σ iBk o') imm news' → BRep w bk bx lay (upd σ iBk o') imm { y with rf := v } b → Q () { s with heap := h', toks := s.toks + 1 }) :
    wpAny (model pr w) A (setItem (.ref bk) (.str (Str.ofString "refund") t) (.int v tv)) Q E s := by
  obtain ⟨f, t', h1, h2, h3, h4, h5, h6⟩ := B.keys
  have eb := B.bk
  subst eb
  refine str_setZ (by decide) F N S h1 (by rw [h6]; rfl) hb fun h' o' n' F' N' S' T' => h h' o' n' F' N' S' ⟨rfl, B.wd, ⟨_, tv, T', ?_, ?_, ?_, ?_, ?_⟩, B.wl, B.items, B.wlen, B.bd, B.bdl, B.bef, B.ml, B.marks, B.mlen⟩
  · rw [if_neg (by decide)]; exact h2
  · rw [if_neg (by decide)]; exact h3
  · rw [if_neg (by decide)]; exact h4
  · rw [if_neg (by decide)]; exact h5
  · rw [if_pos rfl]
end

/-! the plain law -/
structure Agree (c : C) (warm : List Item) (cur : Int → Int → Option Int) (rf : Int) : Prop where
  wo : ∀ p, c.wo p = has warm (.p p)
  ws : ∀ p k, c.ws p k = has warm (.s p k)
  cur : ∀ p k, c.cur p k = (cur p k).getD 0
  rf : c.rf = rf
structure MkOk (og bef : Int → Int → Option Int) (c : C) (jr : List Row) (m : Mk) : Prop where
  n : jr.length = m.n
  ag : Agree c m.warm m.cur m.rf
  og : ∀ p k, og p k = none → c.cur p k = (bef p k).getD 0
inductive MarksOk (og bef : Int → Int → Option Int) : C → List Row → List Mk → Prop
  | nil (c : C) (jr : List Row) : MarksOk og bef c jr []
  | snoc {c c1 : C} {jr jr1 : List Row} {m : Mk} {ms : List Mk} : Trail c jr c1 jr1 → MkOk og bef c1 jr1 m → MarksOk og bef c1 jr1 ms → MarksOk og bef c jr (ms ++ [m])
structure Inv (x : SX) (y : BX) : Prop where
  ag : Agree x.c y.warm y.cur y.rf
  og : ∀ p k, (x.og p k).getD (x.c.cur p k) = (y.bef p k).getD 0
  marks : MarksOk x.og y.bef x.c x.jr y.marks

theorem Trail.trans {c c1 c2 : C} {jr jr1 jr2 : List Row} (h : Trail c jr c1 jr1) (k : Trail c1 jr1 c2 jr2) : Trail c jr c2 jr2 := by
  induction h with
  | refl => exact k
  | step a _ ih => exact .step a (ih k)
theorem MkOk.mono {og og' bef : Int → Int → Option Int} {c : C} {jr : List Row} {m : Mk} (h : MkOk og bef c jr m) (ho : ∀ p k, og' p k = none → og p k = none) : MkOk og' bef c jr m :=
  ⟨h.n, h.ag, fun p k e => h.og p k (ho p k e)⟩
theorem MarksOk.mono {og og' bef : Int → Int → Option Int} {c : C} {jr : List Row} {ms : List Mk} (h : MarksOk og bef c jr ms) (ho : ∀ p k, og' p k = none → og p k = none) : MarksOk og' bef c jr ms := by
  induction h with
  | nil => exact .nil _ _
  | snoc a b _ ih => exact .snoc a (b.mono ho) ih
theorem MarksOk.back {og bef : Int → Int → Option Int} {c c1 : C} {jr jr1 : List Row} {ms : List Mk} (h : MarksOk og bef c jr ms) (t : Trail c1 jr1 c jr) : MarksOk og bef c1 jr1 ms := by
  cases h with
  | nil => exact .nil _ _
  | snoc a b d => exact .snoc (t.trans a) b d
theorem MarksOk.pick {og bef : Int → Int → Option Int} {c : C} {jr : List Row} {ms : List Mk} (h : MarksOk og bef c jr ms) : ∀ (i : Nat) (m : Mk), ms[i]? = some m →
    ∃ c1 jr1, Trail c jr c1 jr1 ∧ MkOk og bef c1 jr1 m ∧ MarksOk og bef c1 jr1 (ms.take (i + 1)) := by
  induction h with
  | nil => intro i m e; simp at e
  | @snoc c c1 jr jr1 m1 ms a b d ih =>
    intro i m e
    by_cases hi : i < ms.length
    · rw [List.getElem?_append_left hi] at e
      obtain ⟨c2, jr2, t, k, r⟩ := ih i m e
      refine ⟨c2, jr2, a.trans t, k, ?_⟩
      rw [List.take_append_of_le_length (by omega)]
      exact r
    · rw [List.getElem?_append_right (by omega)] at e
      have hz : i - ms.length = 0 := by
        cases q : i - ms.length with
        | zero => rfl
        | succ j => rw [q] at e; simp at e
      rw [hz] at e
      simp at e
      subst e
      refine ⟨c1, jr1, a, b, ?_⟩
      rw [List.take_of_length_le (by simp; omega)]
      exact .snoc (.refl _ _) b d

theorem has_snoc (l : List Item) (i j : Item) : has (l ++ [i]) j = (has l j || i.same j) := by simp [has]
theorem set1_back {α : Type} (f : Int → α) (p : Int) (v : α) : set1 (set1 f p v) p (f p) = f := by
  funext q; simp only [set1]; split
  · rename_i h; rw [h]
  · rename_i h; rfl
theorem set2_back {α : Type} (f : Int → Int → α) (p k : Int) (v : α) : set2 (set2 f p k v) p k (f p k) = f := by
  funext q l; simp only [set2]; split
  · rename_i h; rw [h.1, h.2]
  · rfl
theorem Trail.one {c : C} {jr : List Row} {r : Row} {c' : C} (ok : c'.UndoOk r) (e : c'.undo r = c) : Trail c' (jr ++ [r]) c jr := .step ok (e ▸ .refl _ _)

theorem warm_trail (x : SX) (p : Int) : Trail (x.warm p).c (x.warm p).jr x.c x.jr := by
  unfold SX.warm
  split
  · exact .refl _ _
  · rename_i h
    refine Trail.one (by simp [C.UndoOk, set1]) ?_
    have e := set1_back x.c.wo p true
    rw [Bool.eq_false_iff.mpr h] at e
    simp only [C.undo, e]
theorem warmSlot_trail (x : SX) (p k : Int) : Trail (x.warmSlot p k).c (x.warmSlot p k).jr x.c x.jr := by
  unfold SX.warmSlot
  split
  · exact .refl _ _
  · rename_i h
    refine Trail.one (by simp [C.UndoOk, set2]) ?_
    have e := set2_back x.c.ws p k true
    rw [Bool.eq_false_iff.mpr h] at e
    simp only [C.undo, e]
theorem touch_trail (x : SX) (p : Int) : Trail (x.touch p).c (x.touch p).jr x.c x.jr := by
  unfold SX.touch
  split
  · exact .refl _ _
  · rename_i h
    refine Trail.one (by simp [C.UndoOk, set1]) ?_
    have e := set1_back x.c.tch p true
    rw [Bool.eq_false_iff.mpr h] at e
    simp only [C.undo, e]
theorem touch_cur (x : SX) (p : Int) : (x.touch p).c.cur = x.c.cur ∧ (x.touch p).og = x.og ∧ (x.touch p).c.wo = x.c.wo ∧ (x.touch p).c.ws = x.c.ws ∧ (x.touch p).c.rf = x.c.rf := by
  unfold SX.touch; split <;> exact ⟨rfl, rfl, rfl, rfl, rfl⟩
theorem orig_c (x : SX) (p k : Int) : (x.orig p k).c = x.c ∧ (x.orig p k).jr = x.jr := by
  unfold SX.orig; split <;> exact ⟨rfl, rfl⟩
theorem setSlot_c (x : SX) (p k v : Int) : (x.setSlot p k v).c.wo = x.c.wo ∧ (x.setSlot p k v).c.ws = x.c.ws ∧ (x.setSlot p k v).c.cur = set2 x.c.cur p k v ∧ (x.setSlot p k v).c.rf = x.c.rf ∧ (x.setSlot p k v).og = (x.orig p k).og := by
  obtain ⟨a, b, c, d, e⟩ := touch_cur (x.orig p k) p
  rw [(orig_c x p k).1] at a c d e
  unfold SX.setSlot SX.put SX.row
  exact ⟨c, d, by show set2 (((x.orig p k).touch p).c.cur) p k v = _; rw [a], e, b⟩
theorem setSlot_trail (x : SX) (p k v : Int) (hp : Pl p) : Trail (x.setSlot p k v).c (x.setSlot p k v).jr x.c x.jr := by
  have t := touch_trail (x.orig p k) p
  rw [(orig_c x p k).1, (orig_c x p k).2] at t
  refine Trail.trans (Trail.one (jr := ((x.orig p k).touch p).jr) (r := .slot p k (x.c.cur p k)) hp ?_) t
  obtain ⟨a, _⟩ := touch_cur (x.orig p k) p
  rw [(orig_c x p k).1] at a
  have e := set2_back x.c.cur p k v
  show C.undo (((((x.orig p k).touch p).row _).put p k v).c) _ = _
  simp only [C.undo, SX.put, SX.row, a, e]
  rw [← a]

theorem Inv.warm {x : SX} {y : BX} (I : Inv x y) (p : Int) : Inv (x.warm p) { y with warm := y.warm ++ [.p p] } := by
  have hog : (x.warm p).og = x.og := by unfold SX.warm; split <;> rfl
  have hcur : (x.warm p).c.cur = x.c.cur := by unfold SX.warm; split <;> rfl
  refine ⟨⟨fun q => ?_, fun q k => ?_, fun q k => ?_, ?_⟩, fun q k => ?_, ?_⟩
  · show _ = has (y.warm ++ [.p p]) (.p q)
    rw [has_snoc, ← I.ag.wo]
    unfold SX.warm
    split
    · rename_i h
      by_cases e : p = q
      · subst e; rw [h]; rfl
      · simp [Item.same, e]
    · show (if q = p then true else x.c.wo q) = _
      by_cases e : q = p
      · subst e; simp [Item.same]
      · have e' : ¬ p = q := fun h => e h.symm
        simp [Item.same, e, e']
  · show _ = has (y.warm ++ [.p p]) (.s q k)
    rw [has_snoc, ← I.ag.ws]
    unfold SX.warm
    split <;> simp [Item.same]
  · rw [hcur]; exact I.ag.cur q k
  · rw [← I.ag.rf]; unfold SX.warm; split <;> rfl
  · rw [hog, hcur]; exact I.og q k
  · rw [hog]; exact I.marks.back (warm_trail x p)
theorem Inv.warmSlot {x : SX} {y : BX} (I : Inv x y) (p k : Int) : Inv (x.warmSlot p k) { y with warm := y.warm ++ [.s p k] } := by
  have hog : (x.warmSlot p k).og = x.og := by unfold SX.warmSlot; split <;> rfl
  have hcur : (x.warmSlot p k).c.cur = x.c.cur := by unfold SX.warmSlot; split <;> rfl
  refine ⟨⟨fun q => ?_, fun q l => ?_, fun q l => ?_, ?_⟩, fun q l => ?_, ?_⟩
  · show _ = has (y.warm ++ [.s p k]) (.p q)
    rw [has_snoc, ← I.ag.wo]
    unfold SX.warmSlot
    split <;> simp [Item.same]
  · show _ = has (y.warm ++ [.s p k]) (.s q l)
    rw [has_snoc, ← I.ag.ws]
    unfold SX.warmSlot
    split
    · rename_i h
      by_cases e : p = q ∧ k = l
      · obtain ⟨rfl, rfl⟩ := e; rw [h]; rfl
      · have : (Item.s p k).same (.s q l) = false := by
          simp only [Item.same, Bool.and_eq_false_iff, beq_eq_false_iff_ne, ne_eq]
          by_cases a : p = q
          · exact .inr fun b => e ⟨a, b⟩
          · exact .inl a
        rw [this, Bool.or_false]
    · show (if q = p ∧ l = k then true else x.c.ws q l) = _
      by_cases e : q = p ∧ l = k
      · obtain ⟨rfl, rfl⟩ := e; simp [Item.same]
      · have : (Item.s p k).same (.s q l) = false := by
          simp only [Item.same, Bool.and_eq_false_iff, beq_eq_false_iff_ne, ne_eq]
          by_cases a : p = q
          · exact .inr fun b => e ⟨a.symm, b.symm⟩
          · exact .inl a
        rw [this, Bool.or_false, if_neg e]
  · rw [hcur]; exact I.ag.cur q l
  · rw [← I.ag.rf]; unfold SX.warmSlot; split <;> rfl
  · rw [hog, hcur]; exact I.og q l
  · rw [hog]; exact I.marks.back (warmSlot_trail x p k)
theorem orig_none (x : SX) (p k : Int) : ∀ q l, (x.orig p k).og q l = none → x.og q l = none := fun q l h => by
  unfold SX.orig at h
  split at h
  · exact h
  · by_cases e : q = p ∧ l = k
    · simp [set2, e] at h
    · simpa [set2, e] using h
theorem Inv.setSlot {x : SX} {y : BX} (I : Inv x y) (p k v : Int) (hp : Pl p) : Inv (x.setSlot p k v) { y with cur := set2 y.cur p k (some v) } := by
  obtain ⟨a, b, c, d, e⟩ := setSlot_c x p k v
  refine ⟨⟨fun q => ?_, fun q l => ?_, fun q l => ?_, ?_⟩, fun q l => ?_, ?_⟩
  · rw [a]; exact I.ag.wo q
  · rw [b]; exact I.ag.ws q l
  · rw [c]
    show (if q = p ∧ l = k then v else x.c.cur q l) = (if q = p ∧ l = k then some v else y.cur q l).getD 0
    split
    · rfl
    · exact I.ag.cur q l
  · rw [d]; exact I.ag.rf
  · rw [e, c]
    rw [← I.og q l]
    unfold SX.orig
    split
    · rename_i h
      by_cases e : q = p ∧ l = k
      · obtain ⟨rfl, rfl⟩ := e
        obtain ⟨u, hu⟩ := Option.isSome_iff_exists.mp h
        rw [hu]; rfl
      · simp [set2, e]
    · rename_i h
      by_cases e : q = p ∧ l = k
      · obtain ⟨rfl, rfl⟩ := e
        simp [set2, Option.not_isSome_iff_eq_none.mp h]
      · simp [set2, e]
  · rw [e]
    exact (I.marks.mono (orig_none x p k)).back (setSlot_trail x p k v hp)
def SX.refunded (x : SX) (g : Int) : SX := { x with c := { x.c with rf := x.c.rf + g }, jr := x.jr ++ [.refund x.c.rf] }
theorem Inv.refunded {x : SX} {y : BX} (I : Inv x y) (g : Int) : Inv (x.refunded g) { y with rf := y.rf + g } :=
  ⟨⟨I.ag.wo, I.ag.ws, I.ag.cur, by rw [← I.ag.rf]; rfl⟩, I.og, I.marks.back (Trail.one trivial rfl)⟩
def SX.begun (x : SX) : SX := { x.ended with c := { x.ended.c with rf := 0 } }
theorem Inv.begun {x : SX} {cur : Int → Int → Option Int} (h : ∀ p k, x.c.cur p k = (cur p k).getD 0) : Inv x.begun { warm := [], cur := cur, bef := cur, rf := 0, marks := [] } :=
  ⟨⟨fun _ => rfl, fun _ _ => rfl, h, rfl⟩, h, .nil _ _⟩
theorem Inv.marked {x : SX} {y : BX} (I : Inv x y) : Inv x { y with marks := y.marks ++ [⟨x.jr.length, y.warm, y.cur, y.rf⟩] } :=
  ⟨I.ag, I.og, .snoc (.refl _ _) ⟨rfl, I.ag, fun p k e => by have := I.og p k; rw [e] at this; exact this⟩ I.marks⟩
theorem Inv.taken {x : SX} {y : BX} (I : Inv x y) {i : Nat} {m : Mk} (hm : y.marks[i]? = some m) :
    ∃ c jr, Trail x.c x.jr c jr ∧ jr.length = m.n ∧ Inv { x with c := c, jr := jr } { y with warm := m.warm, cur := m.cur, rf := m.rf, marks := y.marks.take (i + 1) } := by
  obtain ⟨c, jr, t, k, r⟩ := I.marks.pick i m hm
  refine ⟨c, jr, t, k.n, ⟨k.ag, fun p l => ?_, r⟩⟩
  show (x.og p l).getD (c.cur p l) = _
  cases h : x.og p l with
  | none => exact k.og p l h
  | some v => have := I.og p l; rw [h] at this; exact this
theorem warm_len (x : SX) (p : Int) : (x.warm p).jr.length ≤ x.jr.length + 1 := by unfold SX.warm; split <;> simp
theorem warmSlot_len (x : SX) (p k : Int) : (x.warmSlot p k).jr.length ≤ x.jr.length + 1 := by unfold SX.warmSlot; split <;> simp
theorem touch_len (x : SX) (p : Int) : (x.touch p).jr.length ≤ x.jr.length + 1 := by unfold SX.touch; split <;> simp
theorem setSlot_len (x : SX) (p k v : Int) : (x.setSlot p k v).jr.length ≤ x.jr.length + 2 := by
  have := touch_len (x.orig p k) p
  rw [(orig_c x p k).2] at this
  show (((x.orig p k).touch p).jr ++ [_]).length ≤ _
  simp; omega
theorem refunded_len (x : SX) (g : Int) : (x.refunded g).jr.length = x.jr.length + 1 := by simp [SX.refunded]

/-! the feed -/
def FAt (w : World) (lay : Nat → Addr) (σ : Nat → Obj) (cl : Addr) (at_ : Nat) : Prop :=
  ∃ f t, StrD pr w (σ iFd) f 10 ∧ f (Str.ofString "cells") = some (.ref cl) ∧ f (Str.ofString "at") = some (.int at_ t)
section
variable {w : World} {A : Around} {E : Value → Shared → Prop} {s : Shared} {h₀ : Heap} {L : Addr} {m : Str → Option Value} {z : Nat} {lay lay' : Nat → Addr} {σ σ' : Nat → Obj} {imm imm' news : Led} {st fd bk : Addr} {ax : Aux} {bx : Bux} {fx : Fux} {x : SX} {y : BX} {cells : List Int} {b b' : Nat} {p k : Int} {t u : Tok} {tp : Addr} {cur : Int → Int → Option Int}
theorem FRep.at_ (B : FRep w fd fx lay σ imm cells b) : ∃ a, FAt w lay σ fx.cl a ∧ a ≤ b := by obtain ⟨f, t, a, h1, h2, h3, h4⟩ := B.feed; exact ⟨a, ⟨f, t, h1, h2, h3⟩, h4⟩
section keys
variable {value slice : Expr} {Q : Value → Shared → Prop} {cl : Addr} {a : Nat}
theorem r_fd_cells (N : News h₀ L s.heap news) (S : Sys z lay σ imm news) (B : FAt w lay σ cl a) (h : Q (.ref cl) { s with toks := s.toks + 1 })
    (hs : subscripted slice false (.ref (lay iFd)) (.str (Str.ofString "cells") t) = operate [.ref (lay iFd), .str (Str.ofString "cells") t] (getItem (.ref (lay iFd)) (.str (Str.ofString "cells") t)) := by with_unfolding_all rfl) : wpAny (model pr w) A (subscriptTail value slice (.ref (lay iFd)) (.str (Str.ofString "cells") t)) Q E s :=
  by obtain ⟨_, _, h1, h2, _⟩ := B; exact key_tail N (S.mem iFd (by decide)) h1 (strKind_is pr w _ t) h2 h hs
theorem r_fd_at (N : News h₀ L s.heap news) (S : Sys z lay σ imm news) (B : FAt w lay σ cl a) (h : ∀ t', Q (.int a t') { s with toks := s.toks + 1 })
    (hs : subscripted slice false (.ref (lay iFd)) (.str (Str.ofString "at") t) = operate [.ref (lay iFd), .str (Str.ofString "at") t] (getItem (.ref (lay iFd)) (.str (Str.ofString "at") t)) := by with_unfolding_all rfl) : wpAny (model pr w) A (subscriptTail value slice (.ref (lay iFd)) (.str (Str.ofString "at") t)) Q E s :=
  by obtain ⟨_, t', h1, _, h2⟩ := B; exact key_tail N (S.mem iFd (by decide)) h1 (strKind_is pr w _ t) h2 (h t') hs
end keys
theorem r_set_fd {a c : Nat} {cl : Addr} {v : Int} {tv : Tok} {Q : Unit → Shared → Prop} (F : Fr h₀ L s.heap m) (N : News h₀ L s.heap news) (S : Sys z lay σ imm news) (B : FAt w lay σ cl a) (hv : v = (c : Int))
    (h : ∀ h' o' news', Fr h₀ L h' m → News h₀ L h' news' → Sys z lay (upd σ iFd o') imm news' → FAt w lay (upd σ iFd o') cl c → Q () { s with heap := h', toks := s.toks + 1 }) :
    wpAny (model pr w) A (setItem (.ref (lay iFd)) (.str (Str.ofString "at") t) (.int v tv)) Q E s := by
  obtain ⟨f, t', h1, h2, h3⟩ := B
  subst hv
  refine str_setZ (by decide) F N S h1 (by rw [h3]; rfl) (by decide) fun h' o' n' F' N' S' T' => h h' o' n' F' N' S' ⟨_, tv, by rw [upd_self]; exact T', ?_, ?_⟩
  · rw [if_neg (by decide)]; exact h2
  · rw [if_pos rfl]
theorem StRep.updF (R : StRep w st ax lay σ imm x b) (o : Obj) : StRep w st ax lay (upd σ iFd o) imm x b := R.updB (.inl rfl) o
theorem BRep.updF (B : BRep w bk bx lay σ imm y b) (o : Obj) : BRep w bk bx lay (upd σ iFd o) imm y b := B.same fun i h1 _ => ⟨rfl, upd_ne _ _ (show i ≠ 3 by omega)⟩
theorem BRep0.updF (B : BRep0 w bk lay σ imm cur b) (o : Obj) : BRep0 w bk lay (upd σ iFd o) imm cur b := B.same fun i h1 _ => ⟨rfl, upd_ne _ _ (show i ≠ 3 by omega)⟩
/-- only the feed turned -/
def OnlyF (z : Nat) (σ σ' : Nat → Obj) : Prop := ∀ i, i < z → i ≠ 3 → σ' i = σ i
theorem OnlyF.refl : OnlyF z σ σ := fun _ _ _ => rfl
theorem OnlyF.upd (h : OnlyF z σ σ') (o : Obj) : OnlyF z σ (upd σ' iFd o) := fun i h1 h2 => by rw [upd_ne _ _ h2]; exact h i h1 h2
theorem OnlyF.trans {σ'' : Nat → Obj} (h : OnlyF z σ σ') (k : OnlyF z σ' σ'') : OnlyF z σ σ'' := fun i h1 h2 => (k i h1 h2).trans (h i h1 h2)
theorem StRep.onlyF (R : StRep w st ax lay σ imm x b) (S : Sys z lay σ' imm' news) (h : OnlyF z σ σ') (su : Suf imm imm') : StRep w st ax lay σ' imm' x b :=
  (R.mono su.sub (Nat.le_refl _)).same' fun i h1 h2 => ⟨rfl, h i (S.up (by omega)) h2⟩
theorem BRep.onlyF (B : BRep w bk bx lay σ imm y b) (S : Sys z lay σ' imm' news) (h : OnlyF z σ σ') (su : Suf imm imm') : BRep w bk bx lay σ' imm' y b :=
  (B.mono su.sub (Nat.le_refl _)).same fun i h1 h2 => ⟨rfl, h i (S.up (by omega)) (by omega)⟩
theorem BRep0.onlyF (B : BRep0 w bk lay σ imm cur b) (S : Sys z lay σ' imm' news) (h : OnlyF z σ σ') (su : Suf imm imm') : BRep0 w bk lay σ' imm' cur b :=
  (B.mono su.sub (Nat.le_refl _)).same fun i h1 h2 => ⟨rfl, h i (S.up (by omega)) (by omega)⟩
theorem FRep.updB (B : FRep w fd fx lay σ imm cells b) {i : Nat} (hi : i ≠ 3) (o : Obj) : FRep w fd fx lay (upd σ i o) imm cells b := B.same ⟨rfl, upd_ne _ _ (Ne.symm hi)⟩
end
section
variable {w : World} {A : Around} {E : Value → Shared → Prop} {s : Shared} {h₀ : Heap} {L : Addr} {m : Str → Option Value} {z : Nat} {lay : Nat → Addr} {σ : Nat → Obj} {imm news : Led}
theorem r_len_imm {a : Addr} {vs : List Value} {n k : Nat} {Q : Value → Shared → Prop} (N : News h₀ L s.heap news) (S : Sys z lay σ imm news) (hm : (a, listOf vs.toArray n) ∈ imm) (hl : vs.length = k) (hk : k ≤ 1000000)
    (h : ∀ t', Q (.int k t') { s with toks := s.toks + 1 + 1 }) : wpAny (model pr w) A (call (.builtin "len") [.ref a]) Q E s := by
  have e : vs.toArray.size = k := by rw [List.size_toArray]; exact hl
  refine Calls.call_len_list (items := vs.toArray) ⟨_, N.get (S.sub _ hm), rfl, _, rfl⟩ (by omega) ?_
  rw [e]; exact h _
theorem r_item_imm {value slice : Expr} {a : Addr} {vs : List Value} {n : Nat} {k : Int} {t : Tok} {v : Value} {Q : Value → Shared → Prop} (N : News h₀ L s.heap news) (S : Sys z lay σ imm news) (hm : (a, listOf vs.toArray n) ∈ imm) (h0 : 0 ≤ k) (hf : k < 2 ^ 63) (hx : vs[k.toNat]? = some v) (h : Q v s)
    (hs : subscripted slice false (.ref a) (.int k t) = operate [.ref a, .int k t] (getItem (.ref a) (.int k t)) := by with_unfolding_all rfl) : wpAny (model pr w) A (subscriptTail value slice (.ref a) (.int k t)) Q E s :=
  have hl : s.heap.IsList a vs.toArray := ⟨_, N.get (S.sub _ hm), rfl, _, rfl⟩
  tail_any (T := "list") (PySem.IsL.isList (n := n) (N.get (S.sub _ hm))).typeIs slot_list_getitem.lookup (getItem_listL hl h0 hf hx h) hs
theorem r_item_ints {value slice : Expr} {a : Addr} {vs : List Value} {ns : List Int} {n : Nat} {k : Int} {t : Tok} {Q : Value → Shared → Prop} (N : News h₀ L s.heap news) (S : Sys z lay σ imm news) (hm : (a, listOf vs.toArray n) ∈ imm) (hi : IntsAre vs ns) (h0 : 0 ≤ k) (h1 : k < vs.length) (hf : k < 2 ^ 63) (h : ∀ i t', Q (.int i t') s)
    (hs : subscripted slice false (.ref a) (.int k t) = operate [.ref a, .int k t] (getItem (.ref a) (.int k t)) := by with_unfolding_all rfl) : wpAny (model pr w) A (subscriptTail value slice (.ref a) (.int k t)) Q E s := by
  have hk : k.toNat < ns.length := by have := hi.length; omega
  obtain ⟨t', e⟩ := hi.get k.toNat _ (List.getElem?_eq_getElem hk)
  exact r_item_imm N S hm h0 hf e (h _ _) hs
end

section
variable {prog : Program} {w : World} {A : Around} {E : Value → Shared → Prop} {Q : Flow → Shared → Prop} {s : Shared} {env : Env} {h₀ : Heap} {m : Str → Option Value} {z : Nat} {lay : Nat → Addr} {σ : Nat → Obj} {imm news : Led}
abbrev rngO (n : Int) (t u v : Tok) : Obj := { cls := .type "range", data := .fields #[.int 0 t, .int n u, .int 1 v] }
theorem newRange_Z {n : Int} {t : Tok} {L : Addr} {Q : Value → Shared → Prop} (F : Fr h₀ L s.heap m) (N : News h₀ L s.heap news) (S : Sys z lay σ imm news)
    (h : ∀ q h' news' t1 t2, Fr h₀ L h' m → News h₀ L h' news' → Sys z lay σ ((q, rngO n t1 t t2) :: imm) news' → Q (.ref q) { s with heap := h', toks := s.toks + 1 + 1 }) :
    wpAny (model prog w) A (call (.type "range") [.int n t]) Q E s :=
  call_range_1 (h _ _ _ _ _ (F.push _) (N.push F _) (S.push fun p hp => Heap.lt_size (N p hp).1))
theorem fresh_iter {L : Addr} {o : Obj} (F : Fr h₀ L s.heap m) : h₀.get? s.heap.objs.size = none ∧ s.heap.objs.size ≠ L := by
  refine ⟨?_, Nat.ne_of_gt F.ns.lt⟩
  cases q : h₀.get? s.heap.objs.size with
  | none => rfl
  | some o => exact absurd (Heap.lt_size (F.keep _ _ q)) (Nat.lt_irrefl _)
/-- over a tuple that never turns -/
theorem iter_tuple_Z {x : Str} {body : List Stmt} {l : Addr} {vs : List Value} (hh : A.handled = none) (F : Fr h₀ env.locals s.heap m) (N : News h₀ env.locals s.heap news) (S : Sys z lay σ imm news) (hl : (l, tupO vs) ∈ imm)
    (J : (Str → Option Value) → LInv) (hJ : J m 0 m lay σ imm) (hJm : ∀ i m' lay σ imm q o, J m i m' lay σ imm → J m i m' (upd lay z q) (upd σ z o) imm)
    (turn : ∀ i v m₁ lay₁ σ₁ imm₁ news₁ h tk, vs[i]? = some v → Suf imm imm₁ → J m i m₁ lay₁ σ₁ imm₁ → Fr h₀ env.locals h (fun y => if y = x then some v else m₁ y) → News h₀ env.locals h news₁ → Sys (z + 1) lay₁ σ₁ imm₁ news₁ →
      ∀ G : Flow → Shared → Prop, (∀ f s₂, FStep h₀ env.locals z lay₁ σ₁ imm₁ { s with heap := h, toks := tk } (J m) (i + 1) Q f s₂ → G f s₂) → wpAny (model prog w) A (execs body env) G E { s with heap := h, toks := tk })
    (done : ∀ m₁ lay₁ σ₁ imm₁ news₁ h tk, Suf imm imm₁ → J m vs.length m₁ lay₁ σ₁ imm₁ → Fr h₀ env.locals h m₁ → News h₀ env.locals h news₁ → Sys z lay₁ σ₁ imm₁ news₁ → Q .next { s with heap := h, toks := tk }) :
    wpAny (model prog w) A (pyIter (.ref l)) (fun it s₂ => LoopAtV prog w A h₀ env x body Q E it s₂) E s := by
  have hlm := N.get (S.sub _ hl)
  have hls : s.heap.IsTuple l vs.toArray := ⟨_, hlm, rfl, _, rfl⟩
  have hne : l ≠ s.heap.objs.size := Nat.ne_of_lt (Heap.lt_size hlm)
  refine wpAny_pyIter_tuple hls ?_
  have W := Walks.tuple (prog := prog) (w := w) hh s.heap.objs.size l hne vs.toArray
  refine loop_Z W ?_ ?_ (F.push _) (fun p hp => ⟨Heap.get?_push_of_some _ (N p hp).1, (N p hp).2⟩) S ?_ (fresh_iter (o := default) F).1 (fresh_iter (o := default) F).2 ⟨⟨_, Heap.get?_push_size _ rfl, rfl, rfl⟩, hls.at fun o e => Heap.get?_push_of_some _ e⟩ (J m) hJ hJm ?_ ?_
  · intro b hb
    rcases List.mem_cons.mp hb with e | hb
    · exact .inl e
    · rw [List.mem_singleton.mp hb]; exact .inr ⟨_, hl⟩
  · rintro i h ⟨⟨o, ho, _⟩, _⟩; exact ⟨o, ho⟩
  · intro p hp e; exact absurd (Heap.lt_size (N p hp).1) (by rw [e]; exact Nat.lt_irrefl _)
  · intro i v m₁ lay₁ σ₁ imm₁ news₁ h tk hi hP U J₁ F₁ N₁ S₁ G hG
    exact turn i v m₁ lay₁ σ₁ imm₁ news₁ h tk (by simpa using hP) U J₁ F₁ N₁ S₁ G hG
  · intro m₁ lay₁ σ₁ imm₁ news₁ h tk U J₁ F₁ N₁ S₁
    exact done m₁ lay₁ σ₁ imm₁ news₁ h tk U (by simpa using J₁) F₁ N₁ S₁
theorem range_small (n : Nat) (hn : n ≤ 1000000) : Builtin.Range.small 0 n 1 = true ∧ Builtin.Range.rangeSize 0 n 1 = (n : Int) := by
  have e : Builtin.Range.rangeSize 0 n 1 = (n : Int) := by
    unfold Builtin.Range.rangeSize
    simp
    omega
  refine ⟨?_, e⟩
  unfold Builtin.Range.small
  rw [e]
  unfold Builtin.Range.rangeFitsLong
  simp
  omega
theorem iter_range_Z {x : Str} {body : List Stmt} {l : Addr} {n : Nat} {t u v : Tok} (hh : A.handled = none) (hn : n ≤ 1000000) (F : Fr h₀ env.locals s.heap m) (N : News h₀ env.locals s.heap news) (S : Sys z lay σ imm news) (hl : (l, rngO n t u v) ∈ imm)
    (J : (Str → Option Value) → LInv) (hJ : J m 0 m lay σ imm) (hJm : ∀ i m' lay σ imm q o, J m i m' lay σ imm → J m i m' (upd lay z q) (upd σ z o) imm)
    (turn : ∀ i t' m₁ lay₁ σ₁ imm₁ news₁ h tk, i < n → Suf imm imm₁ → J m i m₁ lay₁ σ₁ imm₁ → Fr h₀ env.locals h (fun y => if y = x then some (.int i t') else m₁ y) → News h₀ env.locals h news₁ → Sys (z + 1) lay₁ σ₁ imm₁ news₁ →
      ∀ G : Flow → Shared → Prop, (∀ f s₂, FStep h₀ env.locals z lay₁ σ₁ imm₁ { s with heap := h, toks := tk } (J m) (i + 1) Q f s₂ → G f s₂) → wpAny (model prog w) A (execs body env) G E { s with heap := h, toks := tk })
    (done : ∀ m₁ lay₁ σ₁ imm₁ news₁ h tk, Suf imm imm₁ → J m n m₁ lay₁ σ₁ imm₁ → Fr h₀ env.locals h m₁ → News h₀ env.locals h news₁ → Sys z lay₁ σ₁ imm₁ news₁ → Q .next { s with heap := h, toks := tk }) :
    wpAny (model prog w) A (pyIter (.ref l)) (fun it s₂ => LoopAtV prog w A h₀ env x body Q E it s₂) E s := by
  have hlm := N.get (S.sub _ hl)
  obtain ⟨h1, h2⟩ := range_small n hn
  refine wpAny_pyIter_range (a := 0) (b := n) (c := 1) hlm h1 ?_
  rw [h2]
  have W := Walks.range (prog := prog) (w := w) hh s.heap.objs.size 0 1 n
  refine loop_Z W ?_ ?_ (F.push _) (fun p hp => ⟨Heap.get?_push_of_some _ (N p hp).1, (N p hp).2⟩) S ?_ (fresh_iter (o := default) F).1 (fresh_iter (o := default) F).2 ?st (J m) hJ hJm ?_ ?_
  case st =>
    show IsRangeIter _ _ _ _ _
    rw [show (0 : Int) + ((0 : Nat) : Int) * 1 = 0 from by omega, show (n : Int) - ((0 : Nat) : Int) = n from by omega]
    exact Heap.get?_push_size _ rfl
  · intro b hb
    exact .inl (List.mem_singleton.mp hb)
  · rintro i h ho; exact ⟨_, ho⟩
  · intro p hp e; exact absurd (Heap.lt_size (N p hp).1) (by rw [e]; exact Nat.lt_irrefl _)
  · intro i v m₁ lay₁ σ₁ imm₁ news₁ h tk hi hP U J₁ F₁ N₁ S₁ G hG
    obtain ⟨t', rfl⟩ : ∃ t', v = .int i t' := by simpa using hP
    exact turn i t' m₁ lay₁ σ₁ imm₁ news₁ h tk hi U J₁ F₁ N₁ S₁ G hG
  · intro m₁ lay₁ σ₁ imm₁ news₁ h tk U J₁ F₁ N₁ S₁
    exact done m₁ lay₁ σ₁ imm₁ news₁ h tk U J₁ F₁ N₁ S₁
/-- a turn's end under a target of several names -/
def TStep (h₀ : Heap) (L : Addr) (z : Nat) (lay : Nat → Addr) (σ : Nat → Obj) (imm : Led) (s : Shared) (J : LInv) (i : Nat) (f : Flow) (s₂ : Shared) : Prop :=
  f = .next ∧ ∃ h' tk m' lay' σ' imm' news', s₂ = { s with heap := h', toks := tk } ∧ Fr h₀ L h' m' ∧ News h₀ L h' news' ∧ Sys (z + 1) lay' σ' imm' news' ∧ lay' z = lay z ∧ σ' z = σ z ∧ Suf imm imm' ∧ J i m' lay' σ' imm'
theorem TStep.intro {L : Addr} {J : LInv} {i : Nat} {h' : Heap} {tk : Nat} {m' : Str → Option Value} {lay' : Nat → Addr} {σ' : Nat → Obj} {imm' news' : Led} (F : Fr h₀ L h' m') (N : News h₀ L h' news') (S : Sys (z + 1) lay' σ' imm' news') (el : lay' z = lay z) (es : σ' z = σ z) (U : Suf imm imm') (hj : J i m' lay' σ' imm') :
    TStep h₀ L z lay σ imm s J i .next { s with heap := h', toks := tk } := ⟨rfl, h', tk, m', lay', σ', imm', news', rfl, F, N, S, el, es, U, hj⟩
theorem iter_list_ZT {target : Expr} {body : List Stmt} {l : Addr} {vs : List Value} {c : Nat} (hh : A.handled = none) (F : Fr h₀ env.locals s.heap m) (N : News h₀ env.locals s.heap news) (S : Sys z lay σ imm news) (hl : (l, listOf vs.toArray c) ∈ imm)
    (J : (Str → Option Value) → LInv) (hJ : J m 0 m lay σ imm) (hJm : ∀ i m' lay σ imm q o, J m i m' lay σ imm → J m i m' (upd lay z q) (upd σ z o) imm)
    (turn : ∀ i v m₁ lay₁ σ₁ imm₁ news₁ s₁, vs[i]? = some v → Suf imm imm₁ → J m i m₁ lay₁ σ₁ imm₁ → Fr h₀ env.locals s₁.heap m₁ → News h₀ env.locals s₁.heap news₁ → Sys (z + 1) lay₁ σ₁ imm₁ news₁ →
      ∀ G : Flow → Shared → Prop, (∀ f s₂, TStep h₀ env.locals z lay₁ σ₁ imm₁ s₁ (J m) (i + 1) f s₂ → G f s₂) → wpAny (model prog w) A (assign target env v) (fun _ s₃ => wpAny (model prog w) A (execs body env) G E s₃) E s₁)
    (done : ∀ m₁ lay₁ σ₁ imm₁ news₁ h tk, Suf imm imm₁ → J m vs.length m₁ lay₁ σ₁ imm₁ → Fr h₀ env.locals h m₁ → News h₀ env.locals h news₁ → Sys z lay₁ σ₁ imm₁ news₁ → Q .next { s with heap := h, toks := tk }) :
    wpAny (model prog w) A (pyIter (.ref l)) (fun it s₂ => LoopAtT prog w A h₀ env target body Q E it s₂) E s := by
  have hlm := N.get (S.sub _ hl)
  have hls : s.heap.IsList l vs.toArray := ⟨_, hlm, rfl, c, rfl⟩
  have hne : l ≠ s.heap.objs.size := Nat.ne_of_lt (Heap.lt_size hlm)
  refine wpAny_pyIter_list hls ?_
  have W := Walks.list (prog := prog) (w := w) hh s.heap.objs.size l hne vs.toArray
  have hn : ∀ p ∈ news, p.1 ≠ s.heap.objs.size := fun p hp e => absurd (Heap.lt_size (N p hp).1) (by rw [e]; exact Nat.lt_irrefl _)
  have h0 := (fresh_iter (o := default) F).1
  have hL := (fresh_iter (o := default) F).2
  have hIl : (l, listOf vs.toArray c) ∈ news := S.sub _ hl
  refine ⟨s.heap.objs.size, _, _, _, _, _, m, news, fun i m₁ news₁ => ∃ lay₁ σ₁ imm₁, Suf imm imm₁ ∧ Sys z lay₁ σ₁ imm₁ news₁ ∧ J m i m₁ lay₁ σ₁ imm₁, rfl, W, ?_, ?_, ?_, ⟨⟨_, Heap.get?_push_size _ rfl, rfl, rfl⟩, hls.at fun o e => Heap.get?_push_of_some _ e⟩, F.push _, (fun p hp => ⟨Heap.get?_push_of_some _ (N p hp).1, (N p hp).2⟩),
    (fun i s' v Q' st hQ' => letGo_listiter st.1 hQ'), ⟨lay, σ, imm, Suf.refl _, S, hJ⟩, ?_, ?_⟩
  · intro hm
    rcases List.mem_cons.mp hm with e | hm
    · exact hL e.symm
    · exact (N _ hIl).2.1 (List.mem_singleton.mp hm).symm
  · intro b hb; rw [List.mem_singleton.mp hb]; exact h0
  · intro p hp hI; exact hn p hp (List.mem_singleton.mp hI)
  · rintro i v m₁ news₁ s₁ own hi hP ⟨lay₁, σ₁, imm₁, U₁, S₁, J₁⟩ hoff ofp ohp oall st1 F₁ N₁
    obtain ⟨oI, hoI, _⟩ := st1.1
    have hIo : (s.heap.objs.size, oI) ∈ own := oall _ (List.Mem.head _) h0 oI hoI
    have hne : ∀ p ∈ news₁, p.1 ≠ s.heap.objs.size := fun p hp e => hoff p hp (List.mem_singleton.mpr e)
    have S₂ : Sys (z + 1) (upd lay₁ z s.heap.objs.size) (upd σ₁ z oI) imm₁ (own ++ news₁) := (S₁.appL own).more (List.mem_append_left _ hIo) (fun j hj e => hne _ (S₁.mem' j hj) e.symm) fun p hp => hne p (S₁.sub p hp)
    refine wpAny_mono (turn i v m₁ _ _ imm₁ _ s₁ (by simpa using hP) U₁ (hJm _ _ _ _ _ _ oI J₁) F₁ N₁ S₂ _ fun _ _ e => e) (fun _ s₃ q => wpAny_mono q (fun f s₂ q => ?_) fun _ _ e => e) fun _ _ e => e
    obtain ⟨rfl, h', tk', m', lay', σ', imm', news', rfl, F', N', S', el, es, U', J'⟩ := q
    rw [upd_self] at el es
    refine LoopStepU.intro (s₁ := s₁) F' ?_ ?_ ⟨lay', σ', imm', U₁.trans U', S'.less S₁.le, J'⟩
    · intro p hp
      rcases List.mem_append.mp hp with hp | hp
      · refine N' p ?_
        rcases List.mem_cons.mp (ofp p hp) with e | e
        · have h1 := ohp p hp
          rw [e] at h1
          have h2 : p.2 = oI := Option.some.inj (h1.symm.trans hoI)
          have := S'.mem' z (Nat.lt_succ_self z)
          rw [el, es] at this
          have hpe : p = (s.heap.objs.size, oI) := Prod.ext e h2
          rw [hpe]; exact this
        · have e := List.mem_singleton.mp e
          have h1 := ohp p hp
          have h3 := (N₁ _ (List.mem_append_right _ (S₁.sub _ (U₁.sub _ hl)))).1
          rw [e] at h1
          have h2 : p.2 = listOf vs.toArray c := Option.some.inj (h1.symm.trans h3)
          have hpe : p = (l, listOf vs.toArray c) := Prod.ext e h2
          rw [hpe]; exact S'.sub _ (U'.sub _ (U₁.sub _ hl))
      · exact N' p (List.mem_filter.mp hp).1
    · intro p hp hI
      have := (List.mem_filter.mp hp).2
      rw [el] at this
      exact (of_decide_eq_true this) (List.mem_singleton.mp hI)
  · rintro h' tk m' news' F' N' hoff ⟨lay₁, σ₁, imm₁, U₁, S₁, J₁⟩
    exact done m' lay₁ σ₁ imm₁ news' h' tk U₁ J₁ F' N' S₁
end

open PyProof.Rows.LCg in
section
variable {prog : Program} {w : World} {A : Around} {E : Value → Shared → Prop} {s : Shared} {env : Env} {h₀ : Heap} {L : Addr} {m : Str → Option Value} {z : Nat} {lay : Nat → Addr} {σ : Nat → Obj} {imm news : Led}
abbrev CInv := Nat → List Value → (Nat → Addr) → (Nat → Obj) → Led → Prop
/-- an element's end -/
def CStep (h₀ : Heap) (L : Addr) (m : Str → Option Value) (z : Nat) (lay : Nat → Addr) (σ : Nat → Obj) (imm : Led) (s : Shared) (J : CInv) (i : Nat) (ys : List Value) (y : Value) (s₂ : Shared) : Prop :=
  ∃ h' tk lay' σ' imm' news', s₂ = { s with heap := h', toks := tk } ∧ Fr h₀ L h' m ∧ News h₀ L h' news' ∧ Sys (z + 3) lay' σ' imm' news' ∧ (∀ j, z ≤ j → j < z + 3 → lay' j = lay j ∧ σ' j = σ j) ∧ Suf imm imm' ∧ J (i + 1) (ys ++ [y]) lay' σ' imm'
theorem comp_rest {elt : Expr} {x : Str} {scope : Scope} {cl : List (Str × Addr)} {P : Nat → Value → Prop} {Fin : List Value → Led → Prop} {n : Nat} (imm₀ : Led) (J : CInv)
    (hJm : ∀ i ys lay σ imm lay' σ', (∀ j, j < z → lay' j = lay j ∧ σ' j = σ j) → J i ys lay σ imm → J i ys lay' σ' imm)
    (turn : ∀ i v ys C m₂ lay₁ σ₁ imm₁ news₁ h tk (E' : Value → Shared → Prop), i < n → P i v → h.Ns C m₂ → m₂ x = some v → Suf imm₀ imm₁ → J i ys lay₁ σ₁ imm₁ → Fr h₀ L h m → News h₀ L h news₁ → Sys (z + 3) lay₁ σ₁ imm₁ news₁ →
      wpAny (model prog w) A (eval elt (compEnvC scope cl C env)) (CStep h₀ L m z lay₁ σ₁ imm₁ { s with heap := h, toks := tk } J i ys) E' { s with heap := h, toks := tk })
    (done : ∀ ys lay₁ σ₁ imm₁ news₁, Suf imm₀ imm₁ → J n ys lay₁ σ₁ imm₁ → Sys z lay₁ σ₁ imm₁ news₁ → Fin ys news₁) :
    ∀ (k i : Nat) (ys : List Value) (lay : Nat → Addr) (σ : Nat → Obj) (imm news : Led), i + k = n → Suf imm₀ imm → J i ys lay σ imm → Sys z lay σ imm news →
      CompRest prog w A h₀ L m env elt x scope cl s (fun _ => True) P Fin k i ys news := by
  intro k
  induction k with
  | zero =>
    intro i ys lay σ imm news hk U hJ S
    have hi : i = n := by omega
    subst hi
    exact CompRest.zero (done ys lay σ imm news U hJ S)
  | succ k ih =>
    intro i ys lay σ imm news hk U hJ S
    refine .succ ?_
    intro v I oI C oC D m₂ h tk E' hP hC hx F N off ne
    have off' := off.mem
    have S1 : Sys (z + 1) (upd lay z I) (upd σ z oI) imm ((I, oI) :: (C, oC) :: (D, lst ys) :: news) :=
      (((S.cons _).cons _).cons _).more (.head _) (fun j hj e => (off' _ (S.mem' j hj)).1 e.symm) (fun p hp => (off' p (S.sub p hp)).1)
    have S2 := S1.more (q := C) (o := oC) (.tail _ (.head _)) (fun j hj e => by
      by_cases a : j = z
      · subst a; rw [upd_self] at e; exact ne.1 e.symm
      · rw [upd_ne _ _ a] at e; exact (off' _ (S.mem' j (by omega))).2.1 e.symm) (fun p hp => (off' p (S.sub p hp)).2.1)
    have S3 := S2.more (q := D) (o := lst ys) (.tail _ (.tail _ (.head _))) (fun j hj e => by
      by_cases a : j = z + 1
      · subst a; rw [upd_self] at e; exact ne.2.2 e.symm
      · rw [upd_ne _ _ a] at e
        by_cases a' : j = z
        · subst a'; rw [upd_self] at e; exact ne.2.1 e.symm
        · rw [upd_ne _ _ a'] at e; exact (off' _ (S.mem' j (by omega))).2.2 e.symm) (fun p hp => (off' p (S.sub p hp)).2.2)
    have hCn : h.Ns C m₂ := hC.ns (N _ (.tail _ (.head _))).1
    refine wpAny_mono (turn i v ys C m₂ _ _ imm _ h tk E' (by omega) hP hCn hx U (hJm _ _ _ _ _ _ _ (fun j hj => by
      rw [upd_ne _ _ (by omega), upd_ne _ _ (by omega), upd_ne _ _ (by omega), upd_ne _ _ (by omega), upd_ne _ _ (by omega), upd_ne _ _ (by omega)]; exact ⟨rfl, rfl⟩) hJ) F N S3) (fun y s₂ q => ?_) fun _ _ e => e
    obtain ⟨h', tk', lay', σ', imm', news', rfl, F', N', S', el, U', J'⟩ := q
    have e0 := el z (by omega) (by omega)
    have e1 := el (z + 1) (by omega) (by omega)
    have e2 := el (z + 2) (by omega) (by omega)
    have q0 : upd (upd (upd lay z I) (z + 1) C) (z + 1 + 1) D z = I ∧ upd (upd (upd σ z oI) (z + 1) oC) (z + 1 + 1) (lst ys) z = oI := ⟨by rw [upd_ne _ _ (by omega), upd_ne _ _ (by omega), upd_self], by rw [upd_ne _ _ (by omega), upd_ne _ _ (by omega), upd_self]⟩
    have q1 : upd (upd (upd lay z I) (z + 1) C) (z + 1 + 1) D (z + 1) = C ∧ upd (upd (upd σ z oI) (z + 1) oC) (z + 1 + 1) (lst ys) (z + 1) = oC := ⟨by rw [upd_ne _ _ (by omega), upd_self], by rw [upd_ne _ _ (by omega), upd_self]⟩
    have q2 : upd (upd (upd lay z I) (z + 1) C) (z + 1 + 1) D (z + 2) = D ∧ upd (upd (upd σ z oI) (z + 1) oC) (z + 1 + 1) (lst ys) (z + 2) = lst ys := ⟨upd_self _ _ _, upd_self _ _ _⟩
    have mI := S'.mem' z (by omega)
    have mC := S'.mem' (z + 1) (by omega)
    have mD := S'.mem' (z + 2) (by omega)
    rw [e0.1, e0.2, q0.1, q0.2] at mI
    rw [e1.1, e1.2, q1.1, q1.2] at mC
    rw [e2.1, e2.2, q2.1, q2.2] at mD
    have hz := S.le
    have T2 := Sys.less (z := z + 2) S' (by omega)
    have T1 := Sys.less (z := z + 1) T2 (by omega)
    have T0 := Sys.less (z := z) T1 (by omega)
    refine CompEnd.intro (s₁ := { s with heap := h, toks := tk }) F' N' _ ?_ ?_ trivial (ih (i + 1) _ lay' σ' imm' _ (by omega) (U.trans U') J' T0)
    · intro p hp
      rcases List.mem_cons.mp hp with rfl | hp
      · exact mI
      · rcases List.mem_cons.mp hp with rfl | hp
        · exact mC
        · rcases List.mem_cons.mp hp with rfl | hp
          · exact mD
          · exact (List.mem_filter.mp (List.mem_filter.mp (List.mem_filter.mp hp).1).1).1
    · refine Off3.of fun p hp => ?_
      have a0 := (List.mem_filter.mp hp)
      have a1 := List.mem_filter.mp a0.1
      have a2 := List.mem_filter.mp a1.1
      have b0 := of_decide_eq_true a0.2
      have b1 := of_decide_eq_true a1.2
      have b2 := of_decide_eq_true a2.2
      rw [e0.1, q0.1] at b0
      rw [e1.1, q1.1] at b1
      rw [e2.1, q2.1] at b2
      exact ⟨b0, b1, b2⟩
end

section
variable {w : World} {A : Around} {E : Value → Shared → Prop} {s : Shared} {h₀ : Heap} {L : Addr} {m : Str → Option Value} {z : Nat} {lay : Nat → Addr} {σ : Nat → Obj} {imm news : Led} {bk : Addr} {bx : Bux} {y : BX} {b : Nat} {p k : Int} {t u : Tok} {tp : Addr}
theorem r_wl_pushP {Q : Value → Shared → Prop} (F : Fr h₀ L s.heap m) (N : News h₀ L s.heap news) (S : Sys z lay σ imm news) (B : BRep w bk bx lay σ imm y b) (hb : b ≤ 999000)
    (h : ∀ h' o' news', Fr h₀ L h' m → News h₀ L h' news' → Sys z lay (upd σ iWl o') imm news' → BRep w bk { bx with wvs := bx.wvs ++ [.int p t], wn := bx.wn + 1 } lay (upd σ iWl o') imm { y with warm := y.warm ++ [.p p] } (b + 1) → Q .none { s with heap := h' }) :
    wpAny (model pr w) A (call (.builtin "list.append") [.ref (lay iWl), .int p t]) Q E s := r_wl_push (i := .p p) F N S B ⟨t, rfl⟩ hb h
theorem r_wl_pushS {Q : Value → Shared → Prop} (F : Fr h₀ L s.heap m) (N : News h₀ L s.heap news) (S : Sys z lay σ imm news) (B : BRep w bk bx lay σ imm y b) (ht : (tp, tupO [.int p t, .int k u]) ∈ imm) (hb : b ≤ 999000)
    (h : ∀ h' o' news', Fr h₀ L h' m → News h₀ L h' news' → Sys z lay (upd σ iWl o') imm news' → BRep w bk { bx with wvs := bx.wvs ++ [.ref tp], wn := bx.wn + 1 } lay (upd σ iWl o') imm { y with warm := y.warm ++ [.s p k] } (b + 1) → Q .none { s with heap := h' }) :
    wpAny (model pr w) A (call (.builtin "list.append") [.ref (lay iWl), .ref tp]) Q E s := r_wl_push (i := .s p k) F N S B ⟨tp, t, u, rfl, ht⟩ hb h
end
/-- the feed and the loops' own stay -/
def FrameL (z : Nat) (lay lay' : Nat → Addr) (σ σ' : Nat → Obj) : Prop := ∀ i, (i = 3 ∨ 14 ≤ i) → i < z → lay' i = lay i ∧ σ' i = σ i
theorem FrameL.refl (z : Nat) (lay : Nat → Addr) (σ : Nat → Obj) : FrameL z lay lay σ σ := fun _ _ _ => ⟨rfl, rfl⟩
theorem Frame.toL {z : Nat} {lay lay' : Nat → Addr} {σ σ' : Nat → Obj} (h : Frame z lay lay' σ σ') : FrameL z lay lay' σ σ' := fun i h1 h2 => h i (by omega) h2
theorem FrameL.trans {z : Nat} {lay lay' lay'' : Nat → Addr} {σ σ' σ'' : Nat → Obj} (h : FrameL z lay lay' σ σ') (k : FrameL z lay' lay'' σ' σ'') : FrameL z lay lay'' σ σ'' := fun i h1 h2 => ⟨(k i h1 h2).1.trans (h i h1 h2).1, (k i h1 h2).2.trans (h i h1 h2).2⟩
theorem FrameL.upd {z : Nat} {lay lay' : Nat → Addr} {σ σ' : Nat → Obj} (h : FrameL z lay lay' σ σ') {j : Nat} (hj : j ≠ 3 ∧ j < 14) (o : Obj) : FrameL z lay lay' σ (upd σ' j o) := fun i h1 h2 => ⟨(h i h1 h2).1, by rw [upd_ne _ _ (show i ≠ j by omega)]; exact (h i h1 h2).2⟩
theorem FrameL.swap {z : Nat} {lay lay' : Nat → Addr} {σ σ' : Nat → Obj} (h : FrameL z lay lay' σ σ') {j : Nat} (hj : j ≠ 3 ∧ j < 14) (q : Addr) (o : Obj) : FrameL z lay (Mine.upd lay' j q) σ (Mine.upd σ' j o) := fun i h1 h2 =>
  ⟨by rw [upd_ne _ _ (show i ≠ j by omega)]; exact (h i h1 h2).1, by rw [upd_ne _ _ (show i ≠ j by omega)]; exact (h i h1 h2).2⟩
theorem FRep.toL {w : World} {fd : Addr} {fx : Fux} {z : Nat} {lay lay' : Nat → Addr} {σ σ' : Nat → Obj} {imm imm' news' : Led} {cells : List Int} {b : Nat} (B : FRep w fd fx lay σ imm cells b) (S : Sys z lay' σ' imm' news') (fr : FrameL z lay lay' σ σ') (su : Suf imm imm') : FRep w fd fx lay' σ' imm' cells b :=
  (B.mono su.sub (Nat.le_refl _)).same (fr 3 (.inl rfl) (S.up (by decide)))
def DPost (w : World) (z : Nat) (st bk : Addr) (lay lay' : Nat → Addr) (σ σ' : Nat → Obj) (imm' : Led) (x : SX) (y : BX) (b : Nat) : Prop :=
  ∃ ax' bx', StRep w st ax' lay' σ' imm' x b ∧ BRep w bk bx' lay' σ' imm' y b ∧ FrameL z lay lay' σ σ'

/-! dict(d) of a dict by pairs -/
section
variable {prog : Program} {w : World} {A : Around} {E : Value → Shared → Prop} {s : Shared} {h₀ : Heap} {L : Addr} {m : Str → Option Value} {z : Nat} {lay : Nat → Addr} {σ : Nat → Obj} {imm news : Led}
theorem quietEq_tup {a : Addr} {ok : Obj} {Q : Bool → Shared → Prop} (ho : s.heap.get? a = some ok) (hc : ok.cls = .type "tuple") (h : Q false s) : wpAny (model prog w) A (Builtin.Dict.quietEq (.ref a)) Q E s := by
  unfold Builtin.Dict.quietEq
  have hT : s.TypeIs (.ref a) "tuple" := ⟨ok, ho, hc⟩
  refine wpAny_bind (wpAny_specialOf hT F.slot_tuple_eq.lookup ?_)
  exact wpAny_pure h
theorem entries_tup {id : String} {d : Addr} {o : Obj} {es ep} {Q : Array DictEntry → Shared → Prop} (ho : s.heap.get? d = some o) (hd : o.data = .dict es ep)
    (hk : ∀ e ∈ es, ∃ a ok, e.key = .ref a ∧ s.heap.get? a = some ok ∧ ok.cls = .type "tuple") (hh : ∀ e ∈ es, (es.filter (·.hash == e.hash)).size ≤ 1) (h : Q es s) :
    wpAny (model prog w) A (Builtin.Dict.entriesForEmpty id d) Q E s := by
  unfold Builtin.Dict.entriesForEmpty
  refine wpAny_bind (wpAny_dictEntries ho hd ?_)
  refine wpAny_bind ?_
  show wpAny _ _ (forIn es _ _) _ _ s
  rw [← Array.forIn_toList]
  refine wpAny_forIn_list _ (fun rest _ s' => s' = s ∧ ∀ e ∈ rest, e ∈ es) _ ?_ ?_ _ _ ⟨rfl, fun e he => Array.mem_toList_iff.mp he⟩
  · rintro e rest b s' ⟨rfl, hall⟩
    have he := hall e (.head _)
    obtain ⟨a, ok, h1, h2, h3⟩ := hk e he
    refine wpAny_bind ?_
    rw [h1]
    refine quietEq_tup h2 h3 ?_
    have hs : ¬ (es.filter (·.hash == e.hash)).size > 1 := Nat.not_lt.mpr (hh e he)
    simp only [Bool.not_false, if_true, if_neg hs]
    exact wpAny_pure ⟨rfl, fun e' h' => hall e' (.tail _ h')⟩
  · rintro b s' ⟨rfl, _⟩
    exact wpAny_pure h
theorem filter_one : ∀ (l : List DictEntry), (l.map (·.hash)).Nodup → ∀ e ∈ l, (l.filter (·.hash == e.hash)).length ≤ 1 := by
  intro l
  induction l with
  | nil => intro _ e he; cases he
  | cons x r ih =>
    intro hn e he
    rw [List.map_cons, List.nodup_cons] at hn
    rw [List.filter_cons]
    by_cases hx : x.hash = e.hash
    · have : r.filter (·.hash == e.hash) = [] := List.filter_eq_nil_iff.mpr fun y hy hq => hn.1 (List.mem_map.mpr ⟨y, hy, by rw [hx]; exact eq_of_beq hq⟩)
      rw [this]; split <;> simp
    · rw [if_neg (by simpa using hx)]
      rcases List.mem_cons.mp he with rfl | he
      · exact absurd rfl hx
      · exact ih hn.2 e he
theorem dict_copy_tup {o : Addr} {oo : Obj} {es : Array DictEntry} {ep : Nat} {Q : Value → Shared → Prop} (hoS : (o == sysModules) = false) (ho : s.heap.get? o = some oo) (hc : oo.ExactDict) (hd : oo.data = .dict es ep)
    (hk : ∀ e ∈ es, ∃ a ok, e.key = .ref a ∧ s.heap.get? a = some ok ∧ ok.cls = .type "tuple") (hn : (es.toList.map (·.hash)).Nodup) (hsz : es.size ≤ sizeLine)
    (h : ∀ h' o' ep', h'.get? s.heap.objs.size = some o' → o'.ExactDict → o'.data = .dict es ep' → Heap.SameBut s.heap.objs.size (s.heap.push { cls := .type "dict", data := .dict #[] }) h' → Q (.ref s.heap.objs.size) { s with heap := h' }) :
    wpAny (model prog w) A (call (.type "dict") [.ref o]) Q E s := by
  refine callType_codes (Q₁ := fun obj s₁ => obj = .ref s.heap.objs.size ∧ s₁ = { s with heap := s.heap.push { cls := .type "dict", data := .dict #[] } }) F.kt_called_dict (F.kt_typeCall_dict_1 _) F.entry_dict_init (kt_code_dict_new _ ⟨rfl, rfl⟩) ?_
  rintro obj s₁ ⟨rfl, rfl⟩
  have hself : (s.heap.push { cls := .type "dict", data := .dict #[] }).get? s.heap.objs.size = some ({ cls := .type "dict", data := .dict #[] } : Obj) := Heap.get?_push_size _ rfl
  have hT : ({ s with heap := s.heap.push { cls := .type "dict", data := .dict #[] } } : Shared).TypeIs (.ref s.heap.objs.size) "dict" := ⟨_, hself, rfl⟩
  have ho' : (s.heap.push { cls := .type "dict", data := .dict #[] }).get? o = some oo := Heap.get?_push_of_some _ ho
  have hTo : ({ s with heap := s.heap.push { cls := .type "dict", data := .dict #[] } } : Shared).TypeIs (.ref o) "dict" := ⟨_, ho', hc.1⟩
  have hdo : s.heap.objs.size ≠ o := fun e => absurd (Heap.lt_size ho) (by rw [e]; exact Nat.lt_irrefl _)
  refine ⟨hT, F.args_dict_init_2 _ _, ?_⟩
  unfold Builtin.«dict.__init__»
  refine wpAny_bind ?_
  unfold Builtin.Dict.selfAndRest
  refine wpAny_bind (wpAny_notOrdered_dict hT ?_)
  show wpAny _ _ (pure (s.heap.objs.size, [Value.ref o])) _ _ _
  refine wpAny_pure ?_
  show wpAny _ _ (Builtin.Dict.updateFrom "dict.__init__" s.heap.objs.size (.ref o) [] .none) _ _ _
  unfold Builtin.Dict.updateFrom
  refine wpAny_bind (wpAny_typeOf hTo ?_)
  rw [if_neg (by decide)]
  refine wpAny_bind ?_
  unfold Builtin.Dict.merge
  refine wpAny_bind ?_
  unfold Builtin.Dict.readDirectly
  refine wpAny_bind (wpAny_isInstance hTo isSubtype_dict_dict ?_)
  simp only [Bool.not_true, Bool.false_eq_true, if_false]
  refine wpAny_bind (wpAny_specialOf hTo F.slot_dict_iter.lookup (wpAny_pure ?_))
  simp only [beq_self_eq_true, if_true]
  refine wpAny_bind (wpAny_pure ?_)
  unfold Builtin.Dict.mergeDict
  rw [if_neg (by simpa using hdo)]
  unfold Builtin.Dict.showsAll
  rw [if_neg (by rw [hoS]; exact Bool.false_ne_true)]
  refine wpAny_bind (wpAny_pure ?_)
  refine wpAny_bind (wpAny_dictEntries ho' hd ?_)
  by_cases hz : es = #[]
  · subst hz
    show wpAny _ _ (if (!(decide ((#[] : Array DictEntry).size ≤ 8) && (#[] : Array DictEntry).all fun e => (keyPart e.key).isSome)) = true then _ else _) _ _ _
    rw [if_neg (by simp)]
    refine wpAny_bind (wpAny_dictEpoch ho' hd ?_)
    refine wpAny_bind (wpAny_dictEntries ho' hd ?_)
    refine wpAny_bind ?_
    rw [Std.Legacy.Range.forIn_eq_forIn_range']
    refine wpAny_pure (wpAny_pure ?_)
    exact wpAny_bind (wpAny_pure (wpAny_pure ⟨rfl, h _ _ _ hself ⟨rfl, rfl, rfl⟩ rfl (Heap.SameBut.refl _ _)⟩))
  · have hne : es.isEmpty = false := by
      cases q : es.isEmpty with
      | false => rfl
      | true => exact absurd (Array.isEmpty_iff.mp q) hz
    have hall : (es.all fun e => (keyPart e.key).isSome) = false := by
      have hp : 0 < es.size := Nat.pos_of_ne_zero fun e => hz (Array.eq_empty_of_size_eq_zero e)
      obtain ⟨a, ok, h1, _⟩ := hk es[0] (Array.getElem_mem hp)
      rw [Array.all_eq_false]
      exact ⟨0, hp, by rw [h1]; exact fun h => Bool.noConfusion h⟩
    have few : (!(decide (es.size ≤ 8) && es.all fun e => (keyPart e.key).isSome)) = true := by rw [hall, Bool.and_false]; rfl
    show wpAny _ _ (if (!(decide (es.size ≤ 8) && es.all fun e => (keyPart e.key).isSome)) = true then _ else _) _ _ _
    rw [if_pos few]
    refine wpAny_bind (wpAny_dictEntries (o := { cls := .type "dict", data := .dict #[] }) hself rfl ?_)
    rw [if_pos (by rfl)]
    refine wpAny_bind (entries_tup ho' hd (fun e he => let ⟨a, ok, h1, h2, h3⟩ := hk e he; ⟨a, ok, h1, Heap.get?_push_of_some _ h2, h3⟩) (fun e he => by
      have := filter_one es.toList hn e (Array.mem_toList_iff.mpr he)
      rw [← Array.length_toList, Array.toList_filter]; exact this) ?_)
    show wpAny _ _ (if (!es.isEmpty) = true then _ else _) _ _ _
    rw [if_pos (by rw [hne]; rfl)]
    refine wpAny_bind (wpAny_updateDictKeysTo (o := { cls := .type "dict", data := .dict #[] }) hself rfl (wpAny_pure ?_) (Nat.le_succ_of_le hsz))
    refine wpAny_bind (wpAny_pure (wpAny_pure ⟨rfl, h _ _ _ (Heap.get?_update_self _ hself (Obj.isFreed_of_dict (Obj.data_mapDictKeys (o := { cls := .type "dict", data := .dict #[] }) rfl _))) ?_ (Obj.data_mapDictKeys (o := { cls := .type "dict", data := .dict #[] }) rfl _) (Heap.SameBut.update ..)⟩))
    exact Obj.ExactDict.mapDictKeys ⟨rfl, rfl, rfl⟩ _
end
theorem inj_of_nodup_map {α β : Type} (f : α → β) : ∀ (l : List α), (l.map f).Nodup → ∀ x ∈ l, ∀ y ∈ l, f x = f y → x = y := by
  intro l
  induction l with
  | nil => intro _ x hx; cases hx
  | cons a r ih =>
    intro hn x hx y hy e
    rw [List.map_cons, List.nodup_cons] at hn
    rcases List.mem_cons.mp hx with hx' | hx'
    · rcases List.mem_cons.mp hy with hy' | hy'
      · rw [hx', hy']
      · exact absurd (List.mem_map.mpr ⟨y, hy', by rw [← hx']; exact e.symm⟩) hn.1
    · rcases List.mem_cons.mp hy with hy' | hy'
      · exact absurd (List.mem_map.mpr ⟨x, hx', by rw [← hy']; exact e⟩) hn.1
      · exact ih hn.2 x hx' y hy' e
theorem nodup_of_map {α β : Type} (f : α → β) : ∀ (l : List α), (l.map f).Nodup → l.Nodup := by
  intro l
  induction l with
  | nil => intro _; exact List.nodup_nil
  | cons a r ih =>
    intro hn
    rw [List.map_cons, List.nodup_cons] at hn
    exact List.nodup_cons.mpr ⟨fun h => hn.1 (List.mem_map.mpr ⟨a, h, rfl⟩), ih hn.2⟩
theorem nodup_map_on {α β : Type} (f : α → β) : ∀ (l : List α), l.Nodup → (∀ x ∈ l, ∀ y ∈ l, f x = f y → x = y) → (l.map f).Nodup := by
  intro l
  induction l with
  | nil => intro _ _; exact List.nodup_nil
  | cons a r ih =>
    intro hn h
    rw [List.nodup_cons] at hn
    rw [List.map_cons, List.nodup_cons]
    refine ⟨fun hm => ?_, ih hn.2 fun x hx y hy => h x (.tail _ hx) y (.tail _ hy)⟩
    obtain ⟨y, hy, e⟩ := List.mem_map.mp hm
    exact hn.1 ((h y (.tail _ hy) a (.head _) e) ▸ hy)
def nine : List (List Int) := [[3, 0], [3, 9], [3, 2 ^ 256 - 1], [77, 0], [77, 9], [77, 2 ^ 256 - 1], [2 ^ 160 - 1, 0], [2 ^ 160 - 1, 9], [2 ^ 160 - 1, 2 ^ 256 - 1]]
def hashOf (ks : List Int) : Int := reduceHash (Builtin.Tuple.tupleHashOf (ks.map hashInt))
theorem nine_nodup : (nine.map hashOf).Nodup := by decide +kernel
theorem Ky.mem {ks : List Int} (h : Ky ks) : ks ∈ nine := by
  obtain ⟨p, k, rfl, hp, hk⟩ := h
  rcases hp with rfl | rfl | rfl <;> rcases hk with rfl | rfl | rfl <;> simp [nine]
theorem Ky.hash {prog : Program} {w : World} {ks ks' : List Int} (h : Ky ks) (h' : Ky ks') (e : (tupleKind (intKind prog w)).hash ks = (tupleKind (intKind prog w)).hash ks') : ks = ks' :=
  inj_of_nodup_map hashOf nine nine_nodup _ h.mem _ h'.mem e
section
variable {w : World} {A : Around} {E : Value → Shared → Prop} {s : Shared} {h₀ : Heap} {L : Addr} {m : Str → Option Value} {z : Nat} {lay : Nat → Addr} {σ : Nat → Obj} {imm news : Led} {bk : Addr} {bx : Bux} {y : BX} {b : Nat} {p k : Int} {t u : Tok} {tp : Addr} {cur : Int → Int → Option Int} {q : Addr} {o : Obj}
theorem size_lo (F : Fr h₀ L s.heap m) (lim : h₀.NoLimit) : (s.heap.objs.size == sysModules) = false := by
  have h1 := modules_low lim; have h2 := F.above; have h3 := F.ns.lt
  exact beq_eq_false_iff_ne.mpr (Nat.ne_of_gt (Nat.lt_of_lt_of_le h1 (Nat.le_trans h2 (Nat.le_of_lt h3))))
theorem copy_wd {d : Addr} {Q : Value → Shared → Prop} (F : Fr h₀ L s.heap m) (N : News h₀ L s.heap news) (S : Sys z lay σ imm news) (lim : h₀.NoLimit) (hd : (d, o) ∈ news) (lo : (d == sysModules) = false) (W : Wd w imm o cur b) (hb : b ≤ 1000000)
    (h : ∀ q h' o' news', Fr h₀ L h' m → News h₀ L h' news' → Sys z lay σ imm news' → Fresh z lay imm news' q o' → Wd w imm o' cur b → Q (.ref q) { s with heap := h' }) :
    wpAny (model pr w) A (call (.type "dict") [.ref d]) Q E s := by
  obtain ⟨f, ⟨es, ep, xs, a, b1, c, n, e, g, l⟩, e2, e3⟩ := W
  have hx : ∀ x ∈ xs, Ky x.1 := fun x hx => e3 _ (by
    rw [← g x.1, Option.isSome_map]
    unfold atKey
    rw [Option.isSome_map, List.find?_isSome]
    exact ⟨x, hx, by simp⟩)
  refine dict_copy_tup lo (N.get hd) a b1 (fun en he => ?_) ?_ (by rw [size_of_entries c, sizeLine_eq]; omega) fun h' o' ep' h1 h2 h3 hs => ?_
  · have he' := Array.mem_toList_iff.mpr he
    rw [c] at he'
    obtain ⟨x, hxm, rfl⟩ := List.mem_map.mp he'
    obtain ⟨ok, m1, m2⟩ := e x hxm
    exact ⟨_, ok, rfl, N.get (S.sub _ m1), m2.1⟩
  · rw [c, List.map_map]
    have n' : xs.Nodup := by
      exact nodup_of_map (·.1) xs n
    refine nodup_map_on _ xs n' fun x hx1 y hy1 exy => ?_
    have ek : x.1 = y.1 := (hx x hx1).hash (hx y hy1) exy
    exact inj_of_nodup_map (·.1) xs n x hx1 y hy1 ek
  · have N1 := News.push F N { cls := .type "dict", data := .dict #[] }
    have F' := (F.push { cls := .type "dict", data := .dict #[] }).change hs (N1 _ (.head _)).2.1 (N1.fresh (.head _))
    exact h _ h' o' _ F' (N1.setHead N.apart hs h1) (S.cons _) (fresh_of S (fun p hp => Heap.lt_size (N p hp).1) (size_lo F lim)) ⟨f, ⟨es, ep', xs, h2, h3, c, n, e, g, l⟩, e2, e3⟩
theorem copy_list {l : Addr} {vs : List Value} {n : Nat} {Q : Value → Shared → Prop} (F : Fr h₀ L s.heap m) (N : News h₀ L s.heap news) (S : Sys z lay σ imm news) (lim : h₀.NoLimit) (hm : (l, listOf vs.toArray n) ∈ news) (hb : vs.length ≤ 1000000)
    (h : ∀ q c h' news', Fr h₀ L h' m → News h₀ L h' news' → Sys z lay σ imm news' → Fresh z lay imm news' q (listOf vs.toArray c) → Q (.ref q) { s with heap := h' }) :
    wpAny (model pr w) A (call (.type "list") [.ref l]) Q E s := by
  obtain ⟨o, ho, hc, n', hd⟩ : s.heap.IsList l vs.toArray := ⟨_, N.get hm, rfl, _, rfl⟩
  exact call_list_seq (hsz := by rw [List.size_toArray, sizeLine_eq]; omega) l (.inl rfl) ho hc hd fun h' c' hk hD => h _ c' h' _ (F.keeps hk) (news_pushed F N hk hD rfl) (S.cons _) (fresh_of S (fun p hp => Heap.lt_size (N p hp).1) (size_lo F lim))
theorem Sys.drop (S : Sys (z + 1) lay σ imm news) (hz : 14 ≤ z) : Sys z lay σ imm news :=
  ⟨hz, fun i j hi hj e => S.inj i j (by omega) (by omega) e, fun i hi => S.mem' i (by omega), S.sub, fun p hp i hi => S.off p hp i (by omega), S.lo⟩
theorem Sys.fresh (S : Sys (z + 1) lay σ imm news) (lo : (lay z == sysModules) = false) : Fresh z lay imm news (lay z) (σ z) :=
  ⟨S.mem' z (by omega), fun i hi e => by have := S.inj z i (by omega) (by omega) e; omega, fun p hp e => S.off p hp z (by omega) e, lo⟩
theorem Sys.keepF (S : Sys z lay σ imm news) (f : Fresh z lay imm news q o) : Sys z lay σ ((q, o) :: imm) news := S.keep1 f.1 f.2.1
theorem Sys.own (S : Sys z lay σ imm news) (f : Fresh z lay imm news q o) : Sys (z + 1) (upd lay z q) (upd σ z o) imm news := S.more f.1 f.2.1 f.2.2.1
theorem Sys.keepZ (S : Sys (z + 1) lay σ imm news) (hz : 14 ≤ z) : Sys z lay σ ((lay z, σ z) :: imm) news :=
  (S.drop hz).keep1 (S.mem' z (by omega)) fun i hi e => by have := S.inj z i (by omega) (by omega) e; omega
theorem BRep.more (B : BRep w bk bx lay σ imm y b) (hz : 14 ≤ z) (q : Addr) (o : Obj) : BRep w bk bx (upd lay z q) (upd σ z o) imm y b := B.same fun i _ h2 => ⟨upd_ne _ _ (by omega), upd_ne _ _ (by omega)⟩
theorem BRep0.more (B : BRep0 w bk lay σ imm cur b) (hz : 14 ≤ z) (q : Addr) (o : Obj) : BRep0 w bk (upd lay z q) (upd σ z o) imm cur b := B.same fun i _ h2 => ⟨upd_ne _ _ (by omega), upd_ne _ _ (by omega)⟩
theorem FRep.more {fd : Addr} {fx : Fux} {cells : List Int} (B : FRep w fd fx lay σ imm cells b) (hz : 14 ≤ z) (q : Addr) (o : Obj) : FRep w fd fx (upd lay z q) (upd σ z o) imm cells b := B.same ⟨upd_ne _ _ (by omega), upd_ne _ _ (by omega)⟩
/-! the book's copies -/
theorem r_copy_wl {Q : Value → Shared → Prop} (F : Fr h₀ L s.heap m) (N : News h₀ L s.heap news) (S : Sys z lay σ imm news) (lim : h₀.NoLimit) (B : BRep w bk bx lay σ imm y b) (hb : b ≤ 1000000)
    (h : ∀ q c h' news', Fr h₀ L h' m → News h₀ L h' news' → Sys z lay σ ((q, listOf bx.wvs.toArray c) :: imm) news' → Q (.ref q) { s with heap := h' }) :
    wpAny (model pr w) A (call (.type "list") [.ref (lay iWl)]) Q E s :=
  copy_list F N S lim (S.mem_eq (i := iWl) (by decide) B.wl) (Nat.le_trans B.wlen hb) fun q c h' n' F' N' S' f => h q c h' n' F' N' (S'.keepF f)
theorem r_copy_wd {Q : Value → Shared → Prop} (F : Fr h₀ L s.heap m) (N : News h₀ L s.heap news) (S : Sys z lay σ imm news) (lim : h₀.NoLimit) (B : Wd w imm (σ iWd) cur b) (hb : b ≤ 1000000)
    (h : ∀ q h' o' news', Fr h₀ L h' m → News h₀ L h' news' → Sys z lay σ ((q, o') :: imm) news' → (q == sysModules) = false → Wd w ((q, o') :: imm) o' cur b → Q (.ref q) { s with heap := h' }) :
    wpAny (model pr w) A (call (.type "dict") [.ref (lay iWd)]) Q E s :=
  copy_wd F N S lim (S.mem iWd (by decide)) (S.lo iWd (by decide)) B hb fun q h' o' n' F' N' S' f W => h q h' o' n' F' N' (S'.keepF f) f.2.2.2 (W.mono (fun _ h => .tail _ h) (Nat.le_refl _))
/-! the marks -/
theorem r_ml_push {v : Value} {k : Mk} {Q : Value → Shared → Prop} (F : Fr h₀ L s.heap m) (N : News h₀ L s.heap news) (S : Sys z lay σ imm news) (B : BRep w bk bx lay σ imm y b) (hv : MkIs w imm b v k) (hb : b ≤ 999000)
    (h : ∀ h' o' news', Fr h₀ L h' m → News h₀ L h' news' → Sys z lay (upd σ iMl o') imm news' → BRep w bk { bx with mvs := bx.mvs ++ [v], mn := bx.mn + 1 } lay (upd σ iMl o') imm { y with marks := y.marks ++ [k] } (b + 1) → Q .none { s with heap := h' }) :
    wpAny (model pr w) A (call (.builtin "list.append") [.ref (lay iMl), v]) Q E s :=
  append_Z (by decide) F N S B.ml (by have := B.mlen; rw [List.size_toArray]; omega) fun h' n' F' N' S' => h h' _ n' F' N' S'
    (have B' := B.mono (b' := b + 1) (fun _ q => q) (Nat.le_succ b); ⟨B'.bk, B'.wd, B'.keys, B'.wl, B'.items, B'.wlen, B'.bd, B'.bdl, B'.bef, by rw [upd_self]; simp, B'.marks.snoc (hv.mono (fun _ q => q) (Nat.le_succ b)), by simp; exact B.mlen⟩)
theorem r_eq_ml {n : Nat} {Q : Value → Shared → Prop} (hu : A.units < cLine) (N : News h₀ L s.heap news) (S : Sys z lay σ imm news) (B : BRep w bk bx lay σ imm y b) (hq : (q, listOf #[] n) ∈ news)
    (h : Q (.bool (decide (y.marks.length = 0))) s) : wpAny (model pr w) A (compareOp .Eq (.ref (lay iMl)) (.ref q)) Q E s := by
  have hl : s.heap.IsList (lay iMl) bx.mvs.toArray := ⟨_, N.get (S.mem_eq (i := iMl) (by decide) B.ml), rfl, _, rfl⟩
  have hr : s.heap.IsList q #[] := ⟨_, N.get hq, rfl, _, rfl⟩
  rw [← B.marks.1] at h
  by_cases e : bx.mvs = []
  · refine SeqAt.eq_listAt (e := fun _ => true) hl hr (by simp [e]) hu (fun j h1 h2 => absurd h2 (Nat.not_lt_zero _)) ?_
    rw [e] at h ⊢
    exact h
  · refine SeqAt.eq_list_lengthsAt hl hr (by rw [List.size_toArray]; simpa using e) hu ?_
    rw [decide_eq_false (fun q => e (List.length_eq_zero_iff.mp q))] at h
    exact h
theorem r_len_ml {Q : Value → Shared → Prop} (N : News h₀ L s.heap news) (S : Sys z lay σ imm news) (B : BRep w bk bx lay σ imm y b) (hb : b ≤ 999000)
    (h : ∀ t', Q (.int y.marks.length t') { s with toks := s.toks + 1 + 1 }) : wpAny (model pr w) A (call (.builtin "len") [.ref (lay iMl)]) Q E s := by
  have e : bx.mvs.toArray.size = y.marks.length := by rw [List.size_toArray, B.marks.1]
  have := B.mlen
  refine Calls.call_len_list (items := bx.mvs.toArray) ⟨_, N.get (S.mem_eq (i := iMl) (by decide) B.ml), rfl, _, rfl⟩ (by rw [List.size_toArray]; omega) ?_
  rw [e]; exact h _
theorem r_item_ml {value slice : Expr} {i : Int} {Q : Value → Shared → Prop} (N : News h₀ L s.heap news) (S : Sys z lay σ imm news) (B : BRep w bk bx lay σ imm y b) (hb : b ≤ 999000) (h0 : 0 ≤ i) (h1 : i < y.marks.length)
    (h : ∀ k a tn wl wd tr wvs wn o, y.marks[i.toNat]? = some k → (a, tupO [.int k.n tn, .ref wl, .ref wd, .int k.rf tr]) ∈ imm → (wl, listOf (List.toArray wvs) wn) ∈ imm → All2 (ItemIs imm) wvs k.warm → wvs.length ≤ b →
      (wd, o) ∈ imm → (wd == sysModules) = false → Wd w imm o k.cur b → Q (.ref a) s)
    (hs : subscripted slice false (.ref (lay iMl)) (.int i t) = operate [.ref (lay iMl), .int i t] (getItem (.ref (lay iMl)) (.int i t)) := by with_unfolding_all rfl) : wpAny (model pr w) A (subscriptTail value slice (.ref (lay iMl)) (.int i t)) Q E s := by
  have hl : s.heap.IsList (lay iMl) bx.mvs.toArray := ⟨_, N.get (S.mem_eq (i := iMl) (by decide) B.ml), rfl, _, rfl⟩
  have e1 := B.marks.1
  have hb' := B.mlen
  have hj : i.toNat < bx.mvs.length := by omega
  have hj' : i.toNat < y.marks.length := by omega
  have hQ : Q bx.mvs[i.toNat] s := by
    obtain ⟨a, tn, wl, wd, tr, wvs, wn, o, e, m1, m2, m3, m4, m5, m6, m7⟩ := B.marks.2 i.toNat _ _ (List.getElem?_eq_getElem hj) (List.getElem?_eq_getElem hj')
    rw [e]; exact h _ a tn wl wd tr wvs wn o (List.getElem?_eq_getElem hj') m1 m2 m3 m4 m5 m6 m7
  exact tail_any (T := "list") (PySem.IsL.isList (n := bx.mn) (N.get (S.mem_eq (i := iMl) (by decide) B.ml))).typeIs slot_list_getitem.lookup
    (getItem_listL hl h0 (by omega) (List.getElem?_eq_getElem hj) hQ) hs
theorem r_slice_ml {value slice : Expr} {i : Int} {vu : Value} {Q : Value → Shared → Prop} (F : Fr h₀ L s.heap m) (N : News h₀ L s.heap news) (S : Sys z lay σ imm news) (lim : h₀.NoLimit) (B : BRep w bk bx lay σ imm y b) (hb : b ≤ 999000) (h0 : 0 ≤ i) (pu : IsPart vu (some i))
    (h : ∀ q h' news', Fr h₀ L h' m → News h₀ L h' news' → Sys z lay σ imm news' → Fresh z lay imm news' q (listOf (bx.mvs.take i.toNat).toArray 0) → Q (.ref q) { s with heap := h' })
    (hs : subscripted slice false (.ref (lay iMl)) (.ref s.heap.objs.size) = operate [.ref s.heap.objs.size, .ref (lay iMl)] (getItem (.ref (lay iMl)) (.ref s.heap.objs.size))) (ht : ∀ r, letTemporaryGo value (.ref (lay iMl)) r = pure ()) :
    wpAny (model pr w) A (subscriptTail value slice (.ref (lay iMl)) (.ref s.heap.objs.size)) Q E { s with heap := s.heap.push { cls := .type "slice", data := .fields #[.none, vu, .none] } } := by
  have hl : s.heap.IsList (lay iMl) bx.mvs.toArray := ⟨_, N.get (S.mem_eq (i := iMl) (by decide) B.ml), rfl, _, rfl⟩
  have hb' := B.mlen
  refine slice_list F N hl .none pu (fun h' F' N' => ?_) hs ht (by rw [List.size_toArray, sizeLine_eq]; omega)
  have lo' : ((s.heap.objs.size + 1 : Nat) == sysModules) = false := by
    have h1 := modules_low lim; have h2 := F.above; have h3 := F.ns.lt
    exact beq_eq_false_iff_ne.mpr (Nat.ne_of_gt (Nat.lt_succ_of_lt (Nat.lt_of_lt_of_le h1 (Nat.le_trans h2 (Nat.le_of_lt h3)))))
  have e : slicePick bx.mvs.toArray none (some i) none = (bx.mvs.take i.toNat).toArray := by
    rw [kms_pick_eq]
    unfold kms_pick kms_lo kms_hi
    simp only [if_neg (show ¬ i < 0 by omega), List.drop_zero, Nat.sub_zero]
    congr 1
    by_cases hc : i.toNat ≤ bx.mvs.length
    · rw [Nat.min_eq_left hc]
    · rw [Nat.min_eq_right (by omega), List.take_of_length_le (Nat.le_refl _), List.take_of_length_le (by omega)]
  rw [e] at N'
  exact h _ h' _ F' N' (S.cons _) (fresh_of S (fun p hp => Nat.lt_succ_of_lt (Heap.lt_size (N p hp).1)) lo')
/-! a key of the book -/
theorem set_key {i c : Nat} {key : Str} {f : Str → Option Value} {Q : Unit → Shared → Prop} (hi : i < 14) (F : Fr h₀ L s.heap m) (N : News h₀ L s.heap news) (S : Sys z lay σ imm news) (fr : Fresh z lay imm news q o) (T : StrD pr w (σ iBk) f c) (hb : c ≤ 999000)
    (h : ∀ h' o' news', Fr h₀ L h' m → News h₀ L h' news' → Sys z (upd lay i q) (upd (upd σ iBk o') i o) imm news' → StrD pr w o' (fun x => if x = key then some (.ref q) else f x) (c + 1) → Q () { s with heap := h', toks := s.toks + 1 }) :
    wpAny (model pr w) A (setItem (.ref (lay iBk)) (.str key t) (.ref q)) Q E s := by
  obtain ⟨kvs, hD, e, l⟩ := T.dict (s := s) N (S.mem iBk (by decide))
  refine wpAny_setItem_pairs (hsz := by rw [sizeLine_eq]; omega) (strKind_is pr w key t) hD fun h' hm' hs => ?_
  obtain ⟨o', ho', hd'⟩ := Heap.dictOf_iff.mp hm'
  obtain ⟨F', N'⟩ := S.change (S.up (i := iBk) (by decide)) F N hs ho'
  exact h h' o' _ F' N' ((S.write (S.up (by decide)) _).swap hi (fr.put (S.up (by decide)) _)) ⟨_, hd', fun x => by rw [valueAt_stored, e], Nat.le_trans (stored_length_le _ _ _) (by omega)⟩
theorem set_keyV {c : Nat} {key : Str} {v : Value} {f : Str → Option Value} {Q : Unit → Shared → Prop} (F : Fr h₀ L s.heap m) (N : News h₀ L s.heap news) (S : Sys z lay σ imm news) (T : StrD pr w (σ iBk) f c) (hb : c ≤ 999000)
    (h : ∀ h' o' news', Fr h₀ L h' m → News h₀ L h' news' → Sys z lay (upd σ iBk o') imm news' → StrD pr w o' (fun x => if x = key then some v else f x) (c + 1) → Q () { s with heap := h', toks := s.toks + 1 }) :
    wpAny (model pr w) A (setItem (.ref (lay iBk)) (.str key t) v) Q E s :=
  key_setZ (i := iBk) (by decide) F N S T (strKind_is pr w key t) (by omega) h
/-- x[i] of a tuple that never turns -/
theorem r_item_tup {value slice : Expr} {a : Addr} {vs : List Value} {i : Int} {v : Value} {Q : Value → Shared → Prop} (N : News h₀ L s.heap news) (S : Sys z lay σ imm news) (hm : (a, tupO vs) ∈ imm) (h0 : 0 ≤ i) (hf : i < 2 ^ 63) (hx : vs[i.toNat]? = some v) (h : Q v s)
    (hs : subscripted slice false (.ref a) (.int i t) = operate [.ref a, .int i t] (getItem (.ref a) (.int i t)) := by with_unfolding_all rfl) : wpAny (model pr w) A (subscriptTail value slice (.ref a) (.int i t)) Q E s := by
  have ht : IsTup s.heap a vs.toArray := ⟨_, N.get (S.sub _ hm), rfl, _, rfl⟩
  have hlt := (List.getElem?_eq_some_iff.mp hx).1
  refine item_tupleT ht (by omega) hf (j := i.toNat) ?_ hx h hs
  unfold seqIndex?
  simp only [if_neg (show ¬ i < 0 by omega)]
  rw [if_pos (by simp only [Bool.and_eq_true, decide_eq_true_eq]; omega)]
theorem r_pick3 {value slice : Expr} {a : Addr} {a1 a2 a3 : Int} {t1 t2 t3 : Tok} {i : Nat} {Q : Value → Shared → Prop} (N : News h₀ L s.heap news) (S : Sys z lay σ imm news) (hm : (a, tupO [.int a1 t1, .int a2 t2, .int a3 t3]) ∈ imm) (hi : i < 3) (h : ∀ v t', (v = a1 ∨ v = a2 ∨ v = a3) → Q (.int v t') s)
    (hs : subscripted slice false (.ref a) (.int i t) = operate [.ref a, .int i t] (getItem (.ref a) (.int i t)) := by with_unfolding_all rfl) : wpAny (model pr w) A (subscriptTail value slice (.ref a) (.int i t)) Q E s := by
  rcases i with _ | _ | _ | i
  · exact r_item_tup N S hm (by decide) (by decide) rfl (h _ _ (.inl rfl)) hs
  · exact r_item_tup N S hm (by decide) (by decide) rfl (h _ _ (.inr (.inl rfl))) hs
  · exact r_item_tup N S hm (by decide) (by decide) rfl (h _ _ (.inr (.inr rfl))) hs
  · omega
theorem r_eq_pairs {q r : Addr} {a b' c d : Int} {t1 t2 t3 t4 : Tok} {Q : Value → Shared → Prop} (hu : A.units + 64 < cLine) (N : News h₀ L s.heap news) (S : Sys z lay σ imm news) (hq : (q, tupO [.int a t1, .int b' t2]) ∈ imm) (hr : (r, tupO [.int c t3, .int d t4]) ∈ imm) (e1 : a = c) (e2 : b' = d)
    (h : Q (.bool true) s) : wpAny (model pr w) A (compareOp .Eq (.ref q) (.ref r)) Q E s := by
  have R1 : Reads s.heap (.ref q) (.tuple [.int a, .int b']) _ := .tuple (N.get (S.sub _ hq)) rfl rfl (.cons (.int a t1) (.cons (.int b' t2) .nil))
  have R2 : Reads s.heap (.ref r) (.tuple [.int c, .int d]) _ := .tuple (N.get (S.sub _ hr)) rfl rfl (.cons (.int c t3) (.cons (.int d t4) .nil))
  refine eq_dataH R1 R2 rfl rfl hu ?_
  subst e1 e2
  simpa [PyData.eqv, PyData.eqvAll] using h
end

/-! a book's key gets a fresh object -/
/-- the loops' own places stay -/
def FrameO (z : Nat) (lay lay' : Nat → Addr) (σ σ' : Nat → Obj) : Prop := ∀ i, 14 ≤ i → i < z → lay' i = lay i ∧ σ' i = σ i
section
variable {z : Nat} {lay lay' lay'' : Nat → Addr} {σ σ' σ'' : Nat → Obj}
theorem FrameO.refl (z : Nat) (lay : Nat → Addr) (σ : Nat → Obj) : FrameO z lay lay σ σ := fun _ _ _ => ⟨rfl, rfl⟩
theorem FrameO.trans (h : FrameO z lay lay' σ σ') (k : FrameO z lay' lay'' σ' σ'') : FrameO z lay lay'' σ σ'' := fun i h1 h2 => ⟨(k i h1 h2).1.trans (h i h1 h2).1, (k i h1 h2).2.trans (h i h1 h2).2⟩
theorem FrameO.updS (h : FrameO z lay lay' σ σ') {j : Nat} (hj : j < 14 ∨ z ≤ j) (o : Obj) : FrameO z lay lay' σ (Mine.upd σ' j o) := fun i h1 h2 => ⟨(h i h1 h2).1, by rw [upd_ne _ _ (show i ≠ j by omega)]; exact (h i h1 h2).2⟩
theorem FrameO.updL (h : FrameO z lay lay' σ σ') {j : Nat} (hj : j < 14 ∨ z ≤ j) (q : Addr) : FrameO z lay (Mine.upd lay' j q) σ σ' := fun i h1 h2 => ⟨by rw [upd_ne _ _ (show i ≠ j by omega)]; exact (h i h1 h2).1, (h i h1 h2).2⟩
theorem Frame.toO (h : Frame z lay lay' σ σ') : FrameO z lay lay' σ σ' := fun i h1 h2 => h i (by omega) h2
theorem FrameL.toO (h : FrameL z lay lay' σ σ') : FrameO z lay lay' σ σ' := fun i h1 h2 => h i (by omega) h2
theorem OnlyF.toO (h : OnlyF z σ σ') : FrameO z lay lay σ σ' := fun i h1 h2 => ⟨rfl, h i h2 (by omega)⟩
theorem FrameO.top (h : FrameO (z + 1) lay lay' σ σ') : FrameO z lay lay' σ σ' := fun i h1 h2 => h i h1 (by omega)
end
section
variable {w : World} {A : Around} {E : Value → Shared → Prop} {s : Shared} {h₀ : Heap} {L : Addr} {m : Str → Option Value} {z : Nat} {lay : Nat → Addr} {σ : Nat → Obj} {imm news : Led} {st fd bk : Addr} {ax : Aux} {bx : Bux} {fx : Fux} {x : SX} {y : BX} {cells : List Int} {b : Nat} {p k : Int} {t u : Tok} {tp : Addr} {cur : Int → Int → Option Int} {q : Addr} {o : Obj}
theorem Sys.two (S : Sys (z + 2) lay σ imm news) (hz : 14 ≤ z) (lo : (lay z == sysModules) = false) :
    Sys (z + 1) (upd lay z (lay (z + 1))) (upd σ z (σ (z + 1))) imm news ∧ Fresh (z + 1) (upd lay z (lay (z + 1))) imm news (lay z) (σ z) := by
  have S1 : Sys (z + 1) lay σ imm news := Sys.drop (z := z + 1) S (by omega)
  have S0 : Sys z lay σ imm news := S1.drop hz
  refine ⟨S0.more (S.mem' (z + 1) (by omega)) (fun i hi e => ?_) (fun p hp e => S.off p hp (z + 1) (by omega) e), S.mem' z (by omega), fun i hi e => ?_, fun p hp e => S.off p hp z (by omega) e, lo⟩
  · have := S.inj (z + 1) i (by omega) (by omega) e; omega
  · by_cases a : i = z
    · subst a; rw [upd_self] at e; have := S.inj i (i + 1) (by omega) (by omega) e; omega
    · rw [upd_ne _ _ a] at e; have := S.inj z i (by omega) (by omega) e; omega
theorem Sys.two' {q1 q2 : Addr} {o1 o2 : Obj} (S : Sys (z + 1 + 1) (upd (upd lay z q1) (z + 1) q2) (upd (upd σ z o1) (z + 1) o2) imm news) (hz : 14 ≤ z) (lo : (q1 == sysModules) = false) :
    Sys (z + 1) (upd lay z q2) (upd σ z o2) imm news ∧ Fresh (z + 1) (upd lay z q2) imm news q1 o1 := by
  have e1 : upd (upd lay z q1) (z + 1) q2 z = q1 := by rw [upd_ne _ _ (by omega), upd_self]
  have e2 : upd (upd σ z o1) (z + 1) o2 z = o1 := by rw [upd_ne _ _ (by omega), upd_self]
  obtain ⟨h1, h2⟩ := S.two hz (by rw [e1]; exact lo)
  rw [upd_self, upd_self] at h1
  rw [upd_self, e1, e2] at h2
  have ea : ∀ i, i < z + 1 → upd lay z q2 i = upd (upd (upd lay z q1) (z + 1) q2) z q2 i := fun i hi => by
    by_cases a : i = z
    · subst a; rw [upd_self, upd_self]
    · rw [upd_ne _ _ a, upd_ne _ _ a, upd_ne _ _ (by omega), upd_ne _ _ a]
  have eo : ∀ i, i < z + 1 → upd σ z o2 i = upd (upd (upd σ z o1) (z + 1) o2) z o2 i := fun i hi => by
    by_cases a : i = z
    · subst a; rw [upd_self, upd_self]
    · rw [upd_ne _ _ a, upd_ne _ _ a, upd_ne _ _ (by omega), upd_ne _ _ a]
  refine ⟨⟨h1.le, fun i j hi hj e => h1.inj i j hi hj (by rw [← ea i hi, ← ea j hj]; exact e), fun i hi => by rw [ea i hi, eo i hi]; exact h1.mem' i hi, h1.sub, fun p hp i hi => by rw [ea i hi]; exact h1.off p hp i hi, fun i hi => by rw [ea i (by omega)]; exact h1.lo i hi⟩,
    h2.1, fun i hi => by rw [ea i hi]; exact h2.2.1 i hi, h2.2.2⟩
theorem two_same {q1 q2 : Addr} {o1 o2 : Obj} (hz : 14 ≤ z) : ∀ i, i < 14 → upd lay z q2 i = upd (upd lay z q1) (z + 1) q2 i ∧ upd σ z o2 i = upd (upd σ z o1) (z + 1) o2 i := fun i hi =>
  ⟨by rw [upd_ne _ _ (by omega), upd_ne _ _ (by omega), upd_ne _ _ (by omega)], by rw [upd_ne _ _ (by omega), upd_ne _ _ (by omega), upd_ne _ _ (by omega)]⟩
theorem StRep.swapB (R : StRep w st ax lay σ imm x b) {i j : Nat} (hi : i = 3 ∨ 10 ≤ i) (hj : j = 3 ∨ 10 ≤ j) (q : Addr) (o o' : Obj) : StRep w st ax (upd lay i q) (upd (upd σ j o') i o) imm x b :=
  R.same' fun a h1 h2 => ⟨upd_ne _ _ (by omega), by rw [upd_ne _ _ (show a ≠ i by omega), upd_ne _ _ (show a ≠ j by omega)]⟩
theorem FRep.swapB (B : FRep w fd fx lay σ imm cells b) {i j : Nat} (hi : i ≠ 3) (hj : j ≠ 3) (q : Addr) (o o' : Obj) : FRep w fd fx (upd lay i q) (upd (upd σ j o') i o) imm cells b :=
  B.same ⟨upd_ne _ _ (Ne.symm hi), by rw [upd_ne _ _ (Ne.symm hi), upd_ne _ _ (Ne.symm hj)]⟩
theorem BRep.lift {imm' : Led} (B : BRep w bk bx lay σ imm y b) (_S : Sys z lay σ imm' news) (su : Suf imm imm') : BRep w bk bx lay σ imm' y b := B.mono su.sub (Nat.le_refl _)
theorem BRep0.lift {imm' : Led} (B : BRep0 w bk lay σ imm cur b) (_S : Sys z lay σ imm' news) (su : Suf imm imm') : BRep0 w bk lay σ imm' cur b := B.mono su.sub (Nat.le_refl _)
theorem FRep.lift {imm' : Led} (B : FRep w fd fx lay σ imm cells b) (_S : Sys z lay σ imm' news) (su : Suf imm imm') : FRep w fd fx lay σ imm' cells b := B.mono su.sub (Nat.le_refl _)
theorem StRep.ownS (R : StRep w st ax lay σ imm x b) (_S : Sys (z + 1) (upd lay z q) (upd σ z o) imm news) (hz : 14 ≤ z) : StRep w st ax (upd lay z q) (upd σ z o) imm x b := R.more hz q o
theorem BRep.ownS (R : BRep w bk bx lay σ imm y b) (_S : Sys (z + 1) (upd lay z q) (upd σ z o) imm news) (hz : 14 ≤ z) : BRep w bk bx (upd lay z q) (upd σ z o) imm y b := R.more hz q o
theorem BRep0.ownS (R : BRep0 w bk lay σ imm cur b) (_S : Sys (z + 1) (upd lay z q) (upd σ z o) imm news) (hz : 14 ≤ z) : BRep0 w bk (upd lay z q) (upd σ z o) imm cur b := R.more hz q o
theorem FRep.ownS (R : FRep w fd fx lay σ imm cells b) (_S : Sys (z + 1) (upd lay z q) (upd σ z o) imm news) (hz : 14 ≤ z) : FRep w fd fx (upd lay z q) (upd σ z o) imm cells b := R.more hz q o
theorem StRep.moreZ (R : StRep w st ax lay σ imm x b) (hz : 14 ≤ z) (q : Addr) (o : Obj) : StRep w st ax (upd lay z q) (upd σ z o) imm x b := R.more hz q o
theorem r_set_wln {wvs : List Value} {c : Nat} {warm : List Item} {Q : Unit → Shared → Prop} (F : Fr h₀ L s.heap m) (N : News h₀ L s.heap news) (S : Sys z lay σ imm news) (B : BRep w bk bx lay σ imm y b) (fr : Fresh z lay imm news q (listOf (List.toArray wvs) c)) (hi : All2 (ItemIs imm) wvs warm) (hl : wvs.length ≤ b) (hb : b ≤ 998000)
    (h : ∀ h' o' news', Fr h₀ L h' m → News h₀ L h' news' → Sys z (upd lay iWl q) (upd (upd σ iBk o') iWl (listOf (List.toArray wvs) c)) imm news' → BRep w bk { bx with wvs := wvs, wn := c } (upd lay iWl q) (upd (upd σ iBk o') iWl (listOf (List.toArray wvs) c)) imm { y with warm := warm } (b + 1) → Q () { s with heap := h', toks := s.toks + 1 }) :
    wpAny (model pr w) A (setItem (.ref bk) (.str (Str.ofString "warm") t) (.ref q)) Q E s := by
  obtain ⟨f, t', h1, h2, h3, h4, h5, h6⟩ := B.keys
  have eb := B.bk
  subst eb
  have B' := B.mono (b' := b + 1) (fun _ q => q) (Nat.le_succ b)
  refine set_key (by decide) F N S fr h1 (by omega) fun h' o' n' F' N' S' T' => h h' o' n' F' N' S' ⟨rfl, B'.wd, ⟨_, t', T', ?_, ?_, ?_, ?_, ?_⟩, rfl, hi, Nat.le_succ_of_le hl, B'.bd, B'.bdl, B'.bef, B'.ml, B'.marks, B'.mlen⟩
  · rw [if_neg (by decide)]; exact h2
  · rw [if_pos rfl]; rfl
  · rw [if_neg (by decide)]; exact h4
  · rw [if_neg (by decide)]; exact h5
  · rw [if_neg (by decide)]; exact h6
theorem r_set_wdn {c : Int → Int → Option Int} {Q : Unit → Shared → Prop} (F : Fr h₀ L s.heap m) (N : News h₀ L s.heap news) (S : Sys z lay σ imm news) (B : BRep w bk bx lay σ imm y b) (fr : Fresh z lay imm news q o) (hw : Wd w imm o c b) (hb : b ≤ 998000)
    (h : ∀ h' o' news', Fr h₀ L h' m → News h₀ L h' news' → Sys z (upd lay iWd q) (upd (upd σ iBk o') iWd o) imm news' → BRep w bk bx (upd lay iWd q) (upd (upd σ iBk o') iWd o) imm { y with cur := c } (b + 1) → Q () { s with heap := h', toks := s.toks + 1 }) :
    wpAny (model pr w) A (setItem (.ref bk) (.str (Str.ofString "words") t) (.ref q)) Q E s := by
  obtain ⟨f, t', h1, h2, h3, h4, h5, h6⟩ := B.keys
  have eb := B.bk
  subst eb
  have B' := B.mono (b' := b + 1) (fun _ q => q) (Nat.le_succ b)
  refine set_key (by decide) F N S fr h1 (by omega) fun h' o' n' F' N' S' T' => h h' o' n' F' N' S' ⟨rfl, hw.mono (fun _ q => q) (Nat.le_succ b), ⟨_, t', T', ?_, ?_, ?_, ?_, ?_⟩, B'.wl, B'.items, B'.wlen, B'.bd, B'.bdl, B'.bef, B'.ml, B'.marks, B'.mlen⟩
  · rw [if_pos rfl]; rfl
  · rw [if_neg (by decide)]; exact h3
  · rw [if_neg (by decide)]; exact h4
  · rw [if_neg (by decide)]; exact h5
  · rw [if_neg (by decide)]; exact h6
theorem r_set_mln {n c : Nat} {Q : Unit → Shared → Prop} (F : Fr h₀ L s.heap m) (N : News h₀ L s.heap news) (S : Sys z lay σ imm news) (B : BRep w bk bx lay σ imm y b) (fr : Fresh z lay imm news q (listOf (bx.mvs.take n).toArray c)) (hb : b ≤ 998000)
    (h : ∀ h' o' news', Fr h₀ L h' m → News h₀ L h' news' → Sys z (upd lay iMl q) (upd (upd σ iBk o') iMl (listOf (bx.mvs.take n).toArray c)) imm news' → BRep w bk { bx with mvs := bx.mvs.take n, mn := c } (upd lay iMl q) (upd (upd σ iBk o') iMl (listOf (bx.mvs.take n).toArray c)) imm { y with marks := y.marks.take n } (b + 1) → Q () { s with heap := h', toks := s.toks + 1 }) :
    wpAny (model pr w) A (setItem (.ref bk) (.str (Str.ofString "marks") t) (.ref q)) Q E s := by
  obtain ⟨f, t', h1, h2, h3, h4, h5, h6⟩ := B.keys
  have eb := B.bk
  subst eb
  have B' := B.mono (b' := b + 1) (fun _ q => q) (Nat.le_succ b)
  refine set_key (by decide) F N S fr h1 (by omega) fun h' o' n' F' N' S' T' => h h' o' n' F' N' S' ⟨rfl, B'.wd, ⟨_, t', T', ?_, ?_, ?_, ?_, ?_⟩, B'.wl, B'.items, B'.wlen, B'.bd, B'.bdl, B'.bef, rfl, B'.marks.take n, Nat.le_trans (List.length_take_le' n bx.mvs) B'.mlen⟩
  · rw [if_neg (by decide)]; exact h2
  · rw [if_neg (by decide)]; exact h3
  · rw [if_neg (by decide)]; exact h4
  · rw [if_pos rfl]; rfl
  · rw [if_neg (by decide)]; exact h6
theorem r_set_new4 {c1 c2 : Nat} {qd : Addr} {od : Obj} {f : Str → Option Value} {o' : Obj} {t0 : Tok}
    (_S : Sys z lay σ imm news) (eb : lay iBk = bk) (hw : Wd w imm (σ iWd) cur b) (T : StrD pr w o' f b) (e : σ iBk = o') (k1 : f (Str.ofString "words") = some (.ref (lay iWd))) (k2 : f (Str.ofString "warm") = some (.ref (lay iWl))) (k3 : f (Str.ofString "before") = some (.ref qd)) (k4 : f (Str.ofString "marks") = some (.ref (lay iMl))) (k5 : f (Str.ofString "refund") = some (.int 0 t0))
    (s1 : σ iWl = listOf #[] c1) (s2 : σ iMl = listOf #[] c2) (hd : (qd, od) ∈ imm) (lo : (qd == sysModules) = false) (wd : Wd w imm od cur b) :
    BRep w bk ⟨qd, od, [], c1, [], c2⟩ lay σ imm { warm := [], cur := cur, bef := cur, rf := 0, marks := [] } b :=
  ⟨eb, hw, ⟨f, t0, by rw [e]; exact T, k1, k2, k3, k4, k5⟩, s1, .nil, Nat.zero_le _, hd, lo, wd, s2, .nil, Nat.zero_le _⟩
end
theorem fr_l3 {h₀ : Heap} {L : Addr} {h : Heap} {m₀ m₁ : Str → Option Value} {a b c : Str} {v : Option Value} (e : ∀ y, y ≠ a → y ≠ b → y ≠ c → m₁ y = m₀ y) (F : Fr h₀ L h (fun y => if y = a then v else m₁ y)) :
    Fr h₀ L h (fun y => if y = a then v else if y = b then m₁ b else if y = c then m₁ c else m₀ y) := by
  have : (fun y => if y = a then v else m₁ y) = (fun y => if y = a then v else if y = b then m₁ b else if y = c then m₁ c else m₀ y) := by
    funext y
    by_cases h1 : y = a
    · rw [if_pos h1, if_pos h1]
    · rw [if_neg h1, if_neg h1]
      by_cases h2 : y = b
      · rw [if_pos h2, h2]
      · rw [if_neg h2]
        by_cases h3 : y = c
        · rw [if_pos h3, h3]
        · rw [if_neg h3]; exact e y h1 h2 h3
  rw [← this]; exact F
theorem fr_l3' {h₀ : Heap} {L : Addr} {h : Heap} {m₀ m₁ : Str → Option Value} {a b c : Str} (e : ∀ y, y ≠ a → y ≠ b → y ≠ c → m₁ y = m₀ y) (F : Fr h₀ L h m₁) :
    Fr h₀ L h (fun y => if y = a then m₁ a else if y = b then m₁ b else if y = c then m₁ c else m₀ y) := fr_l3 e (by
  have : m₁ = (fun y => if y = a then m₁ a else m₁ y) := by
    funext y
    by_cases h1 : y = a
    · rw [if_pos h1, h1]
    · rw [if_neg h1]
  rw [← this]; exact F)
theorem Wd.lift {w : World} {z : Nat} {lay : Nat → Addr} {σ : Nat → Obj} {imm imm' news : Led} {o : Obj} {cur : Int → Int → Option Int} {b b' : Nat} (W : Wd w imm o cur b) (_S : Sys z lay σ imm' news) (su : Suf imm imm') (hb : b ≤ b') : Wd w imm' o cur b' := W.mono su.sub hb
theorem items_lift {z : Nat} {lay : Nat → Addr} {σ : Nat → Obj} {imm imm' news : Led} {vs : List Value} {is : List Item} (h : All2 (ItemIs imm) vs is) (_S : Sys z lay σ imm' news) (su : Suf imm imm') : All2 (ItemIs imm') vs is := h.mono fun _ _ x => x.mono su.sub
theorem FRep.as {w : World} {fd : Addr} {fx : Fux} {z : Nat} {lay' : Nat → Addr} {σ' σ'' : Nat → Obj} {imm' : Led} {cells : List Int} {b : Nat} {news' : Led} (R : FRep w fd fx lay' σ' imm' cells b) (_S : Sys z lay' σ'' imm' news') (e : σ' = σ'' := by rfl) : FRep w fd fx lay' σ'' imm' cells b := e ▸ R
section
variable {w : World} {A : Around} {E : Value → Shared → Prop} {s : Shared} {h₀ : Heap} {L : Addr} {m : Str → Option Value} {z : Nat} {lay : Nat → Addr} {σ : Nat → Obj} {imm news : Led} {bk : Addr} {b : Nat} {t : Tok} {q : Addr} {o : Obj}
theorem set_key' {i c : Nat} {key : Str} {f : Str → Option Value} {Q : Unit → Shared → Prop} (hi : i < 14) (F : Fr h₀ L s.heap m) (N : News h₀ L s.heap news) (S : Sys z lay σ imm news) (fr : Fresh z lay imm news q o) {ob : Obj} (T : StrD pr w ob f c) (eo : σ iBk = ob) (eb : lay iBk = bk) (hb : c ≤ 999000)
    (h : ∀ h' o' news', Fr h₀ L h' m → News h₀ L h' news' → Sys z (upd lay i q) (upd (upd σ iBk o') i o) imm news' → StrD pr w o' (fun x => if x = key then some (.ref q) else f x) (c + 1) → Q () { s with heap := h', toks := s.toks + 1 }) :
    wpAny (model pr w) A (setItem (.ref bk) (.str key t) (.ref q)) Q E s := by
  subst eb eo; exact set_key hi F N S fr T hb h
theorem set_keyV' {c : Nat} {key : Str} {v : Value} {f : Str → Option Value} {Q : Unit → Shared → Prop} (F : Fr h₀ L s.heap m) (N : News h₀ L s.heap news) (S : Sys z lay σ imm news) {ob : Obj} (T : StrD pr w ob f c) (eo : σ iBk = ob) (eb : lay iBk = bk) (hb : c ≤ 999000)
    (h : ∀ h' o' news', Fr h₀ L h' m → News h₀ L h' news' → Sys z lay (upd σ iBk o') imm news' → StrD pr w o' (fun x => if x = key then some v else f x) (c + 1) → Q () { s with heap := h', toks := s.toks + 1 }) :
    wpAny (model pr w) A (setItem (.ref bk) (.str key t) v) Q E s := by
  subst eb eo; exact set_keyV F N S T hb h
theorem FrameL.updZ {lay' : Nat → Addr} {σ' : Nat → Obj} (h : FrameL z lay lay' σ σ') (q : Addr) (o : Obj) : FrameL z lay (Mine.upd lay' z q) σ (Mine.upd σ' z o) := fun i h1 h2 => ⟨by rw [upd_ne _ _ (by omega)]; exact (h i h1 h2).1, by rw [upd_ne _ _ (by omega)]; exact (h i h1 h2).2⟩
theorem FrameL.top {lay' : Nat → Addr} {σ' : Nat → Obj} (h : FrameL (z + 1) lay lay' σ σ') : FrameL z lay lay' σ σ' := fun i h1 h2 => h i h1 (by omega)
theorem fr_m4 {h : Heap} {m₀ m₁ : Str → Option Value} {a b c d : Str} {v : Option Value} (e : ∀ y, y ≠ a → y ≠ b → y ≠ c → y ≠ d → m₁ y = m₀ y) (ea : m₁ a = v) (F : Fr h₀ L h m₁) : Fr h₀ L h (fun y => if y = a then v else if y = b then m₁ b else if y = c then m₁ c else if y = d then m₁ d else m₀ y) := by
  have : m₁ = (fun y => if y = a then v else if y = b then m₁ b else if y = c then m₁ c else if y = d then m₁ d else m₀ y) := by
    funext y
    by_cases h1 : y = a
    · rw [if_pos h1, h1, ea]
    · rw [if_neg h1]
      by_cases h2 : y = b
      · rw [if_pos h2, h2]
      · rw [if_neg h2]
        by_cases h3 : y = c
        · rw [if_pos h3, h3]
        · rw [if_neg h3]
          by_cases h4 : y = d
          · rw [if_pos h4, h4]
          · rw [if_neg h4]; exact e y h1 h2 h3 h4
  rw [← this]; exact F
/-- the loop's own name, and one pinned -/
theorem fr_n2 {h : Heap} {m₀ m₁ : Str → Option Value} {x a : Str} {u v : Option Value} (hx : a ≠ x) (e : ∀ y, y ≠ a → y ≠ x → m₁ y = m₀ y) (ea : m₁ a = v) (F : Fr h₀ L h (fun y => if y = x then u else m₁ y)) : Fr h₀ L h (fun y => if y = x then u else if y = a then v else m₀ y) := by
  have : (fun y => if y = x then u else m₁ y) = (fun y => if y = x then u else if y = a then v else m₀ y) := by
    funext y
    by_cases h1 : y = x
    · rw [if_pos h1, if_pos h1]
    · rw [if_neg h1, if_neg h1]
      by_cases h2 : y = a
      · rw [if_pos h2, h2, ea]
      · rw [if_neg h2]; exact e y h2 h1
  rw [← this]; exact F
theorem fr_n2' {h : Heap} {m₀ m₁ : Str → Option Value} {x a : Str} {v : Option Value} (hx : a ≠ x) (e : ∀ y, y ≠ a → y ≠ x → m₁ y = m₀ y) (ea : m₁ a = v) (F : Fr h₀ L h m₁) : Fr h₀ L h (fun y => if y = x then m₁ x else if y = a then v else m₀ y) := fr_n2 hx e ea (by
  have : m₁ = (fun y => if y = x then m₁ x else m₁ y) := by
    funext y
    by_cases h1 : y = x
    · rw [if_pos h1, h1]
    · rw [if_neg h1]
  rw [← this]; exact F)
end

section
variable {w : World} {A : Around} {E : Value → Shared → Prop} {s : Shared} {h₀ : Heap} {L : Addr} {z : Nat} {lay : Nat → Addr} {σ : Nat → Obj} {imm imm' news : Led} {st fd bk : Addr} {ax : Aux} {bx : Bux} {fx : Fux} {x : SX} {y : BX} {cells : List Int} {b : Nat} {o : Obj} {i : Nat} {pl : Sem Bool} {Q : Value × List Value → Shared → Prop}
theorem StRep.updS (R : StRep w st ax lay σ imm x b) (_S : Sys z lay (upd σ i o) imm' news) (hi : i = 3 ∨ 10 ≤ i) : StRep w st ax lay (upd σ i o) imm x b := R.updB hi o
theorem FRep.updS (B : FRep w fd fx lay σ imm cells b) (_S : Sys z lay (upd σ i o) imm' news) (hi : i ≠ 3) : FRep w fd fx lay (upd σ i o) imm cells b := B.updB hi o
theorem r_getMethod_wla (N : News h₀ L s.heap news) (S : Sys z lay σ imm news) (B : BRep w bk bx lay σ imm y b) (h : Q (.builtin "list.append", [.ref (lay iWl)]) s) : wpAny (model pr w) A (getMethod (.ref (lay iWl)) (Str.ofString "append") pl) Q E s :=
  r_getMethod_wl PySem.F.slot_list_append PySem.F.type_list_append N S B h
theorem r_getMethod_mla (N : News h₀ L s.heap news) (S : Sys z lay σ imm news) (B : BRep w bk bx lay σ imm y b) (h : Q (.builtin "list.append", [.ref (lay iMl)]) s) : wpAny (model pr w) A (getMethod (.ref (lay iMl)) (Str.ofString "append") pl) Q E s :=
  r_getMethod_ml PySem.F.slot_list_append PySem.F.type_list_append N S B h
end
theorem Fresh.lo {z : Nat} {lay : Nat → Addr} {imm news : Led} {q : Addr} {o : Obj} (f : Fresh z lay imm news q o) : (q == sysModules) = false := f.2.2.2

local macro_rules | `(tactic| walk_at "subscriptTail") => `(tactic| first | k_call_by "k" "cells" r_fd_cells | (k_call_by "k" "at" r_fd_at; intro zu) | (k_call_by "n" r_item_ints; intro zn zu))
local macro_rules | `(tactic| walk_at "setItem ref str") => `(tactic| (walk_at "S"; (rename FAt _ _ _ _ _ => lB); k_call_by "r" r_set_fd; clear lS lB; intro zh zo zn zF zN zS zB; (try k_sweep)))
local macro_rules | `(tactic| walk_at "call builtin:len") => `(tactic| (k_call_by "r" r_len_imm; intro zu))
local macro_rules | `(tactic| walk_at "eval Call") => `(tactic| (k_here; (with_reducible show wpAny _ _ (eval (Expr.Call (Expr.Name _ _) _ [] _) _) _ _ _); k_dflt (refine Call_ ?_)))

theorem fmod_nat {wd : Int} (hw : 0 < wd) (i : Int) (t : Tok) : ∃ (d : Nat) (t' : Tok), (d : Int) < wd ∧ Value.int (i.fmod wd) t = .int d t' := by
  have h1 := Int.fmod_nonneg_of_pos i (b := wd) (by omega)
  have h2 := Int.fmod_lt_of_pos i (b := wd) (by omega)
  exact ⟨(i.fmod wd).toNat, t, by omega, by rw [Int.toNat_of_nonneg h1]⟩
theorem C_draw (w : World) (z : Nat) (fd : Addr) (fx : Fux) (lay : Nat → Addr) (σ : Nat → Obj) (imm : Led) (cells : List Int) (b : Nat) (hb : b ≤ 990000) (R : FRep w fd fx lay σ imm cells b) (wd : Int) (hw : 0 < wd) (hw2 : wd < 1000000) (tw : Tok) :
    Ct1 w 2 393 [.ref fd, .int wd tw] z lay σ imm (fun r σ' imm' => OnlyF z σ σ' ∧ FRep w fd fx lay σ' imm' cells (b + 1) ∧ ∃ (d : Nat) (t : Tok), (d : Int) < wd ∧ r = .int d t) := by
  unfold Ct1
  k_fill
  intro V lw dp un gd cn cs a ccd cl outer A₀ base h₀ L m s mean mg mb news Q E B F X N T S hk hd hu hret
  obtain ⟨at_, A1, A2⟩ := R.at_
  have hfd := R.fd
  have hcl := R.cl
  have hin := R.inums
  have hcn := R.clen
  have hlen := hin.length
  subst hfd
  refine wpAny_call ?_
  k_dflt ktr_enter
  k_steps
  all_goals
    rename FAt _ _ _ _ _ => B9
    (refine hret _ _ _ _ _ _ (by k_asm) (by k_asm) ?su (by assumption) ?_; (case su => tb_start))
    refine ⟨OnlyF.refl.upd _, ⟨rfl, ex2 B9 fun f t k => ⟨f, t, at_ + 1, k.1, k.2.1, k.2.2, by omega⟩, by ktr_rel, hin, hcn⟩, ?_⟩
    exact fmod_nat hw _ _

section
variable (w : World) (z : Nat) (lay : Nat → Addr) (σ : Nat → Obj) (imm : Led)
def gC (o c f : Int) : Int := if f = c ∨ o ≠ c then 100 else if o = 0 then 20000 else 2900
def gR1 (o c f : Int) : Int := if o ≠ 0 ∧ c = 0 then -4800 else if o ≠ 0 ∧ f = 0 then 4800 else 0
def gR (o c f : Int) : Int := if f = c then 0 else gR1 o c f + (if o ≠ c ∧ o = f then (if o = 0 then 20000 else 2900) - 100 else 0)
theorem C_places : Ct0 w 1 378 [] z lay σ imm (fun r imm' => ∃ q t1 t2 t3, r = .ref q ∧ (q, tupO [.int 3 t1, .int 77 t2, .int (2 ^ 160 - 1) t3]) ∈ imm') := by
  unfold Ct0
  k_fill
  intro V lw dp un gd cn cs a ccd cl outer A₀ base h₀ L m s mean mg mb news Q E B F X N T S hk hd hu hret
  refine wpAny_call ?_
  k_dflt ktr_enter
  k_steps
  (refine hret _ _ _ _ _ (by k_asm) (by k_asm) ?su (by assumption) ?_; (case su => tb_start))
  exact ⟨_, _, _, _, rfl, by ktr_rel⟩
theorem C_slots : Ct0 w 1 385 [] z lay σ imm (fun r imm' => ∃ q t1 t2 t3, r = .ref q ∧ (q, tupO [.int 0 t1, .int 9 t2, .int (2 ^ 256 - 1) t3]) ∈ imm') := by
  unfold Ct0
  k_fill
  intro V lw dp un gd cn cs a ccd cl outer A₀ base h₀ L m s mean mg mb news Q E B F X N T S hk hd hu hret
  refine wpAny_call ?_
  k_dflt ktr_enter
  k_steps
  (refine hret _ _ _ _ _ (by k_asm) (by k_asm) ?su (by assumption) ?_; (case su => tb_start))
  exact ⟨_, _, _, _, rfl, by ktr_rel⟩
theorem C_account_cost (c : Bool) : Ct0 w 1 336 [.bool c] z lay σ imm (fun r imm' => ∃ t, r = .int (if c then 2600 else 100) t) := by
  unfold Ct0
  k_fill
  intro V lw dp un gd cn cs a ccd cl outer A₀ base h₀ L m s mean mg mb news Q E B F X N T S hk hd hu hret
  refine wpAny_call ?_
  k_dflt ktr_enter
  k_steps
  all_goals
    (refine hret _ _ _ _ _ (by k_asm) (by k_asm) ?su (by assumption) ?_; (case su => tb_start))
    (try subst c)
    exact ⟨_, rfl⟩
theorem C_slot_read_cost (c : Bool) : Ct0 w 1 343 [.bool c] z lay σ imm (fun r imm' => ∃ t, r = .int (if c then 2100 else 100) t) := by
  unfold Ct0
  k_fill
  intro V lw dp un gd cn cs a ccd cl outer A₀ base h₀ L m s mean mg mb news Q E B F X N T S hk hd hu hret
  refine wpAny_call ?_
  k_dflt ktr_enter
  k_steps
  all_goals
    (refine hret _ _ _ _ _ (by k_asm) (by k_asm) ?su (by assumption) ?_; (case su => tb_start))
    (try subst c)
    exact ⟨_, rfl⟩
theorem C_slot_change_cost (o c f : Int) (t1 t2 t3 : Tok) : Ct0 w 1 350 [.int o t1, .int c t2, .int f t3] z lay σ imm (fun r imm' => ∃ t, r = .int (gC o c f) t) := by
  unfold Ct0
  k_fill
  intro V lw dp un gd cn cs a ccd cl outer A₀ base h₀ L m s mean mg mb news Q E B F X N T S hk hd hu hret
  refine wpAny_call ?_
  k_dflt ktr_enter
  k_steps
  all_goals
    (refine hret _ _ _ _ _ (by k_asm) (by k_asm) ?su (by assumption) ?_; (case su => tb_start))
    unfold gC
    simp_all
theorem C_slot_refund (o c f : Int) (t1 t2 t3 : Tok) : Ct0 w 1 357 [.int o t1, .int c t2, .int f t3] z lay σ imm (fun r imm' => ∃ t, r = .int (gR o c f) t) := by
  unfold Ct0
  k_fill
  intro V lw dp un gd cn cs a ccd cl outer A₀ base h₀ L m s mean mg mb news Q E B F X N T S hk hd hu hret
  refine wpAny_call ?_
  k_dflt ktr_enter
  k_steps
  all_goals
    (refine hret _ _ _ _ _ (by k_asm) (by k_asm) ?su (by assumption) ?_; (case su => tb_start))
    unfold gR gR1
    simp_all
end

local macro_rules | `(tactic| k_call_by "0q" $t) => `(tactic| (k_call_by "c" Ct0.use3 $t; intro zq z1 z2 z3 zn zm zh zt zF zN zS zM; walk_at "zl"))
local macro_rules | `(tactic| walk_at "call ref") => `(tactic| first | k_call_by "0t" C_slot_change_cost | k_call_by "0t" C_slot_refund | k_call_by "0t" C_account_cost | k_call_by "0t" C_slot_read_cost | k_call_by "0q" C_places | k_call_by "0q" C_slots)
local macro_rules | `(tactic| walk_at "call type:range") => `(tactic| (k_here; (with_reducible show wpAny _ _ (call _ [Value.int _ _]) _ _ _); walk_at "S"; k_call_by "r" newRange_Z; clear lS; intro zq zh zn z1 z2 zF zN zS; walk_at "zl"))

theorem Sys.as' {z : Nat} {lay lay' : Nat → Addr} {σ σ' : Nat → Obj} {imm news : Led} (S : Sys z lay' σ' imm news) (h : ∀ i, i < z → lay' i = lay i ∧ σ' i = σ i) : Sys z lay σ imm news :=
  ⟨S.le, fun i j hi hj e => S.inj i j hi hj (by rw [(h i hi).1, (h j hj).1]; exact e), fun i hi => by rw [← (h i hi).1, ← (h i hi).2]; exact S.mem' i hi, S.sub,
    fun p hp i hi => by rw [← (h i hi).1]; exact S.off p hp i hi, fun i hi => by rw [← (h i (S.up hi)).1]; exact S.lo i hi⟩
def RowOk (imm : Led) (v : Value) (row : Int × List Int) : Prop :=
  ∃ a tp kl kvs kn, v = .ref a ∧ (a, tupO [.int row.1 tp, .ref kl]) ∈ imm ∧ (kl, listOf (List.toArray kvs) kn) ∈ imm ∧ IntsAre kvs row.2 ∧ kvs.length ≤ 3
theorem RowOk.mono {imm imm' : Led} {v : Value} {r : Int × List Int} (h : RowOk imm v r) (hs : ∀ q ∈ imm, q ∈ imm') : RowOk imm' v r :=
  by obtain ⟨a, tp, kl, kvs, kn, h1, h2, h3, h4, h5⟩ := h; exact ⟨a, tp, kl, kvs, kn, h1, hs _ h2, hs _ h3, h4, h5⟩
def listCost (rows : List (Int × List Int)) : Int := rows.foldl (fun c r => c + (2400 + 1900 * (r.2.length : Int))) 0
theorem listCost_take {rows : List (Int × List Int)} {i : Nat} {r : Int × List Int} (h : rows[i]? = some r) : listCost (rows.take (i + 1)) = listCost (rows.take i) + (2400 + 1900 * (r.2.length : Int)) := by
  unfold listCost
  rw [List.take_add_one, h, List.foldl_append]; rfl
theorem All2.get {α : Type} {R : Value → α → Prop} {vs : List Value} {xs : List α} (h : All2 R vs xs) {i : Nat} {v : Value} (e : vs[i]? = some v) : ∃ x, xs[i]? = some x ∧ R v x := by
  have h1 := (List.getElem?_eq_some_iff.mp e).1
  have h2 : i < xs.length := by have := h.1; omega
  exact ⟨xs[i], List.getElem?_eq_getElem h2, h.2 i v _ e (List.getElem?_eq_getElem h2)⟩
theorem All2.at {imm : Led} {vs : List Value} {rows : List (Int × List Int)} (h : All2 (RowOk imm) vs rows) {i : Nat} {v : Value} (e : vs[i]? = some v) {Q : Value → Prop}
    (k : ∀ (row : Int × List Int) (a : Addr) (tp : Tok) (kl : Addr) (kvs : List Value) (kn : Nat), rows[i]? = some row → (a, tupO [.int row.1 tp, .ref kl]) ∈ imm → (kl, listOf (List.toArray kvs) kn) ∈ imm → IntsAre kvs row.2 → kvs.length ≤ 3 → i < vs.length → Q (.ref a)) : Q v :=
  by obtain ⟨row, h1, a, tp, kl, kvs, kn, ev, h2, h3, h4, h5⟩ := h.get e; exact ev ▸ k row a tp kl kvs kn h1 h2 h3 h4 h5 (List.getElem?_eq_some_iff.mp e).1
theorem fr_m3 {h₀ : Heap} {L : Addr} {h : Heap} {m₀ m₁ : Str → Option Value} {a b c : Str} {v : Option Value} (e : ∀ y, y ≠ a → y ≠ b → y ≠ c → m₁ y = m₀ y) (ea : m₁ a = v) (F : Fr h₀ L h m₁) : Fr h₀ L h (fun y => if y = a then v else if y = b then m₁ b else if y = c then m₁ c else m₀ y) := by
  have : m₁ = (fun y => if y = a then v else if y = b then m₁ b else if y = c then m₁ c else m₀ y) := by
    funext y
    by_cases h1 : y = a
    · rw [if_pos h1, h1, ea]
    · rw [if_neg h1]
      by_cases h2 : y = b
      · rw [if_pos h2, h2]
      · rw [if_neg h2]
        by_cases h3 : y = c
        · rw [if_pos h3, h3]
        · rw [if_neg h3]; exact e y h1 h2 h3
  rw [← this]; exact F
section
variable (w : World) (z : Nat) (lay : Nat → Addr) (σ : Nat → Obj) (imm : Led)
theorem C_slot_cost (o c f : Int) (t1 t2 t3 : Tok) (cold : Bool) : Ct0 w 3 364 [.int o t1, .int c t2, .int f t3, .bool cold] z lay σ imm (fun r imm' => ∃ q u1 u2, r = .ref q ∧ (q, tupO [.int (gC o c f + (if cold then 2100 else 0)) u1, .int (gR o c f) u2]) ∈ imm') := by
  unfold Ct0
  k_fill
  intro V lw dp un gd cn cs a ccd cl outer A₀ base h₀ L m s mean mg mb news Q E B F X N T S hk hd hu hret
  refine wpAny_call ?_
  k_dflt ktr_enter
  k_steps
  all_goals
    (refine hret _ _ _ _ _ (by k_asm) (by k_asm) ?su (by assumption) ?_; (case su => tb_start))
    (try subst cold)
    exact ⟨_, _, _, rfl, by ktr_rel⟩
end

theorem tup_eq {q : Addr} {a b a' b' : Int} {u1 u2 : Tok} {rest : Led} (ha : a = a') (hb : b = b') : (q, tupO [.int a u1, .int b u2]) ∈ (q, tupO [.int a' u1, .int b' u2]) :: rest := by subst ha hb; exact List.Mem.head _
section
variable (w : World) (z : Nat) (lay : Nat → Addr) (σ : Nat → Obj) (imm : Led)
def dC (o n l : Int) : Int := if l = n then 100 else if n = o then (if o = 0 then 20000 else 2900) else 100
def dR (o n l : Int) : Int := if l = n then 0 else if n = o then (if o = 0 then 0 else if l = 0 then 4800 else 0) else
  (if o ≠ 0 then -4800 * (if n = 0 then 1 else 0) + 4800 * (if l = 0 then 1 else 0) else 0) + (if l = o then (if o = 0 then 19900 else 2800) else 0)
theorem C_slot_due (o n l : Int) (t1 t2 t3 : Tok) : Ct0 w 1 412 [.int o t1, .int n t2, .int l t3] z lay σ imm (fun r imm' => ∃ q u1 u2, r = .ref q ∧ (q, tupO [.int (dC o n l) u1, .int (dR o n l) u2]) ∈ imm') := by
  unfold Ct0
  k_fill
  intro V lw dp un gd cn cs a ccd cl outer A₀ base h₀ L m s mean mg mb news Q E B F X N T S hk hd hu hret
  refine wpAny_call ?_
  k_dflt ktr_enter
  k_steps
  all_goals
    (refine hret _ _ _ _ _ (by k_asm) (by k_asm) ?su (by assumption) ?_; (case su => tb_start))
    refine ⟨_, _, _, rfl, tup_eq ?_ ?_⟩ <;> ((first | unfold dC | unfold dR); first | (simp_all; done) | (simp_all; omega) | (split <;> simp_all; done) | (repeat' split) <;> simp_all <;> omega)
end

section
variable (w : World) (z : Nat) (lay : Nat → Addr) (σ : Nat → Obj) (imm : Led)
theorem C_access_cost (a : Addr) (vs : List Value) (n : Nat) (rows : List (Int × List Int)) (ha : (a, listOf (List.toArray vs) n) ∈ imm) (hr : All2 (RowOk imm) vs rows) :
    Ct0 w 1 371 [.ref a] z lay σ imm (fun r imm' => ∃ t, r = .int (listCost rows) t) := by
  unfold Ct0
  k_fill
  intro V lw dp un gd cn cs a ccd cl outer A₀ base h₀ L m s mean mg mb news Q E B F X N T S hk hd hu hret
  refine wpAny_call ?_
  k_dflt ktr_enter
  k_steps
  rename Fr _ _ _ _ => F9
  k_dflt refine For_invTF F9 ?_ (by intro _; rfl) (by passes_own)
  k_steps
  rename Sys _ _ _ _ _ => S9
  have hz := S9.le
  k_dflt refine iter_list_ZT (by exact rfl) (by k_asm) (by k_asm) S9 ha (fun m₀ i m' lay' σ' imm' => (∀ y, y ≠ Str.ofString "cost" → y ≠ Str.ofString "address" → y ≠ Str.ofString "slots" → m' y = m₀ y) ∧ (∃ t, m' (Str.ofString "cost") = some (.int (listCost (rows.take i)) t)) ∧ (∀ j, j < z → lay' j = lay j ∧ σ' j = σ j)) ⟨fun _ _ _ _ => rfl, ⟨_, rfl⟩, fun _ _ => ⟨rfl, rfl⟩⟩ ?_ ?_ ?_
  · intro i m' lay' σ' imm' q o hJ
    exact ⟨hJ.1, hJ.2.1, fun j hj => by rw [upd_ne _ _ (by omega), upd_ne _ _ (by omega)]; exact hJ.2.2 j hj⟩
  · intro i v m₁ lay₁ σ₁ imm₁ news₁ s₁ hv
    apply All2.at hr hv
    intro row a tp kl kvs kn hrow ht hkl hki hk3 _ U1 hJ F1 N1 S1 G hG
    refine Exists.elim hJ.2.1 ?_
    intro tc hc
    have hl := hJ.2.2
    have ht := U1.sub _ ht
    have hkl := U1.sub _ hkl
    have hkn := hki.length
    have F2 := fr_m3 hJ.1 hc F1
    clear F1 F9 S9 hv hJ
    k_steps
    refine hG _ _ ?_
    refine TStep.intro (by k_asm) (by k_asm) (by assumption) rfl rfl ?su ⟨?_, ?_, hl⟩
    case su => tb_start
    · intro y h1 h2 h3
      simp only [if_neg h1, if_neg h2, if_neg h3]
    · exact ⟨_, by rw [listCost_take hrow, ← hkn]; rfl⟩
  · intro m₁ lay₁ σ₁ imm₁ news₁ h1 tk1 U1 hJ F1 N1 S1
    refine Exists.elim hJ.2.1 ?_
    intro tc hc
    have F2 := fr_m3 hJ.1 hc F1
    have S2 := S1.as' hJ.2.2
    have e : listCost (rows.take vs.length) = listCost rows := by rw [List.take_of_length_le (by rw [hr.1]; exact Nat.le_refl _)]
    rw [e] at F2
    clear F1 F9 S9 S1 hJ
    k_steps
    (refine hret _ _ _ _ _ (by k_asm) (by k_asm) ?su (by assumption) ?_; (case su => tb_start))
    exact ⟨_, rfl⟩
end

local macro_rules | `(tactic| walk_at "B") => `(tactic| rename BRep _ _ _ _ _ _ _ _ => lB)
local macro_rules | `(tactic| walk_at "B0") => `(tactic| rename BRep0 _ _ _ _ _ _ _ => lB0)
local macro_rules | `(tactic| walk_at "C") => `(tactic| rename FRep _ _ _ _ _ _ _ _ => lC)
local macro_rules | `(tactic| walk_at "L") => `(tactic| rename LRep _ _ _ _ _ _ _ _ _ _ => lL)
local macro_rules | `(tactic| walk_at "I") => `(tactic| rename IM _ _ _ _ _ _ _ _ _ _ _ _ _ _ _ => lI)
local macro_rules | `(tactic| ktr_unf) => `(tactic| ((try (walk_at "S"; walk_at "B"; first | replace lB := BRep.lift lB lS (by tb_start) | replace lB := BRep.to lB lS (by assumption) (by tb_start))); (try (walk_at "S"; walk_at "B0"; first | replace lB0 := BRep0.lift lB0 lS (by tb_start) | replace lB0 := BRep0.to lB0 lS (by assumption) (by tb_start))); (try (walk_at "S"; walk_at "C"; first | replace lC := FRep.lift lC lS (by tb_start) | replace lC := FRep.to lC lS (by assumption) (by tb_start))); (try (walk_at "S"; walk_at "L"; replace lL := LRep.lift lL lS (by tb_start))); (try (walk_at "S"; walk_at "I"; replace lI := IM.lift lI lS (by tb_start)))))
local macro_rules | `(tactic| walk_at "zu") => `(tactic| (walk_at "S"; (try (walk_at "R"; replace lR := StRep.updS lR lS (by decide))); (try (walk_at "C"; replace lC := FRep.updS lC lS (by decide))); walk_at "d"))
local macro_rules | `(tactic| k_call_by "b" $t) => `(tactic| (walk_at "S"; walk_at "B"; k_call_by "r" $t; clear lS lB; intro zh zo zn zF zN zS zB; walk_at "zu"))
local macro_rules | `(tactic| walk_at "compareOp In int ref") => `(tactic| k_call_by "r" r_in_wl_int)
local macro_rules | `(tactic| walk_at "compareOp In ref ref") => `(tactic| k_call_by "r" r_in_wl_tup)
local macro_rules | `(tactic| walk_at "compareOp NotIn ref ref") => `(tactic| k_call_by "r" r_notin_wl_tup)
local macro_rules | `(tactic| walk_at "subscriptTail") => `(tactic| first | k_call_by "k" "words" r_bk_words | k_call_by "k" "warm" r_bk_warm | k_call_by "k" "before" r_bk_before | k_call_by "k" "marks" r_bk_marks | (k_call_by "k" "refund" r_bk_refund; intro zu) | k_call_by "k" "words" r_bk_words0)
local macro_rules | `(tactic| walk_at "getMethod ref") => `(tactic| first | k_call_by "m" "append" r_getMethod_wla | k_call_by "m" "append" r_getMethod_mla | k_call_by "m" "get" r_getMethod_wd | k_call_by "m" "get" r_getMethod_bd)
local macro_rules | `(tactic| walk_at "call builtin:dict.get") => `(tactic| ((first | k_call_by "r" r_get_wd | k_call_by "r" r_get_bd); intro zu))
local macro_rules | `(tactic| walk_at "call builtin:list.append") => `(tactic| first | k_call_by "b" r_wl_pushP | k_call_by "b" r_wl_pushS)
local macro_rules | `(tactic| walk_at "setItem ref ref") => `(tactic| k_call_by "b" r_set_wd)
local macro_rules | `(tactic| walk_at "setItem ref str") => `(tactic| k_call_by "b" r_set_brf)
local macro_rules | `(tactic| walk_at "call ref") => `(tactic| first | k_call_by "0e" C_is_warm | k_call_by "0e" C_is_warm_slot | k_call_by "0t" C_original_slot | k_call_by "1e" C_warm | k_call_by "1e" C_warm_slot | k_call_by "1e" C_add_refund | k_call_by "1e" C_set_slot)
local macro_rules | `(tactic| kwd_inv) => `(tactic| first | exact FrameL.refl _ _ _ | (refine FrameL.upd ?_ (by decide) _; kwd_inv) | (refine FrameL.swap ?_ (by decide) _ _; kwd_inv) | (refine FrameL.trans ?_ (by first | assumption | exact Frame.toL (by assumption)); kwd_inv))

local macro_rules | `(tactic| k_call_by "0u" $t) => `(tactic| (k_call_by "c" Ct0.use2 $t; intro zq z1 z2 zn zm zh zt zF zN zS zM; walk_at "zl"))
local macro_rules | `(tactic| walk_at "call ref") => `(tactic| first | k_call_by "0u" C_slot_cost | k_call_by "0u" C_slot_due | k_call_by "0t" C_access_cost)

local macro_rules | `(tactic| walk_at "call type:list") => `(tactic| (walk_at "S"; k_call_by "r" r_copy_wl; clear lS; intro zq zc zh zn zF zN zS; walk_at "zl"))
local macro_rules | `(tactic| walk_at "call type:dict") => `(tactic| (k_here; walk_at "S"; k_dflt (apply r_copy_wd; (case B => first | exact BRep.wd (by assumption) | exact BRep0.wd (by assumption)); walk_at "zq"); clear lS; intro zq zh zo zn zF zN zS zp zW; walk_at "zl"))

theorem C_looked (w : World) (z : Nat) (st bk : Addr) (ax : Aux) (bx : Bux) (lay : Nat → Addr) (σ : Nat → Obj) (imm : Led) (x : SX) (y : BX) (b : Nat) (hb : b ≤ 980000) (R : StRep w st ax lay σ imm x b) (B0 : BRep w bk bx lay σ imm y b) (p : Int) (hp : Pl p) (t : Tok) (hm : x.c.wo p = has y.warm (.p p)) :
    Ct1 w 5 419 [.ref bk, .ref st, .int p t] z lay σ imm (fun r σ' imm' => r = .bool true ∧ DPost w z st bk lay lay σ σ' imm' (x.warm p) { y with warm := y.warm ++ [.p p] } (b + 2)) := by
  unfold Ct1
  k_fill
  intro V lw dp un gd cn cs a ccd cl outer A₀ base h₀ L m s mean mg mb news Q E B F X N T S hk hd hu hret
  refine wpAny_call ?_
  k_dflt ktr_enter
  k_steps
  all_goals
    rename StRep _ _ _ _ _ _ _ _ => R9
    rename BRep _ _ _ _ _ _ _ _ => B9
    (refine hret _ _ _ _ _ _ (by k_asm) (by k_asm) ?su (by assumption) ?_; (case su => tb_start))
    refine ⟨by rw [hm]; simp [*], _, _, R9, B9.mono (fun _ q => q) (by omega), by kwd_inv⟩

theorem C_loaded (w : World) (z : Nat) (st bk : Addr) (ax : Aux) (bx : Bux) (lay : Nat → Addr) (σ : Nat → Obj) (imm : Led) (x : SX) (y : BX) (b : Nat) (hb : b ≤ 980000) (R : StRep w st ax lay σ imm x b) (B0 : BRep w bk bx lay σ imm y b) (p k : Int) (hp : Pl p) (tp : Addr) (t u : Tok) (ht : (tp, tupO [.int p t, .int k u]) ∈ imm) (hm : x.c.ws p k = has y.warm (.s p k)) :
    Ct1 w 5 426 [.ref bk, .ref st, .ref tp] z lay σ imm (fun r σ' imm' => r = .bool true ∧ DPost w z st bk lay lay σ σ' imm' (x.warmSlot p k) { y with warm := y.warm ++ [.s p k] } (b + 3)) := by
  unfold Ct1
  k_fill
  intro V lw dp un gd cn cs a ccd cl outer A₀ base h₀ L m s mean mg mb news Q E B F X N T S hk hd hu hret
  refine wpAny_call ?_
  k_dflt ktr_enter
  k_steps
  all_goals
    rename StRep _ _ _ _ _ _ _ _ => R9
    rename BRep _ _ _ _ _ _ _ _ => B9
    (refine hret _ _ _ _ _ _ (by k_asm) (by k_asm) ?su (by assumption) ?_; (case su => tb_start))
    refine ⟨by rw [hm]; simp [*], _, _, R9.mono (fun _ q => q) (by omega), B9.mono (fun _ q => q) (by omega), by kwd_inv⟩

theorem gC_dC (o c f : Int) : gC o c f = dC o c f := by
  unfold gC dC
  by_cases h1 : f = c <;> by_cases h2 : o = c <;> simp [h1, h2, eq_comm]
  all_goals (intro h; exact absurd h.symm h2)
theorem gR_dR (o c f : Int) : gR o c f = dR o c f := by
  unfold gR gR1 dR
  by_cases h1 : f = c
  · simp [h1]
  · by_cases h2 : c = o
    · subst h2; simp [h1]; by_cases h3 : c = 0 <;> simp [h3]
    · have h2' : ¬ o = c := fun e => h2 e.symm
      by_cases h3 : o = 0 <;> by_cases h4 : c = 0 <;> by_cases h5 : f = 0 <;> by_cases h6 : f = o <;> simp_all <;> omega
theorem C_stored (w : World) (z : Nat) (st bk : Addr) (ax : Aux) (bx : Bux) (lay : Nat → Addr) (σ : Nat → Obj) (imm : Led) (x : SX) (y : BX) (b : Nat) (hb : b ≤ 970000) (R : StRep w st ax lay σ imm x b) (B0 : BRep w bk bx lay σ imm y b) (p k v : Int) (hp : Pl p) (hk0 : Sl k) (tp : Addr) (t u tv : Tok) (ht : (tp, tupO [.int p t, .int k u]) ∈ imm)
    (hm : x.c.ws p k = has y.warm (.s p k)) (hc : x.c.cur p k = (y.cur p k).getD 0) (ho : (x.og p k).getD (x.c.cur p k) = (y.bef p k).getD 0) :
    Ct1 w 7 433 [.ref bk, .ref st, .ref tp, .int v tv] z lay σ imm (fun r σ' imm' => r = .bool true ∧ DPost w z st bk lay lay σ σ' imm' (((x.warmSlot p k).setSlot p k v).refunded (gR ((x.og p k).getD (x.c.cur p k)) (x.c.cur p k) v))
      { y with warm := y.warm ++ [.s p k], cur := set2 y.cur p k (some v), rf := y.rf + dR ((y.bef p k).getD 0) ((y.cur p k).getD 0) v } (b + 12)) := by
  unfold Ct1
  k_fill
  intro V lw dp un gd cn cs a ccd cl outer A₀ base h₀ L m s mean mg mb news Q E B F X N T S hk hd hu hret
  refine wpAny_call ?_
  k_dflt ktr_enter
  k_steps
  all_goals
    rename StRep _ _ _ _ _ _ _ _ => R9
    rename BRep _ _ _ _ _ _ _ _ => B9
    (refine hret _ _ _ _ _ _ (by k_asm) (by k_asm) ?su (by assumption) ?_; (case su => tb_start))
    refine ⟨?_, _, _, R9.mono (fun _ q => q) (by omega), B9.mono (fun _ q => q) (by omega), by kwd_inv⟩
    rw [ho, hc, gC_dC, gR_dR, hm]
    simp [*]

theorem C_marked (w : World) (z : Nat) (st bk : Addr) (ax : Aux) (bx : Bux) (lay : Nat → Addr) (σ : Nat → Obj) (imm : Led) (x : SX) (y : BX) (b : Nat) (hb : b ≤ 980000) (R : StRep w st ax lay σ imm x b) (B0 : BRep w bk bx lay σ imm y b) :
    Ct1 w 3 440 [.ref bk, .ref st] z lay σ imm (fun r σ' imm' => r = .bool true ∧ DPost w z st bk lay lay σ σ' imm' x { y with marks := y.marks ++ [⟨x.jr.length, y.warm, y.cur, y.rf⟩] } (b + 1)) := by
  unfold Ct1
  k_fill
  intro V lw dp un gd cn cs a ccd cl outer A₀ base h₀ L m s mean mg mb news Q E B F X N T S hk hd hu hret
  refine wpAny_call ?_
  k_dflt ktr_enter
  k_steps
  rename StRep _ _ _ _ _ _ _ _ => R9
  rename BRep _ _ _ _ _ _ _ _ => B9
  rename Sys _ _ _ _ _ => S9
  rename Wd _ _ _ _ _ => W9
  k_dflt refine r_ml_push (k := ⟨x.jr.length, y.warm, y.cur, y.rf⟩) (by k_asm) (by k_asm) S9 B9 ?hv (by omega) ?_
  case hv =>
    refine' ⟨_, _, _, _, _, _, _, _, rfl, List.Mem.head _, ?h1, B9.items, B9.wlen, ?h2, ?h3, W9.mono (fun _ h => .tail _ h) (Nat.le_refl _)⟩
    case h1 => ktr_rel
    case h2 => ktr_rel
    case h3 => assumption
  intro h' o' n' F' N' S' B'
  have R8 := R9.updB (i := iMl) (.inr (by decide)) o'
  clear R9 B9 S9
  k_steps
  (refine hret _ _ _ _ _ _ (by k_asm) (by k_asm) ?su (by assumption) ?_; (case su => tb_start))
  exact ⟨rfl, _, _, R8.mono (fun _ q => q) (by omega), B', by kwd_inv⟩

theorem three_p {v : Value} {t1 t2 t3 : Tok} {i : Nat} (h : [Value.int 3 t1, Value.int 77 t2, Value.int (2 ^ 160 - 1) t3][i]? = some v) : ∃ p t, v = .int p t ∧ Pl p := by
  rcases i with _ | _ | _ | i
  · exact ⟨_, _, (Option.some.inj h).symm, .inl rfl⟩
  · exact ⟨_, _, (Option.some.inj h).symm, .inr (.inl rfl)⟩
  · exact ⟨_, _, (Option.some.inj h).symm, .inr (.inr rfl)⟩
  · cases h
theorem three_k {v : Value} {t1 t2 t3 : Tok} {i : Nat} (h : [Value.int 0 t1, Value.int 9 t2, Value.int (2 ^ 256 - 1) t3][i]? = some v) : ∃ p t, v = .int p t ∧ Sl p := by
  rcases i with _ | _ | _ | i
  · exact ⟨_, _, (Option.some.inj h).symm, .inl rfl⟩
  · exact ⟨_, _, (Option.some.inj h).symm, .inr (.inl rfl)⟩
  · exact ⟨_, _, (Option.some.inj h).symm, .inr (.inr rfl)⟩
  · cases h
theorem C_same (w : World) (z : Nat) (st bk : Addr) (ax : Aux) (bx : Bux) (lay : Nat → Addr) (σ : Nat → Obj) (imm : Led) (x : SX) (y : BX) (b : Nat) (hb : b ≤ 970000) (R : StRep w st ax lay σ imm x b) (B0 : BRep w bk bx lay σ imm y b) (I : Inv x y) :
    Ct0 w 5 454 [.ref bk, .ref st] z lay σ imm (fun r imm' => r = .bool true) := by
  unfold Ct0
  k_fill
  intro V lw dp un gd cn cs a ccd cl outer A₀ base h₀ L m s mean mg mb news Q E B F X N T S hk hd hu hret
  refine wpAny_call ?_
  k_dflt ktr_enter
  refine wpAny_execs_cons ?_
  rename Fr _ _ _ _ => F9
  k_dflt refine For_invVF F9 (by exact rfl) (by exact rfl) ?_ (by intro _; rfl) (by passes_own)
  k_steps
  rename StRep _ _ _ _ _ _ _ _ => R9
  rename BRep _ _ _ _ _ _ _ _ => B9
  rename Sys _ _ _ _ _ => S9
  rename _ ∈ _ => M9
  have hz := S9.le
  k_dflt refine iter_tuple_Z (by exact rfl) (by k_asm) (by k_asm) S9 M9 (fun m₀ i m' lay' σ' imm' => (∀ y, y ≠ Str.ofString "law_place" → y ≠ Str.ofString "law_key" → y ≠ Str.ofString "spot" → m' y = m₀ y) ∧ (∀ j, j < z → lay' j = lay j ∧ σ' j = σ j)) ⟨fun _ _ _ _ => rfl, fun _ _ => ⟨rfl, rfl⟩⟩ ?_ ?_ ?_
  · intro i m' lay' σ' imm' q o hJ
    exact ⟨hJ.1, fun j hj => by rw [upd_ne _ _ (by omega), upd_ne _ _ (by omega)]; exact hJ.2 j hj⟩
  · intro i v m₁ lay₁ σ₁ imm₁ news₁ h1 tk1 hv
    apply exV (three_p hv)
    intro p tp hp U1 hJ F1 N1 S1 G hG
    have hl := hJ.2
    have F2 := fr_l3 hJ.1 F1
    clear hJ
    have R1 := (R9.mono U1.sub (Nat.le_refl _)).same fun i hi => hl i (by omega)
    have B1 := (B9.mono U1.sub (Nat.le_refl _)).same fun i _ hi => hl i (by omega)
    have hw := I.ag.wo p
    clear F1 S9 R9 B9 M9 hv
    k_steps
    · rename (_ != _) = true => hx
      rw [hw] at hx
      simp at hx
    · rename StRep _ _ _ _ _ _ _ _ => R8
      rename BRep _ _ _ _ _ _ _ _ => B8
      rename Sys _ _ _ _ _ => S8
      rename _ ∈ _ => M8
      have hz8 := S8.le
      k_dflt refine iter_tuple_Z (by exact rfl) (by k_asm) (by k_asm) S8 M8 (fun m₀ i m' lay' σ' imm' => (∀ y, y ≠ Str.ofString "law_key" → y ≠ Str.ofString "spot" → y ≠ Str.ofString "spot" → m' y = m₀ y) ∧ (∀ j, j < z + 1 → lay' j = lay₁ j ∧ σ' j = σ₁ j)) ⟨fun _ _ _ _ => rfl, fun _ _ => ⟨rfl, rfl⟩⟩ ?_ ?_ ?_
      · intro i m' lay' σ' imm' q o hJ
        exact ⟨hJ.1, fun j hj => by rw [upd_ne _ _ (by omega), upd_ne _ _ (by omega)]; exact hJ.2 j hj⟩
      · intro i v m₂ lay₂ σ₂ imm₂ news₂ h2 tk2 hv
        apply exV (three_k hv)
        intro k tk hk U2 hJ F3 N3 S3 G hG
        have hl2 := hJ.2
        have F4 := fr_l3 hJ.1 F3
        clear hJ
        have R2 := (R8.mono U2.sub (Nat.le_refl _)).same fun i hi => hl2 i (by omega)
        have B2 := (B8.mono U2.sub (Nat.le_refl _)).same fun i _ hi => hl2 i (by omega)
        have hws := I.ag.ws p k
        have hcu := I.ag.cur p k
        have hog := I.og p k
        clear F3 S8 R8 B8 M8 hv F2 N1
        k_steps
        · rename (_ != _) = true => hx
          rw [hws] at hx
          simp at hx
        · exact absurd hcu (by assumption)
        · exact absurd hog (by assumption)
        · refine hG _ _ ?_
          refine FStep.intro (by k_asm) (by k_asm) (by assumption) rfl rfl ?su ⟨?_, hl2⟩
          case su => tb_start
          · intro y h1 h2 h3
            simp only [if_neg h1, if_neg h2]
      · intro m₂ lay₂ σ₂ imm₂ news₂ h2 tk2 U2 hJ F3 N3 S3
        have hl2 := hJ.2
        have F4 := fr_l3' hJ.1 F3
        clear hJ
        clear F3 S8 R8 B8 M8 F2 N1
        k_steps
        refine hG _ _ ?_
        refine FStep.intro (by k_asm) (by k_asm) (by assumption) (hl2 z (by omega)).1 (hl2 z (by omega)).2 ?su ⟨?_, fun j hj => ⟨(hl2 j (by omega)).1.trans (hl j hj).1, (hl2 j (by omega)).2.trans (hl j hj).2⟩⟩
        case su => exact Suf.trans (by tb_start) U2
        · intro y h1 h2 h3
          simp only [if_neg h1, if_neg h2, if_neg h3]
  · intro m₁ lay₁ σ₁ imm₁ news₁ h1 tk1 U1 hJ F1 N1 S1
    have hl := hJ.2
    have F2 := fr_l3' hJ.1 F1
    clear hJ
    have R1 := (R9.mono U1.sub (Nat.le_refl _)).same fun i hi => hl i (by omega)
    have B1 := (B9.mono U1.sub (Nat.le_refl _)).same fun i _ hi => hl i (by omega)
    have S2 := S1.as' hl
    have hrf := I.ag.rf
    clear F1 S9 R9 B9 M9 S1
    have R1 := R1.same (lay' := lay) (σ' := σ) fun i hi => ⟨((hl i (by omega)).1).symm, ((hl i (by omega)).2).symm⟩
    have B1 := B1.same (lay' := lay) (σ' := σ) fun i _ hi => ⟨((hl i (by omega)).1).symm, ((hl i (by omega)).2).symm⟩
    k_steps
    (refine hret _ _ _ _ _ (by k_asm) (by k_asm) ?su (by assumption) ?_; (case su => tb_start))
    rw [hrf]; simp

local macro_rules | `(tactic| kwd_inv) => `(tactic| first | exact FrameO.refl _ _ _ | (refine FrameO.updS ?_ (by first | exact Or.inl (by decide) | exact Or.inr (by omega)) _; kwd_inv) | (refine FrameO.updL ?_ (by first | exact Or.inl (by decide) | exact Or.inr (by omega)) _; kwd_inv) | (refine FrameO.trans ?_ (by first | exact OnlyF.toO (by assumption) | exact Frame.toO (by assumption) | exact FrameL.toO (by assumption) | assumption); kwd_inv))
local macro_rules | `(tactic| walk_at "zo") => `(tactic| (walk_at "F"; walk_at "S"; have lo' := Fresh.lo lF; have zS := Sys.own lS lF; have le' := Sys.le lS; (try (walk_at "R"; replace lR := StRep.ownS lR zS le')); (try (walk_at "B"; replace lB := BRep.ownS lB zS le')); (try (walk_at "B0"; replace lB0 := BRep0.ownS lB0 zS le')); (try (walk_at "C"; replace lC := FRep.ownS lC zS le')); clear lS lF le'; walk_at "d"))
local macro_rules | `(tactic| walk_at "zf") => `(tactic| ((try (walk_at "R"; replace lR := StRep.onlyF lR zS zf (by tb_start))); (try (walk_at "B"; replace lB := BRep.onlyF lB zS zf (by tb_start))); (try (walk_at "B0"; replace lB0 := BRep0.onlyF lB0 zS zf (by tb_start))); walk_at "d"))
local macro_rules | `(tactic| walk_at "call ref") => `(tactic| first | (walk_at "C"; k_call_by "c" Ct1.useD C_draw; clear lC; intro zg zd zu zn zm zh zt zF zN zS zf zC hd'; walk_at "zf") | k_call_by "1e" C_back)
local macro_rules | `(tactic| walk_at "compareOp Eq ref ref") => `(tactic| (k_here; walk_at "F"; k_dflt (refine' r_eq_ml ?yhu ?yN ?yS ?yB (And.left lF) ?_; row_room_at yN; row_room_at yS; row_room_at yB; (case yhu => ktr_units))))
local macro_rules | `(tactic| walk_at "call builtin:len") => `(tactic| (k_call_by "r" r_len_ml; intro zu))
local macro_rules | `(tactic| walk_at "call type:list") => `(tactic| first | (walk_at "S"; k_call_by "r" r_copy_wl; clear lS; intro zq zc zh zn zF zN zS; walk_at "zl") | (k_here; walk_at "S"; k_dflt (apply copy_list; (case hm => exact Sys.sub lS _ (by ktr_rel)); walk_at "zq"); clear lS; intro zq zc zh zn zF zN zS zf; walk_at "zo"))
local macro_rules | `(tactic| walk_at "call type:dict") => `(tactic| (k_here; walk_at "S"; (rename Wd _ _ _ _ _ => lW); k_dflt (refine' copy_wd ?yF ?yN lS ?ylim ?ym ?yo lW ?yhb ?_; row_room_at yF; row_room_at yN; (case ylim => exact TopRead.nolimit (by k_asm)); (case ym => exact Sys.sub lS _ (by ktr_rel)); row_room_at yo; (case yhb => walk_at "zb")); clear lS; intro zq zh zo zn zF zN zS zf zW; walk_at "zo"))

/-- what a deed that draws leaves -/
def TPost (w : World) (z : Nat) (fd st bk : Addr) (cells : List Int) (lay lay' : Nat → Addr) (σ σ' : Nat → Obj) (imm' : Led) (b n : Nat) : Prop :=
  ∃ ax bx fx x y, StRep w st ax lay' σ' imm' x b ∧ BRep w bk bx lay' σ' imm' y b ∧ FRep w fd fx lay' σ' imm' cells b ∧ FrameO z lay lay' σ σ' ∧ Inv x y ∧ x.jr.length ≤ n
theorem C_taken (w : World) (z : Nat) (fd st bk : Addr) (ax : Aux) (bx : Bux) (fx : Fux) (cells : List Int) (lay : Nat → Addr) (σ : Nat → Obj) (imm : Led) (x : SX) (y : BX) (b : Nat) (hb : b ≤ 400000) (R : StRep w st ax lay σ imm x b) (B0 : BRep w bk bx lay σ imm y b) (C0 : FRep w fd fx lay σ imm cells b) (I : Inv x y) :
    Ct w 10 447 [.ref fd, .ref bk, .ref st] z lay σ imm (fun r lay' σ' imm' => r = .bool true ∧ TPost w z fd st bk cells lay lay' σ σ' imm' (b + x.jr.length + 5) x.jr.length) := by
  unfold Ct
  k_fill
  intro V lw dp un gd cn cs a ccd cl outer A₀ base h₀ L m s mean mg mb news Q E B F X N T S hk hd hu hret
  refine wpAny_call ?_
  k_dflt ktr_enter
  have hz := S.le
  have hml := B0.mlen
  rw [B0.marks.1] at hml
  k_steps
  · rename StRep _ _ _ _ _ _ _ _ => R9
    rename BRep _ _ _ _ _ _ _ _ => B9
    rename FRep _ _ _ _ _ _ _ _ => C9
    (refine hret _ _ _ _ _ _ _ (by k_asm) (by k_asm) ?su (by assumption) ?_; (case su => tb_start))
    exact ⟨rfl, _, _, _, _, _, R9.mono (fun _ q => q) (by omega), B9.mono (fun _ q => q) (by omega), C9.mono (fun _ q => q) (by omega), by kwd_inv, I, Nat.le_refl _⟩
  · rename BRep _ _ _ _ _ _ _ _ => B9
    rename Sys _ _ _ _ _ => S9
    k_dflt refine r_item_ml (by k_asm) S9 B9 (by omega) (by omega) (by omega) ?_
    intro mk a tn wl wd tr wvs wn o hmk m1 m2 m3 m4 m5 m6 W
    refine ex2 (I.taken hmk) ?_
    intro c' jr' hT
    have T' := hT.1
    have I' := hT.2.2
    have hn'' : (jr'.length : Int) = mk.n := by rw [hT.2.1]
    clear hT
    have e : ∀ d : Nat, (1 + (d:Int) - 1).toNat + 1 = (1 + (d:Int)).toNat := fun d => by omega
    rw [e] at I'
    k_steps
    rename BRep _ _ _ _ _ _ _ _ => B8
    rename StRep _ _ _ _ _ _ _ _ => R8
    rename FRep _ _ _ _ _ _ _ _ => C8
    rename Sys _ _ _ _ _ => S8
    k_dflt refine r_slice_ml (by k_asm) (by k_asm) S8 (TopRead.nolimit (by k_asm)) B8 (by omega) (by omega) (IsPart.int _ _) ?_ (by with_unfolding_all rfl) (by kmk_pure)
    intro q1 h1 n1 F1 N1 S1 fr1
    k_steps
    k_dflt refine r_set_mln (by k_asm) (by k_asm) S1 B8 fr1 (by omega) ?_
    intro h2 o2 n2 F2 N2 S2 B2
    have R2 := StRep.as (R8.swapB (i := iMl) (j := iBk) (.inr (by decide)) (.inr (by decide)) q1 _ o2) S2
    have C2 := FRep.as (C8.swapB (i := iMl) (j := iBk) (by decide) (by decide) q1 _ o2) S2
    have W2 := Wd.lift W S2 (by tb_start) (Nat.le_refl _)
    have m3' := items_lift m3 S2 (by tb_start)
    clear R8 B8 C8 S8 S1 fr1 W m3
    k_steps
    rename BRep _ _ _ _ _ _ _ _ => B3
    rename StRep _ _ _ _ _ _ _ _ => R3
    rename FRep _ _ _ _ _ _ _ _ => C3
    rename Sys _ _ _ _ _ => S3
    rename Wd _ _ _ _ _ => W3
    have m3'' := items_lift m3' S3 (by tb_start)
    have W4 := Wd.lift W3 S3 (by tb_start) (Nat.le_succ _)
    have S4 := (Sys.two' S3 hz (by assumption)).1
    have f4 := (Sys.two' S3 hz (by assumption)).2
    have R4 := R3.same fun i hi => two_same hz i hi
    have B4 := B3.same fun i _ hi => two_same hz i hi
    have C4 := C3.same (two_same hz 3 (by omega))
    clear R3 B3 C3 S3 W3 m3'
    k_dflt refine r_set_wln (by k_asm) (by k_asm) S4 B4 f4 m3'' (by omega) (by omega) ?_
    intro h5 o5 n5 F5 N5 S5 B5
    have R5 := StRep.as (R4.swapB (i := iWl) (j := iBk) (.inr (by decide)) (.inr (by decide)) _ _ o5) S5
    have C5 := FRep.as (C4.swapB (i := iWl) (j := iBk) (by decide) (by decide) _ _ o5) S5
    clear R4 B4 C4 S4 f4
    k_steps
    have f5 := S5.fresh (by rw [upd_ne _ _ (show z ≠ iWl by show z ≠ 11; omega), upd_self]; assumption)
    rw [upd_ne _ _ (show z ≠ iWl by show z ≠ 11; omega), upd_self, upd_ne _ _ (show z ≠ iWl by show z ≠ 11; omega), upd_ne _ _ (show z ≠ iBk by show z ≠ 10; omega), upd_self] at f5
    have W6 := W4.mono (fun _ h => h) (Nat.le_succ _)
    k_dflt refine r_set_wdn (by k_asm) (by k_asm) (S5.drop hz) B5 f5 W6 (by omega) ?_
    intro h6 o6 n6 F6 N6 S6 B6
    have R6 := StRep.as (R5.swapB (i := iWd) (j := iBk) (.inr (by decide)) (.inr (by decide)) _ _ o6) S6
    have C6 := FRep.as (C5.swapB (i := iWd) (j := iBk) (by decide) (by decide) _ _ o6) S6
    clear R5 B5 C5 S5 f5 W4 W6
    k_steps
    rename BRep _ _ _ _ _ _ _ _ => B7
    rename StRep _ _ _ _ _ _ _ _ => R7
    rename FRep _ _ _ _ _ _ _ _ => C7
    have hj := T'.le
    (refine hret _ _ _ _ _ _ _ (by k_asm) (by k_asm) ?su (by assumption) ?_; (case su => tb_start))
    exact ⟨rfl, _, _, _, _, _, R7.mono (fun _ q => q) (by omega), B7.mono (fun _ q => q) (by omega), C7.mono (fun _ q => q) (by omega), by kwd_inv, I', hj⟩

local macro_rules | `(tactic| walk_at "newList") => `(tactic| (walk_at "S"; k_call_by "r" newList_Z; clear lS; intro zq zh zn zF zN zS zf; walk_at "zo"))
local macro_rules | `(tactic| walk_at "subscriptTail") => `(tactic| (k_call_by "n" r_pick3; intro zv tv' hv'))

open PyProof.Rows.LCg in
theorem Off1.mem' {D : Addr} : ∀ {l : Led}, Off1 D l → ∀ p ∈ l, p.1 ≠ D
  | [], _, _, h => nomatch h
  | _ :: _, x, p, h => by
    rcases List.mem_cons.mp h with rfl | h
    · exact x.1
    · exact Off1.mem' x.2 p h
section
variable {prog : Program} {w : World} {A : Around} {E : Value → Shared → Prop} {s : Shared} {h₀ : Heap} {L : Addr} {m : Str → Option Value} {z : Nat} {lay : Nat → Addr} {σ : Nat → Obj} {imm news : Led}
theorem append_own {i : Nat} {q : Addr} {vs : List Value} {n : Nat} {v : Value} {Q : Value → Shared → Prop} (hi : i < z) (eq : q = lay i) (F : Fr h₀ L s.heap m) (N : News h₀ L s.heap news) (S : Sys z lay σ imm news) (e : σ i = listOf vs.toArray n) (hz : vs.length ≤ 1000000)
    (h : ∀ h' news', Fr h₀ L h' m → News h₀ L h' news' → Sys z lay (upd σ i (listOf (List.toArray (vs ++ [v])) (n + 1))) imm news' → Q .none { s with heap := h' }) :
    wpAny (model prog w) A (call (.builtin "list.append") [.ref q, v]) Q E s := by
  subst eq
  refine append_K (hsz := by rw [List.size_toArray, sizeLine_eq]; omega) F (S.focus N hi) (by rw [e]; exact Upd.head (put_off _ _)) fun h' F' N' => h h' _ F' N' ?_
  have := S.write hi (listOf (vs.toArray.push v) (n + 1))
  rw [List.push_toArray] at this
  rw [List.push_toArray]
  exact this
theorem Sys.keepD {D : Addr} {o : Obj} (S : Sys z lay σ imm news) (off : ∀ p ∈ news, p.1 ≠ D) : Sys z lay σ ((D, o) :: imm) ((D, o) :: news) :=
  (S.cons _).keep1 (.head _) fun i hi e => off _ (S.mem' i hi) e.symm
theorem Sys.congrL {lay' : Nat → Addr} {σ' : Nat → Obj} (S : Sys z lay σ imm news) (h : ∀ i, i < z → lay' i = lay i ∧ σ' i = σ i) : Sys z lay' σ' imm news :=
  S.as' fun i hi => ⟨(h i hi).1.symm, (h i hi).2.symm⟩
end
theorem ints_snoc {ys : List Value} {ks : List Int} {v : Int} {t : Tok} (h : IntsAre ys ks) : IntsAre (ys ++ [.int v t]) (ks ++ [v]) := by
  induction h with
  | nil => exact .cons v t .nil
  | cons i u _ ih => exact .cons i u ih
theorem RowOk.of {imm : Led} {p : Int} {tp : Tok} {a kl : Addr} {kvs : List Value} {kn : Nat} {ks : List Int} (h1 : (a, tupO [.int p tp, .ref kl]) ∈ imm) (h2 : (kl, listOf (List.toArray kvs) kn) ∈ imm) (h3 : IntsAre kvs ks) (h4 : kvs.length ≤ 3) : RowOk imm (.ref a) (p, ks) := ⟨a, tp, kl, kvs, kn, rfl, h1, h2, h3, h4⟩
theorem C_listed (w : World) (z : Nat) (fd : Addr) (fx : Fux) (cells : List Int) (lay : Nat → Addr) (σ : Nat → Obj) (imm : Led) (b : Nat) (hb : b ≤ 900000) (C0 : FRep w fd fx lay σ imm cells b) :
    Ct1 w 4 398 [.ref fd] z lay σ imm (fun r σ' imm' => OnlyF z σ σ' ∧ FRep w fd fx lay σ' imm' cells (b + 40) ∧ ∃ q vs n rows, r = .ref q ∧ (q, listOf (List.toArray vs) n) ∈ imm' ∧ All2 (RowOk imm') vs rows ∧ vs.length ≤ 3 ∧ ∀ r ∈ rows, Pl r.1 ∧ ∀ k ∈ r.2, Sl k) := by
  unfold Ct1
  k_fill
  intro V lw dp un gd cn cs a ccd cl outer A₀ base h₀ L m s mean mg mb news Q E B F X N T S hk hd hu hret
  have hz := S.le
  refine wpAny_call ?_
  k_dflt (refine' code_defC ?k1 ?k2 ?k3 ?k4 ?k5 ?kA ?kF ?kK ?k6 ?k7 ?k8 ?k9 ?kB ?kD ?_ ?c2 ?c3 ?c4; (case kA => exact rfl); (case kF => exact rfl); (case kK => assumption); (case k1 => k_asm); (case k2 => k_asm); (case k3 => k_asm); (case k4 => k_asm); (case k5 => k_asm); (case k6 => k_is); (case k7 => k_is); (case k8 => ktr_room); (case k9 => exact BindsTo.of_eq rfl); (case kB => exact rfl); (case kD => decide +kernel); (case c2 => exact rfl); (case c3 => exact rfl); (case c4 => exact rfl); k_whole; intro g' L' h' tk' cells' FG' F' N' Y' B' X' T' l1)
  obtain ⟨oc, he, Yc⟩ := CellsAre.one Y'
  subst he
  have Yd : oc.data = .cell (some (.ref fd)) := Yc
  have S1 : Sys z lay σ ((_, oc) :: imm) ((_, oc) :: news) := S.push (q := L' + 1) (o := oc) (fun p hp => Nat.lt_succ_of_lt (l1 p hp))
  have C1 := FRep.lift C0 S1 (by tb_start)
  clear C0 S Y' Yc
  (try simp only [List.cons_append, List.nil_append] at N')
  (try dsimp only)
  (try k_fold)
  k_steps
  rename FRep _ _ _ _ _ _ _ _ => C9
  rename Sys _ _ _ _ _ => S9
  rename OnlyF _ _ _ => of9
  k_dflt refine iter_range_Z (by exact rfl) (leM (by assumption)) (by k_asm) (by k_asm) S9 (List.Mem.head _) (fun m₀ i m' lay' σ' imm' => (∀ y, y ≠ Str.ofString "turn" → y ≠ Str.ofString "law_place" → y ≠ Str.ofString "law_place" → m' y = m₀ y) ∧ (∀ j, j < z → lay' j = lay j) ∧ m₀ (Str.ofString "law_rows") = some (.ref (lay' z)) ∧ OnlyF z σ σ' ∧
      (∃ vs rows n, σ' z = listOf (List.toArray vs) n ∧ All2 (RowOk imm') vs rows ∧ vs.length = i ∧ ∀ r ∈ rows, Pl r.1 ∧ ∀ k ∈ r.2, Sl k) ∧ FRep w fd fx lay' σ' imm' cells (b + 1 + 8 * i)) ⟨fun _ _ _ _ => rfl, fun j hj => upd_ne _ _ (Nat.ne_of_lt hj), by rw [upd_self]; rfl, fun j hj h3 => (of9 j (Nat.lt_succ_of_lt hj) h3).trans (upd_ne _ _ (Nat.ne_of_lt hj)), ⟨[], [], 0, (of9 z (Nat.lt_succ_self z) (ne3 hz)).trans (upd_self _ _ _), .nil, rfl, fun _ h => nomatch h⟩, C9⟩ ?_ ?_ ?_
  · intro i m' lay' σ' imm' q o hJ
    exact ⟨hJ.1, fun j hj => (upd_ne _ _ (ne1 hj)).trans (hJ.2.1 j hj), by rw [upd_ne _ _ neS]; exact hJ.2.2.1, fun j hj hj3 => (upd_ne _ _ (ne1 hj)).trans (hJ.2.2.2.1 j hj hj3), ex3 hJ.2.2.2.2.1 fun vs rows n h => ⟨vs, rows, n, (upd_ne _ _ neS).trans h.1, h.2⟩, hJ.2.2.2.2.2.more (Nat.le_succ_of_le hz) q o⟩
  · intro i tv m₁ lay₁ σ₁ imm₁ news₁ h1 tk1 hi U1 hJ F1 N1 S1 G hG
    refine and6 hJ ?_
    intro hm hl hlr of1 hE C1
    refine ex3 hE ?_
    intro vs rows n hK
    refine and4 hK ?_
    intro es hrows hlen hpl
    have F2 := fr_l3 hm F1
    have hcell : (L' + 1, oc) ∈ imm₁ := U1.sub _ (by ktr_rel)
    clear F1 S9 C9 hJ hK hE
    have hB := blB (i := i) hb (lt4 hi (by assumption))
    k_steps
    rename Sys _ _ _ _ _ => S2
    rename OnlyF _ _ _ => of2
    have es2 := (of2 z ls2 (ne3 hz)).trans es
    have eq2 := Value.ref.inj (Option.some.inj (show some (Value.ref _) = some (Value.ref (lay₁ z)) from hlr))
    have hd2 := S2.mem' z ls2
    rw [es2, ← eq2] at hd2
    k_dflt refine list_getMethod PySem.F.slot_list_append PySem.F.type_list_append (by k_asm) hd2 ?_
    k_steps
    rename Sys _ _ _ _ _ => S3
    rename FRep _ _ _ _ _ _ _ _ => C3
    rename OnlyF _ _ _ => of3
    rename _ ∨ _ ∨ _ => hpl3
    k_dflt refine LCg.CompSrc.range (by exact rfl) (by k_asm) (by k_asm) (News.get (by k_asm) (S3.sub _ (List.Mem.head _))) (range_small _ (leM (by assumption))).1 (range_small _ (leM (by assumption))).2 (by rw [sizeLine_eq]; omega) ?_
    intro gg
    k_dflt refine comp_rest (z := z + 1 + 1) _ (fun c ys lay' σ' imm' => (∀ j, j < z + 1 + 1 → lay' j = lay₁ j) ∧ OnlyF (z + 1 + 1) σ₁ σ' ∧ (∃ ks, IntsAre ys ks ∧ ∀ k ∈ ks, Sl k) ∧ ys.length = c ∧ FRep w fd fx lay' σ' imm' cells (b + 1 + 8 * i + 1 + 1 + c)) ?_ ?_ ?_ _ 0 [] _ _ _ _ (Nat.zero_add _) (Suf.refl _) ⟨fun _ _ => rfl, of2.trans of3, ⟨[], .nil, fun _ h => nomatch h⟩, rfl, C3⟩ S3
    · intro c ys la sg im la' sg' he hJ
      exact ⟨fun j hj => (he j hj).1.trans (hJ.1 j hj), fun j hj h3 => (he j hj).2.trans (hJ.2.1 j hj h3), hJ.2.2.1, hJ.2.2.2.1, hJ.2.2.2.2.same (he 3 (lt2 (gt3 hz)))⟩
    · intro c v ys C m₂ lay₃ σ₃ imm₃ news₃ h3 tk3 E' hc hv hC hx U3 hJ F3 N3 S4
      refine and5 hJ ?_
      intro j1 j2 hE j5 C4
      refine Exists.elim hE ?_
      intro ks hK
      have j3 := hK.1
      have j4 := hK.2
      clear hJ hK hE
      have hcell3 : (L' + 1, oc) ∈ imm₃ := U3.sub _ (by ktr_rel)
      clear S3 C3 hd2
      have hB2 := blC (c := c) hB (lt4 hc (by assumption))
      k_steps
      rename Sys _ _ _ _ _ => S5
      rename FRep _ _ _ _ _ _ _ _ => C5
      rename OnlyF _ _ _ => of5
      rename _ ∨ _ ∨ _ => hv5
      refine ⟨_, _, _, _, _, _, rfl, by k_asm, by k_asm, S5, fun j h1 h2 => ⟨rfl, of5 j h2 (jn3 hz h1)⟩, ?su, j1, fun j hj h3 => (of5 j (lt5 hj) h3).trans (j2 j hj h3), ⟨_, ints_snoc j3, fun k hk => ?_⟩, by simp [j5], C5.mono (fun _ h => h) (Nat.le_refl _)⟩
      case su => tb_start
      rcases List.mem_append.mp hk with hk | hk
      · exact j4 k hk
      · rw [List.mem_singleton.mp hk]; exact hv5
    · intro ys lay₃ σ₃ imm₃ news₃ U3 hJ S4 D h4 tk4 F4 N4 off4
      refine and5 hJ ?_
      intro j1 j2 hE j5 C4
      refine Exists.elim hE ?_
      intro ks hK
      have j3 := hK.1
      have j4 := hK.2
      clear hJ hK hE
      have N5 : News _ _ h4 ((D, listOf ys.toArray ys.length) :: news₃) := N4
      have S5 := S4.keepD (o := listOf ys.toArray ys.length) (Off1.mem' off4)
      have C5 := C4.lift S5 (by tb_start)
      have eq3 := eq2.trans (j1 z ls2).symm
      have es4 := (j2 z ls2 (ne3 hz)).trans es
      clear N4 S4 C4 S3 C3 hd2
      k_steps
      rename Sys _ _ _ _ _ => S6
      rename FRep _ _ _ _ _ _ _ _ => C6
      k_dflt refine append_own (i := z) ls2 eq3 (by k_asm) (by k_asm) S6 es4 (leV hlen hi (by assumption)) ?_
      intro h7 n7 F7 N7 S7
      have C7 := FRep.as (C6.updB (i := z) (ne3 hz) _) S7
      clear S6 C6
      k_steps
      refine hG _ _ ?_
      refine FStep.intro (by k_asm) (by k_asm) S7 (j1 (z + 1) (Nat.lt_succ_self _)) ((upd_ne _ _ (Nat.succ_ne_self z)).trans (j2 (z + 1) (Nat.lt_succ_self _) (ne3 (Nat.le_succ_of_le hz)))) ?su ⟨?_, fun j hj => (j1 j (lt2 hj)).trans (hl j hj), ?_, fun j hj h3 => (upd_ne _ _ (Nat.ne_of_lt hj)).trans ((j2 j (lt2 hj) h3).trans (of1 j hj h3)), ⟨_, _, _, upd_self _ _ _, All2.snoc (hrows.mono fun _ _ h => RowOk.mono h (Suf.sub (by tb_start))) (RowOk.of (List.Mem.head _) (List.Mem.tail _ (List.Mem.head _)) j3 (le3 j5 (by assumption))), by simp [hlen], ?_⟩, C7.mono (fun _ h => h) (bl8 (by assumption))⟩
      case su => tb_start
      · intro y h1 h2 h3
        simp only [if_neg h1, if_neg h2]
      · rw [j1 z ls2]; exact hlr
      · intro r hr
        rcases List.mem_append.mp hr with hr | hr
        · exact hpl r hr
        · rw [List.mem_singleton.mp hr]; exact ⟨hpl3, j4⟩
  · intro m₁ lay₁ σ₁ imm₁ news₁ h1 tk1 U1 hJ F1 N1 S1
    refine and6 hJ ?_
    intro hm hl hlr of1 hE C1
    refine ex3 hE ?_
    intro vs rows n hK
    refine and4 hK ?_
    intro es hrows hlen hpl
    have F2 := fr_l3' hm F1
    clear hJ hK hE
    have eq2 := Value.ref.inj (Option.some.inj (show some (Value.ref _) = some (Value.ref (lay₁ z)) from hlr))
    have S2 := S1.keepZ hz
    rw [es, ← eq2] at S2
    have C2 := FRep.lift C1 S2 (by tb_start)
    clear F1 S9 C9 S1 C1
    k_steps
    have S3 := S2.congrL (lay' := lay) (σ' := σ₁) fun i hi => ⟨(hl i hi).symm, rfl⟩
    have C3 := C2.same (lay' := lay) (σ' := σ₁) ⟨(hl 3 (gt3 hz)).symm, rfl⟩
    clear S2 C2
    (refine hret _ _ _ _ _ _ (by k_asm) (by k_asm) ?su (by assumption) ?_; (case su => tb_start))
    exact ⟨of1, C3.mono (fun _ h => h) (bl9 (by assumption)), _, _, _, _, rfl, List.Mem.head _, hrows.mono fun _ _ h => RowOk.mono h (fun _ h => List.Mem.tail _ h), le3 hlen (by assumption), hpl⟩

local macro_rules | `(tactic| walk_at "call ref") => `(tactic| k_call_by "2e" C_begin)

theorem int_some {a b : Int} {t : Tok} (h : a = b) : some (Value.int a t) = some (Value.int b t) := h ▸ rfl
def OPost (w : World) (z : Nat) (st bk : Addr) (lay lay' : Nat → Addr) (σ σ' : Nat → Obj) (imm' : Led) (b n : Nat) : Prop :=
  ∃ ax bx x y, StRep w st ax lay' σ' imm' x b ∧ BRep w bk bx lay' σ' imm' y b ∧ FrameL z lay lay' σ σ' ∧ Inv x y ∧ x.jr.length ≤ n
theorem C_opened (w : World) (z : Nat) (st bk : Addr) (ax : Aux) (lay : Nat → Addr) (σ : Nat → Obj) (imm : Led) (x : SX) (cur : Int → Int → Option Int) (b : Nat) (hb : b ≤ 900000) (R : StRep w st ax lay σ imm x b) (B0 : BRep0 w bk lay σ imm cur b)
    (hc : ∀ p k, x.c.cur p k = (cur p k).getD 0) (rl : Addr) (vs : List Value) (n : Nat) (rows : List (Int × List Int)) (ha : (rl, listOf (List.toArray vs) n) ∈ imm) (hr : All2 (RowOk imm) vs rows) (h3 : vs.length ≤ 3) :
    Ct w 12 405 [.ref bk, .ref st, .ref rl] z lay σ imm (fun r lay' σ' imm' => r = .bool true ∧ OPost w z st bk lay lay' σ σ' imm' (b + 100) 12) := by
  unfold Ct
  k_fill
  intro V lw dp un gd cn cs a ccd cl outer A₀ base h₀ L m s mean mg mb news Q E B F X N T S hk hd hu hret
  refine wpAny_call ?_
  k_dflt ktr_enter
  have hz := S.le
  k_steps
  rename BRep0 _ _ _ _ _ _ _ => B3
  rename StRep _ _ _ _ _ _ _ _ => R3
  rename Sys _ _ _ _ _ => S3
  rename Wd _ _ _ _ _ => W3
  rename Frame _ _ _ _ _ => fr1
  have S4 := (Sys.two' S3 hz (by assumption)).1
  have f4 := (Sys.two' S3 hz (by assumption)).2
  have R4 := R3.same fun i hi => two_same hz i hi
  have B4 := B3.same fun i _ hi => two_same hz i hi
  have W4 := Wd.lift W3 S4 (by tb_start) (Nat.le_add_right _ 4)
  refine Exists.elim B4.words ?_
  intro f hW
  have T4 := hW.1
  have hf := hW.2
  have eb4 := B4.bk
  have wd4 := B4.wd.mono (fun _ h => h) (Nat.le_add_right b 4)
  have hzB : z ≠ iBk := neI hz rfl
  have hzW : z ≠ iWl := neI hz rfl
  clear R3 B3 S3 W3
  k_dflt refine set_key' (i := iWl) (by decide) (by k_asm) (by k_asm) S4 f4 T4 rfl eb4 (by walk_at "zb") ?_
  intro h5 o5 n5 F5 N5 S5 T5
  (try k_sweep); (try dsimp only)
  have R5 := StRep.as (R4.swapB (i := iWl) (j := iBk) (.inr (by decide)) (.inr (by decide)) _ _ o5) S5
  clear R4 S4 f4 B4
  k_steps
  k_dflt refine set_keyV' (by k_asm) (by k_asm) S5 T5 rfl eb4 (by walk_at "zb") ?_
  intro h6 o6 n6 F6 N6 S6 T6
  (try k_sweep); (try dsimp only)
  have R6 := StRep.as (R5.updB (i := iBk) (.inr (by decide)) o6) S6
  clear R5 S5
  k_steps
  k_dflt refine set_keyV' (by k_asm) (by k_asm) S6 T6 rfl eb4 (by walk_at "zb") ?_
  intro h7 o7 n7 F7 N7 S7 T7
  (try k_sweep); (try dsimp only)
  have R7 := StRep.as (R6.updB (i := iBk) (.inr (by decide)) o7) S7
  clear R6 S6
  k_steps
  have f7 := S7.fresh (by simp only [upd_self, upd_ne _ _ hzB, upd_ne _ _ hzW]; assumption)
  simp only [upd_self, upd_ne _ _ hzB, upd_ne _ _ hzW] at f7
  k_dflt refine set_key' (i := iMl) (by decide) (by k_asm) (by k_asm) (S7.drop hz) f7 T7 rfl eb4 (by walk_at "zb") ?_
  intro h8 o8 n8 F8 N8 S8 T8
  (try k_sweep); (try dsimp only)
  have R8 := StRep.as (R7.swapB (i := iMl) (j := iBk) (.inr (by decide)) (.inr (by decide)) _ _ o8) S8
  have B8 := r_set_new4 (bk := bk) (cur := cur) (b := b + 4) S8 eb4 wd4 T8 rfl (by rw [if_neg (by decide), if_neg (by decide), if_neg (by decide), if_neg (by decide)]; exact hf) (by rw [if_neg (by decide), if_neg (by decide), if_neg (by decide), if_pos rfl]; rfl) (by rw [if_neg (by decide), if_neg (by decide), if_pos rfl]) (by rw [if_pos rfl]; rfl) (by rw [if_neg (by decide), if_pos rfl]) rfl rfl (List.Mem.tail _ (List.Mem.head _)) (by assumption) W4
  have I8 : Inv x.begun _ := Inv.begun hc
  have hK : ∃ lay8 σ8 imm8 ax8 bx8 x8 y8, Sys z lay8 σ8 imm8 n8 ∧ StRep w st ax8 lay8 σ8 imm8 x8 (b + 4) ∧ BRep w bk bx8 lay8 σ8 imm8 y8 (b + 4) ∧ Inv x8 y8 ∧ x8.jr.length = 0 ∧ FrameL z lay lay8 σ σ8 ∧ Suf imm imm8 := by
    refine' ⟨_, _, _, _, _, _, _, S8, R8.mono (fun _ h => h) (Nat.le_add_right _ 4), B8, I8, rfl, ?fr, by tb_start⟩
    intro i h1 h2
    have e1 : i ≠ iMl := by show i ≠ 13; omega
    have e2 : i ≠ iWl := by show i ≠ 11; omega
    have e3 : i ≠ iBk := by show i ≠ 10; omega
    have e4 : i ≠ z := by omega
    simp only [upd_ne _ _ e1, upd_ne _ _ e2, upd_ne _ _ e3, upd_ne _ _ e4]
    exact fr1.toL i h1 h2
  clear R7 S7 f7 T4 T5 T6 T7 T8 hf hW W4 wd4 eb4 S8 R8 B8 I8 hzB hzW
  refine ex7 hK ?_
  intro lay8 σ8 imm8 ax8 bx8 x8 y8 hJ
  refine and7 hJ ?_
  intro S9 R9 B9 I9 jl9 fr9 U9
  have ha8 := U9.sub _ ha
  have hr8 := hr.mono fun _ _ h => RowOk.mono h U9.sub
  clear hK hJ hc ha hr
  k_steps
  rename Fr _ _ _ _ => F9
  k_dflt refine For_invTF F9 ?_ (by intro _; rfl) (by passes_own)
  k_steps
  k_dflt refine iter_list_ZT (by exact rfl) (by k_asm) (by k_asm) S9 ha8 (fun m₀ i m' lay' σ' imm' => (∀ y, y ≠ Str.ofString "law_due" → y ≠ Str.ofString "law_place" → y ≠ Str.ofString "law_keys" → y ≠ Str.ofString "law_key" → m' y = m₀ y) ∧ ∃ t ax' bx' x' y', m' (Str.ofString "law_due") = some (.int (listCost (rows.take i)) t) ∧ StRep w st ax' lay' σ' imm' x' (b + 4 + 20 * i) ∧ BRep w bk bx' lay' σ' imm' y' (b + 4 + 20 * i) ∧ Inv x' y' ∧ x'.jr.length ≤ 4 * i ∧ FrameL z lay8 lay' σ8 σ') ⟨fun _ _ _ _ _ => rfl, _, ax8, bx8, x8, y8, rfl, R9, B9, I9, by omega, FrameL.refl _ _ _⟩ ?_ ?_ ?_
  · intro i m' la sg im q o hJ
    exact ⟨hJ.1, imp5 hJ.2 fun t ax' bx' x' y' h => ⟨h.1, h.2.1.more hz q o, h.2.2.1.more hz q o, h.2.2.2.1, h.2.2.2.2.1, h.2.2.2.2.2.updZ q o⟩⟩
  · intro i v m₁ lay₁ σ₁ imm₁ news₁ s₁ hv
    apply All2.at hr8 hv
    intro row ra tp kl kvs kn hrow ht hkl hki hk3 hilt U1 hJ F1 N1 S1 G hG
    refine ex5 hJ.2 ?_
    intro tc ax1 bx1 x1 y1 hK
    refine and6 hK ?_
    intro e0K R1 B1 I1 jl1 fr2
    have ht := U1.sub _ ht
    have hkl := U1.sub _ hkl
    have F2 := fr_m4 hJ.1 e0K F1
    clear F1 F9 S9 R9 B9 hJ hK
    have hB := bo1 hb hilt h3
    k_steps
    rename BRep _ _ _ _ _ _ _ _ => B5
    rename StRep _ _ _ _ _ _ _ _ => R5
    rename Sys _ _ _ _ _ => S5
    rename Frame _ _ _ _ _ => frw
    have I5 := I1.warm row.1
    have hki := ‹IntsAre kvs row.2›
    have jl5 := warm_len x1 row.1
    have fr5 := frw.toL
    k_dflt refine iter_list_Z (by exact rfl) (by k_asm) (by k_asm) S5 (List.mem_append_right _ hkl) (fun m₀ c m' lay' σ' imm' => (∀ y, y ≠ Str.ofString "law_due" → y ≠ Str.ofString "law_key" → m' y = m₀ y) ∧ ∃ t ax' bx' x' y', m' (Str.ofString "law_due") = some (.int (listCost (rows.take i) + 2400 + 1900 * (c : Int)) t) ∧ StRep w st ax' lay' σ' imm' x' (b + 4 + 20 * i + 2 + 5 * c) ∧ BRep w bk bx' lay' σ' imm' y' (b + 4 + 20 * i + 2 + 5 * c) ∧ Inv x' y' ∧ x'.jr.length ≤ 4 * i + 1 + c ∧ FrameL (z + 1) lay₁ lay' σ₁ σ') ⟨fun _ _ _ => rfl, _, _, _, _, _, int_some (a := listCost (rows.take i) + 2400) (b := listCost (rows.take i) + 2400 + 1900 * ((0 : Nat) : Int)) boE, R5, B5.mono (fun _ h => h) boB, I5, boA jl1 jl5, fr5.upd (by decide) _⟩ ?_ ?_ ?_
    · intro c m' la sg im q o hJ
      exact ⟨hJ.1, imp5 hJ.2 fun t ax' bx' x' y' h => ⟨h.1, h.2.1.more (Nat.le_succ_of_le hz) q o, h.2.2.1.more (Nat.le_succ_of_le hz) q o, h.2.2.2.1, h.2.2.2.2.1, h.2.2.2.2.2.updZ q o⟩⟩
    · intro c v m₂ lay₂ σ₂ imm₂ news₂ h2 tk2 hv2
      apply exV (ints_at hki hv2)
      intro k tkk hclt U2 hJ F3 N3 S3 G hG
      refine ex5 hJ.2 ?_
      intro tc2 ax2 bx2 x2 y2 hK
      refine and6 hK ?_
      intro e0K R2 B2 I2 jl2 fr3
      have F4 := fr_n2 (by decide) hJ.1 e0K F3
      clear F3 S5 R5 B5 frw fr5 hJ hK
      have hB2 := bo2 hB hclt hk3
      k_steps
      rename BRep _ _ _ _ _ _ _ _ => B6
      rename StRep _ _ _ _ _ _ _ _ => R6
      rename Sys _ _ _ _ _ => S6
      rename Frame _ _ _ _ _ => fw6
      have jl6 := warmSlot_len x2 row.1 k
      have I6 := I2.warmSlot row.1 k
      refine hG _ _ ?_
      refine FStep.intro (by k_asm) (by k_asm) S6 rfl ((upd_ne _ _ (show z + 1 ≠ iWl by show z + 1 ≠ 11; omega)).trans (fw6 (z + 1) (.inr (by omega)) (by omega)).2) ?su ⟨?_, _, _, _, _, _, int_some (a := listCost (rows.take i) + 2400 + 1900 * (c : Int) + 1900) (b := listCost (rows.take i) + 2400 + 1900 * ((c + 1 : Nat) : Int)) boC, R6.mono (fun _ h => h) (by first | exact bo3 | exact bo4 | omega), B6.mono (fun _ h => h) (by first | exact bo4 | exact bo3 | omega), I6, bo5 jl2 jl6, fr3.trans (((fw6.toL).upd (by decide) _).top)⟩
      case su => tb_start
      intro y h1 h2
      simp only [if_neg h1, if_neg h2]
    · intro m₂ lay₂ σ₂ imm₂ news₂ h2 tk2 U2 hJ F3 N3 S3
      refine ex5 hJ.2 ?_
      intro tc2 ax2 bx2 x2 y2 hK
      refine and6 hK ?_
      intro e0K R2 B2 I2 jl2 fr3
      have F4 := fr_n2' (by decide) hJ.1 e0K F3
      clear F3 S5 R5 B5 frw fr5 hJ hK
      k_steps
      have hkn := hki.length
      refine hG _ _ ?_
      refine TStep.intro (by k_asm) (by k_asm) S3 (fr3 z (.inr hz) (by omega)).1 (fr3 z (.inr hz) (by omega)).2 ?su ⟨?_, _, _, _, _, _, int_some (a := listCost (rows.take i) + 2400 + 1900 * (kvs.length : Int)) (b := listCost (rows.take (i + 1))) (by rw [listCost_take hrow]; exact boD hkn), R2.mono (fun _ h => h) (bo6 hk3), B2.mono (fun _ h => h) (bo6 hk3), I2, bo7 jl2 hk3, fr2.trans fr3.top⟩
      case su => exact Suf.trans (by tb_start) U2
      intro y h1 h2 h3 h4
      simp only [if_neg h1, if_neg h2, if_neg h3, if_neg h4]
  · intro m₁ lay₁ σ₁ imm₁ news₁ h1 tk1 U1 hJ F1 N1 S1
    refine ex5 hJ.2 ?_
    intro tc ax1 bx1 x1 y1 hK
    refine and6 hK ?_
    intro e0K R1 B1 I1 jl1 fr2
    have F2 := fr_m4 hJ.1 e0K F1
    have hr9 : All2 (RowOk imm₁) vs rows := hr8.mono fun _ _ h => RowOk.mono h U1.sub
    have ha9 := U1.sub _ ha8
    have e : listCost (rows.take vs.length) = listCost rows := by rw [List.take_of_length_le (by rw [hr8.1]; exact Nat.le_refl _)]
    rw [e] at F2
    clear F1 F9 S9 R9 B9 hr8 ha8 hJ hK
    k_steps
    rename BRep _ _ _ _ _ _ _ _ => B7
    rename StRep _ _ _ _ _ _ _ _ => R7
    refine hret _ _ _ _ _ _ _ (by k_asm) (by k_asm) ?su2 (by assumption) ?_
    case su2 => exact Suf.trans U9 (Suf.trans U1 (by tb_start))
    exact ⟨by simp, _, _, _, _, R7.mono (fun _ h => h) (bo8 h3), B7.mono (fun _ h => h) (bo8 h3), fr9.trans fr2, I1, bo9 jl1 h3⟩

/-! all in one -/
def LRep (w : World) (fd st bk : Addr) (cells : List Int) (lay : Nat → Addr) (σ : Nat → Obj) (imm : Led) (b n : Nat) : Prop :=
  ∃ ax bx fx x y, StRep w st ax lay σ imm x b ∧ BRep w bk bx lay σ imm y b ∧ FRep w fd fx lay σ imm cells b ∧ Inv x y ∧ x.jr.length ≤ n
abbrev LPost (w : World) (z : Nat) (fd st bk : Addr) (cells : List Int) (lay : Nat → Addr) (σ : Nat → Obj) (b n : Nat) : Value → (Nat → Addr) → (Nat → Obj) → Led → Prop :=
  fun r lay' σ' imm' => r = .bool true ∧ LRep w fd st bk cells lay' σ' imm' b n ∧ FrameO z lay lay' σ σ'
section
variable {w : World} {lv : Nat} {f : Addr} {args : List Value} {z : Nat} {lay : Nat → Addr} {σ : Nat → Obj} {imm : Led} {fd st bk : Addr} {cells : List Int} {b n : Nat}
theorem Ct1.toCt {R : Value → (Nat → Obj) → Led → Prop} {R' : Value → (Nat → Addr) → (Nat → Obj) → Led → Prop} (C : Ct1 w lv f args z lay σ imm R)
    (h : ∀ r σ' imm' news', Sys z lay σ' imm' news' → Suf imm imm' → R r σ' imm' → R' r lay σ' imm') : Ct w lv f args z lay σ imm R' := by
  unfold Ct1 at C
  unfold Ct
  intro V lw dp un gd cn cs a ccd cl outer A₀ base h₀ L m s mean mg mb news Q E B F X N T S hk hd hu hret
  exact C V lw dp un gd cn cs a ccd cl outer A₀ base h₀ L m s mean mg mb news Q E B F X N T S hk hd hu fun r σ' imm' n' h' tk' F' N' U S' R' => hret r lay σ' imm' n' h' tk' F' N' U S' (h r σ' imm' n' S' U R')
theorem Ct.toCt {R R' : Value → (Nat → Addr) → (Nat → Obj) → Led → Prop} (C : Ct w lv f args z lay σ imm R)
    (h : ∀ r lay' σ' imm' news', Sys z lay' σ' imm' news' → Suf imm imm' → R r lay' σ' imm' → R' r lay' σ' imm') : Ct w lv f args z lay σ imm R' := by
  unfold Ct at C
  unfold Ct
  intro V lw dp un gd cn cs a ccd cl outer A₀ base h₀ L m s mean mg mb news Q E B F X N T S hk hd hu hret
  exact C V lw dp un gd cn cs a ccd cl outer A₀ base h₀ L m s mean mg mb news Q E B F X N T S hk hd hu fun r lay' σ' imm' n' h' tk' F' N' U S' R' => hret r lay' σ' imm' n' h' tk' F' N' U S' (h r lay' σ' imm' n' S' U R')
theorem Ct1.toCt1 {R R' : Value → (Nat → Obj) → Led → Prop} (C : Ct1 w lv f args z lay σ imm R)
    (h : ∀ r σ' imm' news', Sys z lay σ' imm' news' → Suf imm imm' → R r σ' imm' → R' r σ' imm') : Ct1 w lv f args z lay σ imm R' := by
  unfold Ct1 at C ⊢
  intro V lw dp un gd cn cs a ccd cl outer A₀ base h₀ L m s mean mg mb news Q E B F X N T S hk hd hu hret
  exact C V lw dp un gd cn cs a ccd cl outer A₀ base h₀ L m s mean mg mb news Q E B F X N T S hk hd hu fun r σ' imm' n' h' tk' F' N' U S' R' => hret r σ' imm' n' h' tk' F' N' U S' (h r σ' imm' n' S' U R')
theorem Ct0.toCt0 {R R' : Value → Led → Prop} (C : Ct0 w lv f args z lay σ imm R) (h : ∀ r imm', R r imm' → R' r imm') : Ct0 w lv f args z lay σ imm R' := by
  unfold Ct0 at C ⊢
  intro V lw dp un gd cn cs a ccd cl outer A₀ base h₀ L m s mean mg mb news Q E B F X N T S hk hd hu hret
  exact C V lw dp un gd cn cs a ccd cl outer A₀ base h₀ L m s mean mg mb news Q E B F X N T S hk hd hu fun r imm' n' h' tk' F' N' U S' R' => hret r imm' n' h' tk' F' N' U S' (h r imm' R')
theorem LRep.mono {imm' : Led} {b' n' : Nat} (H : LRep w fd st bk cells lay σ imm b n) (hs : ∀ q ∈ imm, q ∈ imm') (hb : b ≤ b') (hn : n ≤ n') : LRep w fd st bk cells lay σ imm' b' n' :=
  imp5 H fun ax bx fx x y h => ⟨h.1.mono hs hb, h.2.1.mono hs hb, h.2.2.1.mono hs hb, h.2.2.2.1, Nat.le_trans h.2.2.2.2 hn⟩
theorem LRep.lift {imm' news : Led} (H : LRep w fd st bk cells lay σ imm b n) (_S : Sys z lay σ imm' news) (su : Suf imm imm') : LRep w fd st bk cells lay σ imm' b n := H.mono su.sub (Nat.le_refl _) (Nat.le_refl _)
theorem LRep.more (H : LRep w fd st bk cells lay σ imm b n) (hz : 14 ≤ z) (q : Addr) (o : Obj) : LRep w fd st bk cells (upd lay z q) (upd σ z o) imm b n :=
  imp5 H fun ax bx fx x y h => ⟨h.1.more hz q o, h.2.1.more hz q o, h.2.2.1.more hz q o, h.2.2.2⟩
theorem L_draw (H : LRep w fd st bk cells lay σ imm b n) (hb : b ≤ 990000) (wd : Int) (hw : 0 < wd) (hw2 : wd < 1000000) (tw : Tok) :
    Ct1 w 2 393 [.ref fd, .int wd tw] z lay σ imm (fun r σ' imm' => LRep w fd st bk cells lay σ' imm' (b + 1) n ∧ OnlyF z σ σ' ∧ ∃ (d : Nat) (t : Tok), (d : Int) < wd ∧ r = .int d t) := by
  refine ex5 H fun ax bx fx x y k => ?_
  exact (C_draw w z fd fx lay σ imm cells b hb k.2.2.1 wd hw hw2 tw).toCt1 fun r σ' imm' n' S U h =>
    ⟨⟨ax, bx, fx, x, y, (k.1.onlyF S h.1 U).mono (fun _ h => h) (Nat.le_succ _), (k.2.1.onlyF S h.1 U).mono (fun _ h => h) (Nat.le_succ _), h.2.1, k.2.2.2⟩, h.1, h.2.2⟩
theorem L_listed (H : LRep w fd st bk cells lay σ imm b n) (hb : b ≤ 900000) :
    Ct1 w 4 398 [.ref fd] z lay σ imm (fun r σ' imm' => LRep w fd st bk cells lay σ' imm' (b + 40) n ∧ OnlyF z σ σ' ∧ ∃ q vs n rows, r = .ref q ∧ (q, listOf (List.toArray vs) n) ∈ imm' ∧ All2 (RowOk imm') vs rows ∧ vs.length ≤ 3) := by
  refine ex5 H fun ax bx fx x y k => ?_
  exact (C_listed w z fd fx cells lay σ imm b hb k.2.2.1).toCt1 fun r σ' imm' n' S U h =>
    ⟨⟨ax, bx, fx, x, y, (k.1.onlyF S h.1 U).mono (fun _ h => h) (Nat.le_add_right _ _), (k.2.1.onlyF S h.1 U).mono (fun _ h => h) (Nat.le_add_right _ _), h.2.1, k.2.2.2⟩, h.1, imp4 h.2.2 fun q vs n rows e => ⟨e.1, e.2.1, e.2.2.1, e.2.2.2.1⟩⟩
theorem Ct1.toL {fx : Fux} {x1 : SX} {y1 : BX} {b1 b2 n2 : Nat} (C : Ct1 w lv f args z lay σ imm (fun r σ' imm' => r = .bool true ∧ DPost w z st bk lay lay σ σ' imm' x1 y1 b1)) (C0 : FRep w fd fx lay σ imm cells b) (I : Inv x1 y1) (hj : x1.jr.length ≤ n2) (h1 : b1 ≤ b2) (h2 : b ≤ b2) :
    Ct w lv f args z lay σ imm (LPost w z fd st bk cells lay σ b2 n2) :=
  C.toCt fun r σ' imm' n' S U h => ⟨h.1, ex2 h.2 fun ax' bx' k => ⟨⟨ax', bx', fx, x1, y1, k.1.mono (fun _ h => h) h1, k.2.1.mono (fun _ h => h) h1, (C0.toL S k.2.2 U).mono (fun _ h => h) h2, I, hj⟩, k.2.2.toO⟩⟩
theorem le20 {b c : Nat} (h : Nat.ble c 20 = true) : b + c ≤ b + 20 := Nat.add_le_add_left (Nat.le_of_ble_eq_true h) b
theorem L_looked (H : LRep w fd st bk cells lay σ imm b n) (hb : b ≤ 900000) (p : Int) (hp : Pl p) (t : Tok) : Ct w 5 419 [.ref bk, .ref st, .int p t] z lay σ imm (LPost w z fd st bk cells lay σ (b + 20) (n + 20)) := by
  refine ex5 H fun ax bx fx x y k => ?_
  have := warm_len x p
  have := k.2.2.2.2
  exact (C_looked w z st bk ax bx lay σ imm x y b (by omega) k.1 k.2.1 p hp t (k.2.2.2.1.ag.wo p)).toL k.2.2.1 (k.2.2.2.1.warm p) (by omega) (le20 rfl) (Nat.le_add_right _ _)
theorem L_loaded (H : LRep w fd st bk cells lay σ imm b n) (hb : b ≤ 900000) (p k : Int) (hp : Pl p) (tp : Addr) (t u : Tok) (ht : (tp, tupO [.int p t, .int k u]) ∈ imm) : Ct w 5 426 [.ref bk, .ref st, .ref tp] z lay σ imm (LPost w z fd st bk cells lay σ (b + 20) (n + 20)) := by
  refine ex5 H fun ax bx fx x y h => ?_
  have := warmSlot_len x p k
  have := h.2.2.2.2
  exact (C_loaded w z st bk ax bx lay σ imm x y b (by omega) h.1 h.2.1 p k hp tp t u ht (h.2.2.2.1.ag.ws p k)).toL h.2.2.1 (h.2.2.2.1.warmSlot p k) (by omega) (le20 rfl) (Nat.le_add_right _ _)
theorem L_stored (H : LRep w fd st bk cells lay σ imm b n) (hb : b ≤ 900000) (p k v : Int) (hp : Pl p) (hk : Sl k) (tp : Addr) (t u tv : Tok) (ht : (tp, tupO [.int p t, .int k u]) ∈ imm) : Ct w 7 433 [.ref bk, .ref st, .ref tp, .int v tv] z lay σ imm (LPost w z fd st bk cells lay σ (b + 20) (n + 20)) := by
  refine ex5 H fun ax bx fx x y h => ?_
  have I := h.2.2.2.1
  have h1 := warmSlot_len x p k
  have h2 := setSlot_len (x.warmSlot p k) p k v
  have h3 := refunded_len ((x.warmSlot p k).setSlot p k v) (gR ((x.og p k).getD (x.c.cur p k)) (x.c.cur p k) v)
  have h4 := h.2.2.2.2
  have I' := ((I.warmSlot p k).setSlot p k v hp).refunded (gR ((x.og p k).getD (x.c.cur p k)) (x.c.cur p k) v)
  have C0 := C_stored w z st bk ax bx lay σ imm x y b (by omega) h.1 h.2.1 p k v hp hk tp t u tv ht (I.ag.ws p k) (I.ag.cur p k) (I.og p k)
  rw [show gR ((x.og p k).getD (x.c.cur p k)) (x.c.cur p k) v = dR ((y.bef p k).getD 0) ((y.cur p k).getD 0) v by rw [I.og p k, I.ag.cur p k, gR_dR]] at C0 I' h3
  exact C0.toL h.2.2.1 I' (by omega) (le20 rfl) (Nat.le_add_right _ _)
theorem L_marked (H : LRep w fd st bk cells lay σ imm b n) (hb : b ≤ 900000) : Ct w 3 440 [.ref bk, .ref st] z lay σ imm (LPost w z fd st bk cells lay σ (b + 20) (n + 20)) := by
  refine ex5 H fun ax bx fx x y h => ?_
  exact (C_marked w z st bk ax bx lay σ imm x y b (by omega) h.1 h.2.1).toL h.2.2.1 h.2.2.2.1.marked (Nat.le_add_right_of_le h.2.2.2.2) (le20 rfl) (Nat.le_add_right _ _)
theorem L_taken (H : LRep w fd st bk cells lay σ imm b n) (hb : b ≤ 400000) : Ct w 10 447 [.ref fd, .ref bk, .ref st] z lay σ imm (LPost w z fd st bk cells lay σ (b + n + 20) (n + 20)) := by
  refine ex5 H fun ax bx fx x y h => ?_
  have := h.2.2.2.2
  have hB : b + x.jr.length + 5 ≤ b + n + 20 := by omega
  have hN : x.jr.length ≤ n + 20 := by omega
  exact (C_taken w z fd st bk ax bx fx cells lay σ imm x y b hb h.1 h.2.1 h.2.2.1 h.2.2.2.1).toCt fun r lay' σ' imm' n' S U q =>
    ⟨q.1, ex5 q.2 fun ax' bx' fx' x' y' k => ⟨⟨ax', bx', fx', x', y', k.1.mono (fun _ h => h) hB, k.2.1.mono (fun _ h => h) hB, k.2.2.1.mono (fun _ h => h) hB, k.2.2.2.2.1, Nat.le_trans k.2.2.2.2.2 hN⟩, k.2.2.2.1⟩⟩
theorem L_opened (H : LRep w fd st bk cells lay σ imm b n) (hb : b ≤ 800000) (rl : Addr) (vs : List Value) (k : Nat) (rows : List (Int × List Int)) (ha : (rl, listOf (List.toArray vs) k) ∈ imm) (hr : All2 (RowOk imm) vs rows) (h3 : vs.length ≤ 3) :
    Ct w 12 405 [.ref bk, .ref st, .ref rl] z lay σ imm (LPost w z fd st bk cells lay σ (b + 100) (n + 20)) := by
  refine ex5 H fun ax bx fx x y h => ?_
  have hN : 12 ≤ n + 20 := by omega
  exact (C_opened w z st bk ax lay σ imm x y.cur b (by omega) h.1 h.2.1.zero h.2.2.2.1.ag.cur rl vs k rows ha hr h3).toCt fun r lay' σ' imm' n' S U q =>
    ⟨q.1, ex4 q.2 fun ax' bx' x' y' k => ⟨⟨ax', bx', fx, x', y', k.1, k.2.1, (h.2.2.1.toL S k.2.2.1 U).mono (fun _ h => h) (Nat.le_add_right _ _), k.2.2.2.1, Nat.le_trans k.2.2.2.2 hN⟩, k.2.2.1.toO⟩⟩
theorem L_same (H : LRep w fd st bk cells lay σ imm b n) (hb : b ≤ 900000) : Ct0 w 5 454 [.ref bk, .ref st] z lay σ imm (fun r imm' => r = .bool true) :=
  ex5 H fun ax bx _ x y h => C_same w z st bk ax bx lay σ imm x y b (by omega) h.1 h.2.1 h.2.2.2.1
end

local macro_rules | `(tactic| k_call_by "2l" $t) => `(tactic| (walk_at "L"; k_call_by "c" Ct.useL $t; clear lL; intro zy zg zn zm zh zt zF zN zS zL zf; walk_at "d"))
local macro_rules | `(tactic| walk_at "call ref") => `(tactic| first | (walk_at "L"; k_call_by "c" Ct1.useD L_draw; clear lL; intro zg zd zu zn zm zh zt zF zN zS zL zf hd'; walk_at "d") | (walk_at "L"; k_call_by "c" Ct1.useQ L_listed; clear lL; intro zg zq zv zk zw zn zm zh zt zF zN zS zL zf zM; have z1 := And.left zM; have za := And.left (And.right zM); have zl := And.right (And.right zM); clear zM; walk_at "d") | k_call_by "2l" L_looked | k_call_by "2l" L_loaded | k_call_by "2l" L_stored | k_call_by "2l" L_marked | k_call_by "2l" L_taken | k_call_by "2l" L_opened | k_call_by "0e" L_same)

theorem C_done (w : World) (z : Nat) (fd st bk : Addr) (cells : List Int) (lay : Nat → Addr) (σ : Nat → Obj) (imm : Led) (b n : Nat) (hb : b ≤ 300000) (hn : n ≤ 50000) (H : LRep w fd st bk cells lay σ imm b n) :
    Ct w 14 461 [.ref fd, .ref bk, .ref st] z lay σ imm (LPost w z fd st bk cells lay σ (b + n + 200) (n + 20)) := by
  unfold Ct
  k_fill
  intro V lw dp un gd cn cs a ccd cl outer A₀ base h₀ L m s mean mg mb news Q E B F X N T S hk hd hu hret
  refine wpAny_call ?_
  k_dflt ktr_enter
  k_steps
  all_goals
    rename LRep _ _ _ _ _ _ _ _ _ _ => L9
    (refine hret _ _ _ _ _ _ _ (by k_asm) (by k_asm) ?su (by assumption) ?_; (case su => tb_start))
    exact ⟨rfl, L9.mono (fun _ h => h) (by first | exact leN 21 rfl | exact leN 22 rfl | exact leN 23 rfl | exact leN 24 rfl | exact leN 141 rfl | omega) (by first | exact Nat.le_refl _ | omega), by kwd_inv⟩

/-! the init phase -/
theorem Sys.retire {z : Nat} {lay : Nat → Addr} {σ : Nat → Obj} {imm news : Led} {q : Addr} {o : Obj} (S : Sys z lay σ imm news) {i : Nat} (hi : i < 14) (f : Fresh z lay imm news q o) : Sys z (upd lay i q) (upd σ i o) ((lay i, σ i) :: imm) news :=
  (S.swap hi f).keep1 (S.mem i hi) fun j hj e => by
    by_cases a : j = i
    · subst a; rw [upd_self] at e; exact f.2.1 j hj e.symm
    · rw [upd_ne _ _ a] at e; exact a (S.inj j i hj (S.up hi) e.symm)
/-- as Ct, and the own places grow -/
def Ctg (w : World) (lv : Nat) (f : Addr) (args : List Value) (z z' : Nat) (lay : Nat → Addr) (σ : Nat → Obj) (imm : Led) (R : Value → (Nat → Addr) → (Nat → Obj) → Led → Prop) : Prop :=
  ∀ (V : Program) (lw : List Str) (dp un : Nat) (gd : Option (List Code)) (cn : Str) (cs : Scope) (a : Addr) (ccd : Value) (cl : List (Str × Addr)) (outer : List Env) (A₀ : Around) (base h₀ : Heap) (L : Addr) (m : Str → Option Value) (s : Shared)
    (mean : ExcName → Option Value) (mg mb : Str → Option Value) (news : Led) (Q E : Value → Shared → Prop),
    Below A₀ base outer h₀ → Fr h₀ L s.heap m → (hd.heap_1 w.params).In h₀ → News h₀ L s.heap news → Top V lw mean mg mb h₀ → Sys z lay σ imm news → cs.kind = .function →
    dp + 4 * lv < 600 → un + 16 * lv < 900 →
    (∀ r lay' σ' imm' news' h' tk', Fr h₀ L h' m → News h₀ L h' news' → Suf imm imm' → Sys z' lay' σ' imm' news' → R r lay' σ' imm' → Q r { s with heap := h', toks := tk' }) →
    wpAny (model PySem.Challenge.rw_pq0404_01.row.prog w) (ktrTop dp un gd cn cs L a ccd cl outer) (call (.ref f) args) Q E s
abbrev adN (hs : Nat → Int) (ts : Nat → Tok) (nc : Int) (st : Addr) : List DictEntry := [
  ⟨hs 0, .str (Str.ofString "nonce") (ts 0), .int nc (ts 4)⟩,
  ⟨hs 1, .str (Str.ofString "balance") (ts 1), .int 0 (ts 5)⟩,
  ⟨hs 2, .str (Str.ofString "code") (ts 2), .bytes #[] (ts 6)⟩,
  ⟨hs 3, .str (Str.ofString "storage") (ts 3), .ref st⟩]
theorem ad_ex {P : List DictEntry → Prop} {st : Addr} {nc : Int} {h0 h1 h2 h3 : Int} {t0 t1 t2 t3 t4 t5 t6 : Tok} (h : P [
    ⟨h0, .str (Str.ofString "nonce") t0, .int nc t4⟩, ⟨h1, .str (Str.ofString "balance") t1, .int 0 t5⟩, ⟨h2, .str (Str.ofString "code") t2, .bytes #[] t6⟩, ⟨h3, .str (Str.ofString "storage") t3, .ref st⟩]) :
    ∃ (hs : Nat → Int) (ts : Nat → Tok), P (adN hs ts nc st) :=
  ⟨fun i => if i = 0 then h0 else if i = 1 then h1 else if i = 2 then h2 else h3, fun i => if i = 0 then t0 else if i = 1 then t1 else if i = 2 then t2 else if i = 3 then t3 else if i = 4 then t4 else if i = 5 then t5 else t6, h⟩
theorem no_acc_sys {z : Nat} {lay : Nat → Addr} {σ : Nat → Obj} {imm n : Led} {q d x : Addr} {o ox od : Obj} (S0 : Sys z lay σ imm n) (f0 : Fresh z lay imm n q o) (l1 : ∀ p ∈ n, p.1 < d) (l2 : @LT.lt Nat _ d x) :
    Sys (z + 2) (upd (upd lay z q) (z + 1) d) (upd (upd σ z o) (z + 1) od) ((x, ox) :: imm) ((x, ox) :: (d, od) :: n) := by
  have S1 := S0.own f0
  have S2 : Sys (z + 1 + 1) (upd (upd lay z q) (z + 1) d) (upd (upd σ z o) (z + 1) od) imm ((x, ox) :: (d, od) :: n) :=
    ((S1.cons (d, od)).cons (x, ox)).more (.tail _ (.head _)) (fun i hi => S1.lt_of l1 i hi) (fun p hp e => absurd (l1 p (S1.sub p hp)) (by rw [e]; exact Nat.lt_irrefl _))
  refine S2.keep1 (p := (x, ox)) (.head _) fun i hi e => ?_
  by_cases h : i = z + 1
  · subst h; rw [upd_self] at e
    have e' : x = d := e
    exact absurd l2 (by rw [e']; exact Nat.lt_irrefl _)
  · rw [upd_ne _ _ h] at e
    have e' : x = upd lay z q i := e
    exact absurd (Nat.lt_trans (l1 _ (S1.mem' i (by omega))) l2) (by rw [← e']; exact Nat.lt_irrefl _)
theorem C_no_account (w : World) (z : Nat) (lay : Nat → Addr) (σ : Nat → Obj) (imm : Led) :
    Ctg w 3 49 [] z (z + 2) lay σ imm (fun r lay' σ' imm' => ∃ x hs ts n o, r = .ref x ∧ (x, instObj 38 (lay' (z + 1))) ∈ imm' ∧ (lay' z == sysModules) = false ∧ o.IsDictOf (intKind pr w) [] ∧ σ' z = o ∧ σ' (z + 1) = dictOf (adN hs ts 0 (lay' z)) n ∧ (∀ j, j < z → lay' j = lay j ∧ σ' j = σ j)) := by
  unfold Ctg
  k_fill
  intro V lw dp un gd cn cs a ccd cl outer A₀ base h₀ L m s mean mg mb news Q E B F X N T S hk hd hu hret
  refine wpAny_call ?_
  k_dflt ktr_enter
  k_steps
  rename Sys _ _ _ _ _ => S0
  rename Fresh _ _ _ _ _ _ => f0
  rename Obj.IsDictOf _ _ _ => ho
  rename ∀ p : Addr × Obj, p ∈ _ → p.1 < _ => l1
  rename _ < _ => l2
  have hz := S0.le
  obtain ⟨hs, ts, N9⟩ := ad_ex (P := fun es => News h₀ L _ ((_, instObj 38 _) :: (_, dictOf es 4) :: _)) (by k_asm)
  refine hret _ _ _ _ _ _ _ (by k_asm) N9 ?su (no_acc_sys S0 f0 l1 l2) ?_
  case su => tb_start
  have e1 : ∀ (q d : Addr), upd (upd lay z q) (z + 1) d z = q := fun q d => by rw [upd_ne _ _ (by omega), upd_self]
  refine ⟨_, hs, ts, 4, _, rfl, ?_, ?_, ho, ?_, ?_, fun j hj => ⟨by rw [upd_ne _ _ (by omega), upd_ne _ _ (by omega)], by rw [upd_ne _ _ (by omega), upd_ne _ _ (by omega)]⟩⟩
  · rw [upd_self]; exact .head _
  · rw [e1]; exact f0.2.2.2
  · rw [upd_ne _ _ (by omega), upd_self]
  · rw [upd_self, e1]

def At (σ : Nat → Obj) (i : Nat) (o : Obj) : Prop := σ i = o
theorem At.eq {σ : Nat → Obj} {i : Nat} {o : Obj} (h : At σ i o) : σ i = o := h
theorem At.upd {σ : Nat → Obj} {i j : Nat} {o o' : Obj} (h : At σ i o) (hj : i ≠ j) : At (Mine.upd σ j o') i o := (upd_ne _ _ hj).trans h
theorem Sys.mem_at {z : Nat} {lay : Nat → Addr} {σ : Nat → Obj} {imm news : Led} {i : Nat} {o : Obj} (S : Sys z lay σ imm news) (hi : i < z) (e : At σ i o) : (lay i, o) ∈ news := e ▸ S.mem' i hi
/-- the State while its accounts are made -/
structure IM (w : World) (st : Addr) (hs : Nat → Int) (ts : Nat → Tok) (sn : Nat) (ds lg : Addr) (lay : Nat → Addr) (σ : Nat → Obj) (imm : Led) (A : Int → Option Value) (T : Int → Bool) (jv : List Value) (jn b : Nat) : Prop where
  st : (st, instObj 325 (lay iSd)) ∈ imm
  sd : σ iSd = dictOf (sdE hs ts (lay 14) (lay iJl) (lay iTd) ds (lay iWo) (lay iWs) (lay iOg) 0 lg) sn
  lo : (lay 14 == sysModules) = false
  ac : IntD pr w (σ 14) A b
  td : ∃ f, IntD pr w (σ iTd) f b ∧ ∀ p, (f p).isSome = T p
  jl : σ iJl = listOf jv.toArray jn
  jb : jv.length ≤ b
section
variable {w : World} {A : Around} {E : Value → Shared → Prop} {s : Shared} {h₀ : Heap} {L : Addr} {m : Str → Option Value} {z : Nat} {lay lay' : Nat → Addr} {σ σ' : Nat → Obj} {imm imm' news : Led} {st ds lg : Addr} {hs : Nat → Int} {ts : Nat → Tok} {sn b jn : Nat} {Ac : Int → Option Value} {T : Int → Bool} {jv : List Value} {p : Int} {t : Tok}
theorem IM.lift (I : IM w st hs ts sn ds lg lay σ imm Ac T jv jn b) (_S : Sys z lay σ imm' news) (su : Suf imm imm') : IM w st hs ts sn ds lg lay σ imm' Ac T jv jn b := ⟨su.sub _ I.st, I.sd, I.lo, I.ac, I.td, I.jl, I.jb⟩
theorem IM.same (I : IM w st hs ts sn ds lg lay σ imm Ac T jv jn b) (h : ∀ i, 3 ≤ i → i < 15 → lay' i = lay i ∧ σ' i = σ i) : IM w st hs ts sn ds lg lay' σ' imm Ac T jv jn b := by
  have e : ∀ i, 3 ≤ i → i < 15 → lay' i = lay i := fun i a c => (h i a c).1
  have f : ∀ i, 3 ≤ i → i < 15 → σ' i = σ i := fun i a c => (h i a c).2
  exact ⟨by rw [e iSd (by decide) (by decide)]; exact I.st, by rw [f iSd (by decide) (by decide), e 14 (by decide) (by decide), e iJl (by decide) (by decide), e iTd (by decide) (by decide), e iWo (by decide) (by decide), e iWs (by decide) (by decide), e iOg (by decide) (by decide)]; exact I.sd,
    by rw [e 14 (by decide) (by decide)]; exact I.lo, by rw [f 14 (by decide) (by decide)]; exact I.ac, by rw [f iTd (by decide) (by decide)]; exact I.td, by rw [f iJl (by decide) (by decide)]; exact I.jl, I.jb⟩
theorem i_notin_ac {Q : Value → Shared → Prop} (hz : 14 < z) (N : News h₀ L s.heap news) (S : Sys z lay σ imm news) (I : IM w st hs ts sn ds lg lay σ imm Ac T jv jn b) (h : Q (.bool (!(Ac p).isSome)) { s with toks := s.toks + 1 }) :
    wpAny (model pr w) A (compareOp .NotIn (.int p t) (.ref (lay 14))) Q E s := key_notin N (S.mem' 14 hz) I.lo I.ac (intKind_is pr w p t) h
theorem i_notin_td {Q : Value → Shared → Prop} (N : News h₀ L s.heap news) (S : Sys z lay σ imm news) (I : IM w st hs ts sn ds lg lay σ imm Ac T jv jn b) (h : Q (.bool (!(T p))) { s with toks := s.toks + 1 }) :
    wpAny (model pr w) A (compareOp .NotIn (.int p t) (.ref (lay iTd))) Q E s := by
  obtain ⟨f, D, e⟩ := I.td
  exact int_notinZ (by decide) N S D (by rw [e]; exact h)
theorem i_item_ac {value slice : Expr} {v : Value} {Q : Value → Shared → Prop} (hz : 14 < z) (N : News h₀ L s.heap news) (S : Sys z lay σ imm news) (I : IM w st hs ts sn ds lg lay σ imm Ac T jv jn b) (hv : Ac p = some v) (h : Q v { s with toks := s.toks + 1 })
    (hs : subscripted slice false (.ref (lay 14)) (.int p t) = operate [.ref (lay 14), .int p t] (getItem (.ref (lay 14)) (.int p t)) := by with_unfolding_all rfl) :
    wpAny (model pr w) A (subscriptTail value slice (.ref (lay 14)) (.int p t)) Q E s := key_tail N (S.mem' 14 hz) I.ac (intKind_is pr w p t) hv h hs
theorem i_set_ac {v : Value} {Q : Unit → Shared → Prop} (hz : 14 < z) (F : Fr h₀ L s.heap m) (N : News h₀ L s.heap news) (S : Sys z lay σ imm news) (I : IM w st hs ts sn ds lg lay σ imm Ac T jv jn b) (hb : b ≤ 1000)
    (h : ∀ h' o' news', Fr h₀ L h' m → News h₀ L h' news' → Sys z lay (upd σ 14 o') imm news' → IM w st hs ts sn ds lg lay (upd σ 14 o') imm (fun x => if x = p then some v else Ac x) T jv jn (b + 1) → Q () { s with heap := h', toks := s.toks + 1 }) :
    wpAny (model pr w) A (setItem (.ref (lay 14)) (.int p t) v) Q E s := by
  obtain ⟨kvs, hD, e, l⟩ := KeyD.dict (s := s) N (S.mem' 14 hz) I.ac
  refine wpAny_setItem_pairs (hsz := by rw [sizeLine_eq]; omega) (intKind_is pr w p t) hD fun h' hm' hs => ?_
  obtain ⟨o', ho', hd'⟩ := Heap.dictOf_iff.mp hm'
  obtain ⟨F', N'⟩ := S.change hz F N hs ho'
  refine h h' o' _ F' N' (S.write hz o') ⟨I.st, I.sd, I.lo, ?_, ?_, I.jl, Nat.le_succ_of_le I.jb⟩
  · rw [upd_self]; exact ⟨_, hd', fun x => by rw [valueAt_stored, e], Nat.le_trans (stored_length_le _ _ _) (by omega)⟩
  · obtain ⟨f, D, e⟩ := I.td; exact ⟨f, D.mono (Nat.le_succ _), e⟩
theorem i_set_td {v : Value} {Q : Unit → Shared → Prop} (F : Fr h₀ L s.heap m) (N : News h₀ L s.heap news) (S : Sys z lay σ imm news) (I : IM w st hs ts sn ds lg lay σ imm Ac T jv jn b) (hb : b ≤ 1000)
    (h : ∀ h' o' news', Fr h₀ L h' m → News h₀ L h' news' → Sys z lay (upd σ iTd o') imm news' → IM w st hs ts sn ds lg lay (upd σ iTd o') imm Ac (set1 T p true) jv jn (b + 1) → Q () { s with heap := h', toks := s.toks + 1 }) :
    wpAny (model pr w) A (setItem (.ref (lay iTd)) (.int p t) v) Q E s := by
  obtain ⟨f, D, e⟩ := I.td
  exact int_setZ (by decide) F N S D (by omega) fun h' o' n' F' N' S' D' => h h' o' n' F' N' S' ⟨I.st, I.sd, I.lo, I.ac.mono (Nat.le_succ _), ⟨_, by rw [upd_self]; exact D', wo_put e p v⟩, I.jl, Nat.le_succ_of_le I.jb⟩
theorem i_push {v : Value} {Q : Value → Shared → Prop} (F : Fr h₀ L s.heap m) (N : News h₀ L s.heap news) (S : Sys z lay σ imm news) (I : IM w st hs ts sn ds lg lay σ imm Ac T jv jn b) (hb : b ≤ 1000)
    (h : ∀ h' o' news', Fr h₀ L h' m → News h₀ L h' news' → Sys z lay (upd σ iJl o') imm news' → IM w st hs ts sn ds lg lay (upd σ iJl o') imm Ac T (jv ++ [v]) (jn + 1) (b + 1) → Q .none { s with heap := h' }) :
    wpAny (model pr w) A (call (.builtin "list.append") [.ref (lay iJl), v]) Q E s :=
  append_Z (by decide) F N S I.jl (by have := I.jb; rw [List.size_toArray]; omega) fun h' n' F' N' S' => h h' _ n' F' N' S'
    ⟨I.st, I.sd, I.lo, I.ac.mono (Nat.le_succ _), (let ⟨f, D, e⟩ := I.td; ⟨f, D.mono (Nat.le_succ _), e⟩), by rw [upd_self]; simp, by simp; exact I.jb⟩
theorem i_getMethod_jl {name : Str} {id : String} {pl : Sem Bool} {Q : Value × List Value → Shared → Prop} (slot : Slot "list" name id) (hty : typeOf (.builtin id) = pure (.type "method_descriptor")) (N : News h₀ L s.heap news) (S : Sys z lay σ imm news) (I : IM w st hs ts sn ds lg lay σ imm Ac T jv jn b)
    (h : Q (.builtin id, [.ref (lay iJl)]) s) : wpAny (model pr w) A (getMethod (.ref (lay iJl)) name pl) Q E s := list_getMethod slot hty N (S.mem_eq (by decide) I.jl) h
/-- account.nonce = n -/
theorem i_set_nonce {K : Frag} {i : Nat} {x : Addr} {ah : Nat → Int} {ta : Nat → Tok} {na : Nat} {c nc : Int} {tn : Tok} {q : Addr} {Q : Unit → Shared → Prop} (hi : i < z) (F : Fr h₀ L s.heap m) (X₀ : K.In h₀) (N : News h₀ L s.heap news) (S : Sys z lay σ imm news)
    (hx : (x, instObj 38 (lay i)) ∈ imm) (e : At σ i (dictOf (adN ah ta c q) na))
    (hs : findIn K (.ref 38) "__setattr__" = some (some (.builtin "object.__setattr__"))) (hp : plainOver K 38 = true) (ht : takerIn K 38 (Str.ofString "nonce") = some none) (hh : hasDictIn K 38 = true)
    (h : ∀ h' news' ta', Fr h₀ L h' m → News h₀ L h' news' → Sys z lay (upd σ i (dictOf (adN ah ta' nc q) na)) imm news' → Q () { s with heap := h', toks := s.toks + 2 }) :
    wpAny (model pr w) A (setAttr (.ref x) (Str.ofString "nonce") (.int nc tn)) Q E s :=
  set_dict F X₀ (S.focus (i := i) N hi) ⟨N.get (S.sub _ hx), rfl, rfl, N.get (S.mem_at hi e)⟩ rfl hs hp ht hh rfl rfl (by rw [e.eq]; exact Upd.head (put_off _ _))
    (by have := putL_length (Str.ofString "nonce") (PyData.keyHash w.params (Str.ofString "nonce")) (.str (Str.ofString "nonce") (s.toks + 1)) (.int nc tn) (adN ah ta c q); have e4 : (adN ah ta c q).length = 4 := rfl; omega)
    fun h' F' N' => h h' _ (upd ta 4 tn) F' N' (S.write hi _)
end
def At2 (σ : Nat → Obj) (i : Nat) (o : Obj) : Prop := σ i = o
theorem At2.upd {σ : Nat → Obj} {i j : Nat} {o o' : Obj} (h : At2 σ i o) (hj : i ≠ j) : At2 (Mine.upd σ j o') i o := (upd_ne _ _ hj).trans h
/-- what a write leaves of the other places -/
def Kept (z : Nat) (lay lay' : Nat → Addr) (σ σ' : Nat → Obj) : Prop := ∀ j, j < z → lay' j = lay j ∧ (j ≠ 14 → j ≠ iTd → j ≠ iJl → σ' j = σ j)
theorem Kept.upd {z : Nat} {lay lay' : Nat → Addr} {σ σ' : Nat → Obj} (h : Kept z lay lay' σ σ') {i : Nat} (hi : i = 14 ∨ i = iTd ∨ i = iJl ∨ z ≤ i) (o : Obj) : Kept z lay lay' σ (Mine.upd σ' i o) := fun j hj =>
  ⟨(h j hj).1, fun a b c => by
    rw [upd_ne _ _ (fun e => by
      subst e
      rcases hi with e | e | e | e
      · exact a e
      · exact b e
      · exact c e
      · omega)]
    exact (h j hj).2 a b c⟩
section
variable {w : World} {A : Around} {E : Value → Shared → Prop} {s : Shared} {h₀ : Heap} {L : Addr} {m : Str → Option Value} {z : Nat} {lay lay' : Nat → Addr} {σ σ' : Nat → Obj} {imm imm' news : Led} {st ds lg : Addr} {hs : Nat → Int} {ts : Nat → Tok} {sn b jn : Nat} {Ac : Int → Option Value} {T : Int → Bool} {jv : List Value} {p : Int} {t : Tok}
theorem i_notin_ac' {Q : Value → Shared → Prop} (hz : 14 < z) (N : News h₀ L s.heap news) (S : Sys z lay σ imm news) (I : IM w st hs ts sn ds lg lay σ imm Ac T jv jn b) (hn : Ac p = none) (h : Q (.bool true) { s with toks := s.toks + 1 }) :
    wpAny (model pr w) A (compareOp .NotIn (.int p t) (.ref (lay 14))) Q E s := i_notin_ac hz N S I (by rw [hn]; exact h)
theorem i_notin_td' {Q : Value → Shared → Prop} (N : News h₀ L s.heap news) (S : Sys z lay σ imm news) (I : IM w st hs ts sn ds lg lay σ imm Ac T jv jn b) (hn : T p = false) (h : Q (.bool true) { s with toks := s.toks + 1 }) :
    wpAny (model pr w) A (compareOp .NotIn (.int p t) (.ref (lay iTd))) Q E s := i_notin_td N S I (by rw [hn]; exact h)
theorem i_item_ac' {value slice : Expr} {v : Value} {Q : Value → Shared → Prop} (hz : 14 < z) (N : News h₀ L s.heap news) (S : Sys z lay σ imm news) (I : IM w st hs ts sn ds lg lay σ imm (fun y => if y = p then some v else Ac y) T jv jn b) (h : Q v { s with toks := s.toks + 1 })
    (hs : subscripted slice false (.ref (lay 14)) (.int p t) = operate [.ref (lay 14), .int p t] (getItem (.ref (lay 14)) (.int p t)) := by with_unfolding_all rfl) :
    wpAny (model pr w) A (subscriptTail value slice (.ref (lay 14)) (.int p t)) Q E s := i_item_ac hz N S I (if_pos rfl) h hs
theorem IM.to (I : IM w st hs ts sn ds lg lay σ imm Ac T jv jn b) {z' : Nat} (_S : Sys z' lay' σ' imm' news) (su : Suf imm imm') (hz : 15 ≤ z) (h : ∀ j, j < z → lay' j = lay j ∧ σ' j = σ j) : IM w st hs ts sn ds lg lay' σ' imm' Ac T jv jn b :=
  (I.same fun i _ hi => h i (by omega)).lift (z := z') _S su
theorem Ctg.use {lv : Nat} {f : Addr} {args : List Value} {z' : Nat} {P : Addr → (Nat → Int) → (Nat → Tok) → Nat → Obj → (Nat → Addr) → (Nat → Obj) → Led → Prop} (C : Ctg w lv f args z z' lay σ imm (fun r lay' σ' imm' => ∃ x hs ts n o, r = .ref x ∧ P x hs ts n o lay' σ' imm'))
    {V : Program} {lw : List Str} {dp un : Nat} {gd : Option (List Code)} {cn : Str} {cs : Scope} {a : Addr} {ccd : Value} {cl : List (Str × Addr)} {outer : List Env} {A₀ : Around} {base : Heap} {mean : ExcName → Option Value} {mg mb : Str → Option Value} {Q : Value → Shared → Prop}
    (B : Below A₀ base outer h₀) (F : Fr h₀ L s.heap m) (X : (hd.heap_1 w.params).In h₀) (N : News h₀ L s.heap news) (T : Top V lw mean mg mb h₀) (S : Sys z lay σ imm news) (hk : cs.kind = .function)
    (hd : dp + 4 * lv < 600) (hu : un + 16 * lv < 900)
    (ret : ∀ lay' σ' x hs ts n o new news' h' tk', Fr h₀ L h' m → News h₀ L h' news' → Sys z' lay' σ' (new ++ imm) news' → P x hs ts n o lay' σ' (new ++ imm) → Q (.ref x) { s with heap := h', toks := tk' }) :
    wpAny (model PySem.Challenge.rw_pq0404_01.row.prog w) (ktrTop dp un gd cn cs L a ccd cl outer) (call (.ref f) args) Q E s :=
  C V lw dp un gd cn cs a ccd cl outer A₀ base h₀ L m s mean mg mb news Q E B F X N T S hk hd hu (fun r lay' σ' imm' news' h' tk' F' N' ⟨_, e⟩ S' ⟨x, a, b, c, d, e1, p⟩ => by subst e; subst e1; exact ret lay' σ' x a b c d _ news' h' tk' F' N' S' p)
end
theorem Kept.step {z : Nat} {lay lay' lay'' : Nat → Addr} {σ σ' σ'' : Nat → Obj} (h : Kept z lay lay' σ σ') (k : ∀ j, j < z → lay'' j = lay' j ∧ σ'' j = σ' j) : Kept z lay lay'' σ σ'' := fun j hj =>
  ⟨(k j hj).1.trans (h j hj).1, fun a b c => (k j hj).2.trans ((h j hj).2 a b c)⟩
theorem Kept.refl (z : Nat) (lay : Nat → Addr) (σ : Nat → Obj) : Kept z lay lay σ σ := fun _ _ => ⟨rfl, fun _ _ _ => rfl⟩
theorem At.of {σ : Nat → Obj} {i : Nat} {o : Obj} (h : σ i = o) : At σ i o := h
theorem At2.of {σ : Nat → Obj} {i : Nat} {o : Obj} (h : σ i = o) : At2 σ i o := h

theorem At.updS {z : Nat} {lay : Nat → Addr} {σ : Nat → Obj} {imm news : Led} {i j : Nat} {o o' : Obj} (h : At σ i o) (_S : Sys z lay (Mine.upd σ j o') imm news) (hj : i ≠ j) : At (Mine.upd σ j o') i o := h.upd hj
theorem At2.updS {z : Nat} {lay : Nat → Addr} {σ : Nat → Obj} {imm news : Led} {i j : Nat} {o o' : Obj} (h : At2 σ i o) (_S : Sys z lay (Mine.upd σ j o') imm news) (hj : i ≠ j) : At2 (Mine.upd σ j o') i o := h.upd hj
theorem Kept.updS {z z' : Nat} {lay lay' : Nat → Addr} {σ σ' : Nat → Obj} {imm news : Led} {i : Nat} {o : Obj} (h : Kept z lay lay' σ σ') (_S : Sys z' lay' (Mine.upd σ' i o) imm news) (hi : i = 14 ∨ i = iTd ∨ i = iJl ∨ z ≤ i) : Kept z lay lay' σ (Mine.upd σ' i o) := h.upd hi o
theorem i_getMethod_ap {w : World} {A : Around} {E : Value → Shared → Prop} {s : Shared} {h₀ : Heap} {L : Addr} {z : Nat} {lay : Nat → Addr} {σ : Nat → Obj} {imm news : Led} {st ds lg : Addr} {hs : Nat → Int} {ts : Nat → Tok} {sn b jn : Nat} {Ac : Int → Option Value} {T : Int → Bool} {jv : List Value} {pl : Sem Bool} {Q : Value × List Value → Shared → Prop} (N : News h₀ L s.heap news) (S : Sys z lay σ imm news) (I : IM w st hs ts sn ds lg lay σ imm Ac T jv jn b)
    (h : Q (.builtin "list.append", [.ref (lay iJl)]) s) : wpAny (model pr w) A (getMethod (.ref (lay iJl)) (Str.ofString "append") pl) Q E s := i_getMethod_jl PySem.F.slot_list_append PySem.F.type_list_append N S I h

local macro_rules | `(tactic| k_mem) => `(tactic| first | exact Sys.mem_eq (by assumption) (by decide) (IM.sd (by assumption)) | exact Sys.sub (by assumption) _ (IM.st (by assumption)) | exact Sys.mem_at (by assumption) (by omega) (by assumption) | exact Sys.sub (by assumption) _ (by ktr_rel))
local macro_rules | `(tactic| walk_at "zn") => `(tactic| first | omega | (show _ ≠ 6; omega) | (show _ ≠ 5; omega))
local macro_rules | `(tactic| k_call_by "j" $t) => `(tactic| (walk_at "S"; walk_at "I"; k_call_by "r" $t; clear lS lI; intro zh zo zn zF zN zS zI; (rename At _ _ _ => lA); (rename At2 _ _ _ => lB); (rename Kept _ _ _ _ _ => lK); (replace lA := At.updS lA zS (by walk_at "zn")); (replace lB := At2.updS lB zS (by walk_at "zn")); (replace lK := Kept.updS lK zS (by first | exact Or.inl rfl | exact Or.inr (Or.inl rfl) | exact Or.inr (Or.inr (Or.inl rfl)))); walk_at "d"))
local macro_rules | `(tactic| walk_at "compareOp NotIn int ref") => `(tactic| first | k_call_by "r" i_notin_ac' | k_call_by "r" i_notin_td')
local macro_rules | `(tactic| walk_at "setItem ref int") => `(tactic| first | k_call_by "j" i_set_ac | k_call_by "j" i_set_td)
local macro_rules | `(tactic| walk_at "call builtin:list.append") => `(tactic| k_call_by "j" i_push)
local macro_rules | `(tactic| walk_at "getMethod ref") => `(tactic| k_call_by "m" "append" i_getMethod_ap)
local macro_rules | `(tactic| walk_at "subscriptTail") => `(tactic| k_call_by "n" i_item_ac')
local macro_rules | `(tactic| walk_at "call ref") => `(tactic| (walk_at "I"; (rename Kept _ _ _ _ _ => lK); k_call_by "c" Ctg.use C_no_account; intro zy zg zx za zb zc zo zn zm zh zt zF zN zS zM; have z1 := And.left zM; have zM := And.right zM; have z2 := And.left zM; have zM := And.right zM; have z3 := And.left zM; have zM := And.right zM; have lB := At2.of (And.left zM); have zM := And.right zM; have lA := At.of (And.left zM); have zM := And.right zM; (replace lI := IM.to lI zS (by tb_start) (by omega) zM); (replace lK := Kept.step lK zM); clear zM; walk_at "d"))

def AccDict (imm : Led) (d q : Addr) : Prop := ∃ (ah : Nat → Int) (ta : Nat → Tok) (na : Nat), (d, dictOf (adE ah ta q) na) ∈ imm
theorem AccDict.of {imm : Led} {d q : Addr} {ah : Nat → Int} {ta : Nat → Tok} {na : Nat} (h : (d, dictOf (adN ah ta 1 q) na) ∈ imm) : AccDict imm d q := ⟨ah, ta, na, h⟩
theorem AccDict.mono {imm imm' : Led} {d q : Addr} (h : AccDict imm d q) (hs : ∀ p ∈ imm, p ∈ imm') : AccDict imm' d q := by obtain ⟨a, b, c, e⟩ := h; exact ⟨a, b, c, hs _ e⟩
theorem C_set_nonce0 (w : World) (z : Nat) (hz : 15 ≤ z) (st : Addr) (hs : Nat → Int) (ts : Nat → Tok) (sn : Nat) (ds lg : Addr) (lay : Nat → Addr) (σ : Nat → Obj) (imm : Led) (Ac : Int → Option Value) (Tc : Int → Bool) (jv : List Value) (jn b : Nat) (hb : b ≤ 500)
    (I : IM w st hs ts sn ds lg lay σ imm Ac Tc jv jn b) (p : Int) (hA : Ac p = none) (hT : Tc p = false) (t u : Tok) :
    Ct w 8 196 [.ref st, .int p t, .int 1 u] z lay σ imm (fun r lay' σ' imm' => r = .none ∧ ∃ jv' jn' x d, IM w st hs ts sn ds lg lay' σ' imm' (fun y => if y = p then some (.ref x) else Ac y) (set1 Tc p true) jv' jn' (b + 5) ∧ jv'.length = jv.length + 3 ∧
      (x, instObj 38 d) ∈ imm' ∧ AccDict imm' d (lay' (ix p)) ∧ (σ' (ix p)).IsDictOf (intKind pr w) [] ∧ (lay (ix p), σ (ix p)) ∈ imm' ∧ (∀ j, j < z → j ≠ ix p → lay' j = lay j ∧ (j ≠ 14 → j ≠ iTd → j ≠ iJl → σ' j = σ j))) := by
  unfold Ct
  k_fill
  intro V lw dp un gd cn cs a ccd cl outer A₀ base h₀ L m s mean mg mb news Q E B F X N T S hk hd hu hret
  refine wpAny_call ?_
  k_dflt ktr_enter
  have K0 := Kept.refl z lay σ
  k_steps
  rename Sys _ _ _ _ _ => S9
  rename IM _ _ _ _ _ _ _ _ _ _ _ _ _ _ _ => I9
  with_reducible rename At _ _ _ => A9
  with_reducible rename At2 _ _ _ => B9
  rename Kept _ _ _ _ _ => K9
  rename (_ == sysModules) = false => lo9
  rename Obj.IsDictOf _ _ _ => ho9
  rename (_, instObj 38 _) ∈ _ => hx9
  k_dflt (refine' i_set_nonce (i := z + 1) ?hi ?F ?X ?N S9 ?x A9 ?k6 ?k7 ?k8 ?k9 ?_; (case hi => omega); (case x => ktr_rel); (case F => k_asm); (case X => k_asm); (case N => k_asm); (case k6 => k_is); (case k7 => k_is); (case k8 => k_is); (case k9 => k_is))
  intro h8 n8 ta8 F8 N8 S8
  (try k_sweep); (try dsimp only)
  clear S9
  k_steps
  have hix := ix_lt p
  have kx := K9 (ix p) (by omega)
  have kx2 := kx.2 (by omega) (by show _ ≠ 6; omega) (by show _ ≠ 5; omega)
  have S7 := Sys.keepZ (z := z + 1) S8 (by omega)
  have f7 := S7.fresh lo9
  have S6 := (S7.drop (by omega)).retire (i := ix p) (by omega) f7
  refine hret _ _ _ _ _ _ _ (by k_asm) (by k_asm) ?su S6 ?_
  case su => tb_start
  have I6 := (I9.same (lay' := upd _ (ix p) _) (σ' := upd (upd _ (z + 1) _) (ix p) _) fun i h1 h2 => ⟨upd_ne _ _ (by omega), (upd_ne _ _ (by omega)).trans (upd_ne _ _ (by omega))⟩).lift S6 (by tb_start)
  refine' ⟨rfl, _, _, _, _, I6, ?lj, List.Mem.tail _ (List.Mem.tail _ (List.mem_append_right _ (List.mem_append_right _ (List.mem_append_right _ hx9)))), ?md, ?ho, ?mo, fun j hj hne => ⟨(upd_ne _ _ hne).trans (K9 j hj).1, fun a b c => (upd_ne _ _ hne).trans ((upd_ne _ _ (by omega)).trans ((K9 j hj).2 a b c))⟩⟩
  case lj => simp
  case md =>
    rw [upd_self, upd_self]; exact AccDict.of (List.Mem.tail _ (List.Mem.head _))
  case ho =>
    rw [upd_self, upd_ne _ _ (by omega)]
    have e : _ = _ := B9
    rw [e]; exact ho9
  case mo =>
    rw [kx.1, upd_ne _ _ (show ix p ≠ z + 1 by omega), kx2]; exact List.Mem.head _

def layOf (ps : Led) : Nat → Addr := fun i => (ps[i]?.map (·.1)).getD 0
def objOf (ps : Led) : Nat → Obj := fun i => (ps[i]?.map (·.2)).getD { cls := .none, data := .dict #[] }
theorem layOf_at {ps : Led} {i : Nat} (h : i < ps.length) : layOf ps i = ps[i].1 := by unfold layOf; rw [List.getElem?_eq_getElem h]; rfl
theorem objOf_at {ps : Led} {i : Nat} (h : i < ps.length) : objOf ps i = ps[i].2 := by unfold objOf; rw [List.getElem?_eq_getElem h]; rfl
theorem Sys.ofList {ps imm news : Led} (hz : 14 ≤ ps.length) (hn : (ps.map (·.1)).Nodup) (hp : ∀ p ∈ ps, p ∈ news) (hi : ∀ p ∈ imm, p ∈ news) (ho : ∀ p ∈ imm, p.1 ∉ ps.map (·.1)) (hl : ∀ a ∈ ps.map (·.1), (a == sysModules) = false) :
    Sys ps.length (layOf ps) (objOf ps) imm news := by
  have mm : ∀ i, i < ps.length → layOf ps i ∈ ps.map (·.1) := fun i h => by rw [layOf_at h]; exact List.mem_map.mpr ⟨_, List.getElem_mem h, rfl⟩
  refine ⟨hz, fun i j h1 h2 e => ?_, fun i h => ?_, hi, fun p hp' i h e => ho p hp' (e ▸ mm i h), fun i h => hl _ (mm i (by omega))⟩
  · rw [layOf_at h1, layOf_at h2] at e
    have P := List.pairwise_iff_getElem.mp hn
    by_cases c : i < j
    · exact absurd (by rw [List.getElem_map, List.getElem_map]; exact e) (P i j (by simpa using h1) (by simpa using h2) c)
    · by_cases d : j < i
      · exact absurd (by rw [List.getElem_map, List.getElem_map]; exact e.symm) (P j i (by simpa using h2) (by simpa using h1) d)
      · omega
  · rw [layOf_at h, objOf_at h]; exact hp _ (List.getElem_mem h)
def adr (l : List Addr) (i : Nat) : Addr := l.getD i 0
theorem adr_lt {l : List Addr} (h : l.Pairwise (fun a b => @LT.lt Nat _ a b)) {i j : Nat} (hij : i < j) (hj : j < l.length) : @LT.lt Nat _ (adr l i) (adr l j) := by
  have q := List.pairwise_iff_getElem.mp h i j (by omega) hj hij
  unfold adr
  rw [List.getD_eq_getElem?_getD, List.getD_eq_getElem?_getD, List.getElem?_eq_getElem hj, List.getElem?_eq_getElem (Nat.lt_trans hij hj)]
  exact q
theorem adr_inj {l : List Addr} (h : l.Pairwise (fun a b => @LT.lt Nat _ a b)) {i j : Nat} (hi : i < l.length) (hj : j < l.length) (e : adr l i = adr l j) : i = j := by
  rcases Nat.lt_trichotomy i j with a | a | a
  · exact absurd (adr_lt h a hj) (by rw [e]; exact Nat.lt_irrefl _)
  · exact a
  · exact absurd (adr_lt h a hi) (by rw [e]; exact Nat.lt_irrefl _)
theorem adr_off {l : List Addr} (h : l.Pairwise (fun a b => @LT.lt Nat _ a b)) {i : Nat} {is : List Nat} (hi : i < l.length) (hb : ∀ j ∈ is, j < l.length) (hn : i ∉ is) : adr l i ∉ is.map (adr l) := fun q => by
  obtain ⟨j, h1, h2⟩ := List.mem_map.mp q
  exact hn (adr_inj h (hb j h1) hi h2 ▸ h1)
theorem adr_nodup {l : List Addr} (h : l.Pairwise (fun a b => @LT.lt Nat _ a b)) : ∀ {is : List Nat}, is.Nodup → (∀ j ∈ is, j < l.length) → (is.map (adr l)).Nodup := by
  intro is
  induction is with
  | nil => intro _ _; exact List.nodup_nil
  | cons a r ih =>
    intro hn hb
    rw [List.nodup_cons] at hn
    rw [List.map_cons, List.nodup_cons]
    exact ⟨adr_off h (hb a (List.mem_cons_self ..)) (fun j q => hb j (List.mem_cons_of_mem _ q)) hn.1, ih hn.2 fun j q => hb j (List.mem_cons_of_mem _ q)⟩
theorem pw_cons {a b : Addr} {l : List Addr} (h : @LT.lt Nat _ a b) (q : (b :: l).Pairwise (fun a b => @LT.lt Nat _ a b)) : (a :: b :: l).Pairwise (fun a b => @LT.lt Nat _ a b) :=
  List.pairwise_cons.mpr ⟨fun c hc => by
    rcases List.mem_cons.mp hc with rfl | hc
    · exact h
    · exact Nat.lt_trans h ((List.pairwise_cons.mp q).1 c hc), q⟩
theorem mem_of_idx {α : Type} {l ps : List α} (is : List Nat) (e : is.map (fun i => l[i]?) = ps.map some) : ∀ p ∈ ps, p ∈ l := fun p hp => by
  have : some p ∈ is.map (fun i => l[i]?) := e ▸ List.mem_map.mpr ⟨p, hp, rfl⟩
  obtain ⟨i, _, hi⟩ := List.mem_map.mp this
  exact List.mem_of_getElem? hi
/-- the ledger of the law's start -/
theorem init_sys {fd sl cl sd x ac jl td ds wo ws og lg bk wd tp pt : Addr} {oF oS oC oD oJ oA oT oDs oWo oWs oOg oL oB oW oP oI oX : Obj} {news : Led}
    (c : @LT.lt Nat _ sysModules fd ∧ @LT.lt Nat _ fd sl ∧ @LT.lt Nat _ sl cl ∧ @LT.lt Nat _ cl sd ∧ @LT.lt Nat _ sd x ∧ @LT.lt Nat _ x ac ∧ @LT.lt Nat _ ac jl ∧ @LT.lt Nat _ jl td ∧ @LT.lt Nat _ td ds ∧ @LT.lt Nat _ ds wo ∧ @LT.lt Nat _ wo ws ∧ @LT.lt Nat _ ws og ∧ @LT.lt Nat _ og lg ∧ @LT.lt Nat _ lg bk ∧ @LT.lt Nat _ bk wd ∧ @LT.lt Nat _ wd tp ∧ @LT.lt Nat _ tp pt)
    (e : news = [(pt, oP), (tp, oI), (wd, oW), (bk, oB), (lg, oL), (og, oOg), (ws, oWs), (wo, oWo), (ds, oDs), (td, oT), (jl, oJ), (ac, oA), (x, oX), (sd, oD), (cl, oC), (sl, oS), (fd, oF)]) :
    Sys 15 (layOf [(ds, oDs), (lg, oL), (cl, oC), (fd, oF), (sd, oD), (jl, oJ), (td, oT), (wo, oWo), (ws, oWs), (og, oOg), (bk, oB), (tp, oI), (wd, oW), (sl, oS), (ac, oA)])
      (objOf [(ds, oDs), (lg, oL), (cl, oC), (fd, oF), (sd, oD), (jl, oJ), (td, oT), (wo, oWo), (ws, oWs), (og, oOg), (bk, oB), (tp, oI), (wd, oW), (sl, oS), (ac, oA)]) [(pt, oP), (x, oX)] news := by
  obtain ⟨c0, c1, c2, c3, c4, c5, c6, c7, c8, c9, c10, c11, c12, c13, c14, c15, c16⟩ := c
  subst e
  have P := pw_cons c1 (pw_cons c2 (pw_cons c3 (pw_cons c4 (pw_cons c5 (pw_cons c6 (pw_cons c7 (pw_cons c8 (pw_cons c9 (pw_cons c10 (pw_cons c11 (pw_cons c12 (pw_cons c13 (pw_cons c14 (pw_cons c15 (pw_cons c16 (List.pairwise_singleton _ _))))))))))))))))
  have eA : List.map (·.1) [(ds, oDs), (lg, oL), (cl, oC), (fd, oF), (sd, oD), (jl, oJ), (td, oT), (wo, oWo), (ws, oWs), (og, oOg), (bk, oB), (tp, oI), (wd, oW), (sl, oS), (ac, oA)] = [8, 12, 2, 0, 3, 6, 7, 9, 10, 11, 13, 15, 14, 1, 5].map (adr [fd, sl, cl, sd, x, ac, jl, td, ds, wo, ws, og, lg, bk, wd, tp, pt]) := rfl
  have hb : ∀ j ∈ [8, 12, 2, 0, 3, 6, 7, 9, 10, 11, 13, 15, 14, 1, 5], j < [fd, sl, cl, sd, x, ac, jl, td, ds, wo, ws, og, lg, bk, wd, tp, pt].length := by show ∀ j ∈ [8, 12, 2, 0, 3, 6, 7, 9, 10, 11, 13, 15, 14, 1, 5], j < 17; decide
  refine Sys.ofList (ps := [(ds, oDs), (lg, oL), (cl, oC), (fd, oF), (sd, oD), (jl, oJ), (td, oT), (wo, oWo), (ws, oWs), (og, oOg), (bk, oB), (tp, oI), (wd, oW), (sl, oS), (ac, oA)]) (Nat.le_of_ble_eq_true rfl) ?_ (mem_of_idx [8, 4, 14, 16, 13, 10, 9, 7, 6, 5, 3, 1, 2, 15, 11] rfl) (mem_of_idx [0, 12] rfl) ?_ ?_
  · rw [eA]; exact adr_nodup P (by decide) hb
  · intro p hp
    rw [eA]
    rcases List.mem_cons.mp hp with rfl | hp
    · exact adr_off (i := 16) P (by show 16 < 17; decide) hb (by decide)
    · rw [List.mem_singleton.mp hp]; exact adr_off (i := 4) P (by show 4 < 17; decide) hb (by decide)
  · intro a ha
    rw [eA] at ha
    obtain ⟨i, hi, rfl⟩ := List.mem_map.mp ha
    refine beq_eq_false_iff_ne.mpr (Nat.ne_of_gt (Nat.lt_of_lt_of_le c0 ?_))
    rcases Nat.eq_zero_or_pos i with rfl | q
    · exact Nat.le_refl _
    · exact Nat.le_of_lt (adr_lt (i := 0) P q (hb i hi))
theorem init_IM (w : World) {fd sl cl sd x ac jl td ds wo ws og lg bk wd tp : Addr} {oF oS oC oA oT oDs oWo oWs oOg oL oB oW oI : Obj} {hs : Nat → Int} {ts : Nat → Tok} {sn : Nat} {imm : Led} (hx : (x, instObj 325 sd) ∈ imm) (lo : (ac == sysModules) = false)
    (ha : oA.IsDictOf (intKind pr w) []) (ht : oT.IsDictOf (intKind pr w) []) :
    IM w x hs ts sn ds lg (layOf [(ds, oDs), (lg, oL), (cl, oC), (fd, oF), (sd, dictOf (sdE hs ts ac jl td ds wo ws og 0 lg) sn), (jl, listOf #[] 0), (td, oT), (wo, oWo), (ws, oWs), (og, oOg), (bk, oB), (tp, oI), (wd, oW), (sl, oS), (ac, oA)])
      (objOf [(ds, oDs), (lg, oL), (cl, oC), (fd, oF), (sd, dictOf (sdE hs ts ac jl td ds wo ws og 0 lg) sn), (jl, listOf #[] 0), (td, oT), (wo, oWo), (ws, oWs), (og, oOg), (bk, oB), (tp, oI), (wd, oW), (sl, oS), (ac, oA)]) imm (fun _ => none) (fun _ => false) [] 0 0 :=
  ⟨hx, rfl, lo, IntD.empty ha, ⟨_, IntD.empty ht, fun _ => rfl⟩, rfl, Nat.zero_le _⟩
/-- a state dict's entries in the words of sdE -/
theorem sd_ex {P : List DictEntry → Prop} {ac jl td ds wo ws og lg : Addr} {h0 h1 h2 h3 h4 h5 h6 h7 h8 h9 : Int} {t0 t1 t2 t3 t4 t5 t6 t7 t8 t9 t10 : Tok} (h : P [
  ⟨h0, .str (Str.ofString "setting") t0, .none⟩, ⟨h1, .str (Str.ofString "accounts") t1, .ref ac⟩, ⟨h2, .str (Str.ofString "journal") t2, .ref jl⟩, ⟨h3, .str (Str.ofString "touched") t3, .ref td⟩, ⟨h4, .str (Str.ofString "destroyed") t4, .ref ds⟩,
  ⟨h5, .str (Str.ofString "warm_ones") t5, .ref wo⟩, ⟨h6, .str (Str.ofString "warm_slots") t6, .ref ws⟩, ⟨h7, .str (Str.ofString "originals") t7, .ref og⟩, ⟨h8, .str (Str.ofString "refund") t8, .int 0 t10⟩, ⟨h9, .str (Str.ofString "logs") t9, .ref lg⟩]) :
    ∃ (hs : Nat → Int) (ts : Nat → Tok), P (sdE hs ts ac jl td ds wo ws og 0 lg) :=
  ⟨fun i => match i with | 0 => h0 | 1 => h1 | 2 => h2 | 3 => h3 | 4 => h4 | 5 => h5 | 6 => h6 | 7 => h7 | 8 => h8 | _ => h9, fun i => match i with | 0 => t0 | 1 => t1 | 2 => t2 | 3 => t3 | 4 => t4 | 5 => t5 | 6 => t6 | 7 => t7 | 8 => t8 | 9 => t9 | _ => t10, h⟩
/-- the first object that the law makes lies above sys.modules -/
theorem first_dict {prog : Program} {w : World} {A : Around} {E : Value → Shared → Prop} {s : Shared} {env : Env} {h₀ : Heap} {L : Addr} {m : Str → Option Value} {Q : Value → Shared → Prop} {keys : List (Option PySem.Expr)} {values : List PySem.Expr} {pos : Pos} (F : Fr h₀ L s.heap m) (lim : h₀.NoLimit)
    (hv : keys.all (·.isSome) = true) (ht : keys.length = values.length) (hm : (keys.isEmpty || !Nat.ble keys.length 15) = false)
    (h : ∀ (d : Addr) h' o, Fr h₀ L h' m → News h₀ L h' [(d, o)] → @LT.lt Nat _ sysModules d → (d == sysModules) = false → o.IsDictOf (PySem.strKind prog w) [] →
      wpAny (model prog w) A (evalPairs (pairTrees keys values env pos)) (fun vs s₁ => KdnMade prog w (PySem.strKind prog w) d Q vs s₁) E { s with heap := h' }) :
    wpAny (model prog w) A (eval (.Dict keys values pos) env) Q E s := by
  have hbig := lim
  have hall := hv
  have hl := ht
  have hm' := Bool.or_eq_false_iff.mp hm
  have h0 : keys ≠ [] := by rintro rfl; cases hm'.1
  have hlen : keys.length ≤ 15 := Nat.le_of_ble_eq_true (by simpa using hm'.2)
  obtain ⟨o, ho, hd⟩ := Heap.dictOf_iff.mp (Heap.DictOf.new (knd := PySem.strKind prog w) s.heap)
  have N : News h₀ L s.heap [] := fun p hp => nomatch hp
  have lt : @LT.lt Nat _ sysModules s.heap.objs.size := Nat.lt_of_lt_of_le (modules_low hbig) (Nat.le_trans F.above (Nat.le_of_lt F.ns.lt))
  exact Dict_made (knd := PySem.strKind prog w) F hall hl h0 hlen fun F' => h _ _ o F' (news_pushed F N (fun b x e => Heap.get?_push_of_some _ e) ho rfl) lt (F.notModules (modules_low hbig)) hd

/-- the law's start, in the words of Sys -/
theorem init_all (w : World) {h₀ h : Heap} {L : Addr} {fd sl cl sd x ac jl td ds wo ws og lg bk wd tp pt : Addr} {oF oS oC oA oT oDs oWo oWs oOg oB oW oP oI : Obj}
    {h0 h1 h2 h3 h4 h5 h6 h7 h8 h9 : Int} {t0 t1 t2 t3 t4 t5 t6 t7 t8 t9 t10 : Tok}
    (N : News h₀ L h [(pt, oP), (tp, oI), (wd, oW), (bk, oB), (lg, listOf #[] 0), (og, oOg), (ws, oWs), (wo, oWo), (ds, oDs), (td, oT), (jl, listOf #[] 0), (ac, oA), (x, instObj 325 sd), (sd, dictOf [
      ⟨h0, .str (Str.ofString "setting") t0, .none⟩, ⟨h1, .str (Str.ofString "accounts") t1, .ref ac⟩, ⟨h2, .str (Str.ofString "journal") t2, .ref jl⟩, ⟨h3, .str (Str.ofString "touched") t3, .ref td⟩, ⟨h4, .str (Str.ofString "destroyed") t4, .ref ds⟩,
      ⟨h5, .str (Str.ofString "warm_ones") t5, .ref wo⟩, ⟨h6, .str (Str.ofString "warm_slots") t6, .ref ws⟩, ⟨h7, .str (Str.ofString "originals") t7, .ref og⟩, ⟨h8, .str (Str.ofString "refund") t8, .int 0 t10⟩, ⟨h9, .str (Str.ofString "logs") t9, .ref lg⟩] 10), (cl, oC), (sl, oS), (fd, oF)])
    (c : @LT.lt Nat _ sysModules fd ∧ @LT.lt Nat _ fd sl ∧ @LT.lt Nat _ sl cl ∧ @LT.lt Nat _ cl sd ∧ @LT.lt Nat _ sd x ∧ @LT.lt Nat _ x ac ∧ @LT.lt Nat _ ac jl ∧ @LT.lt Nat _ jl td ∧ @LT.lt Nat _ td ds ∧ @LT.lt Nat _ ds wo ∧ @LT.lt Nat _ wo ws ∧ @LT.lt Nat _ ws og ∧ @LT.lt Nat _ og lg ∧ @LT.lt Nat _ lg bk ∧ @LT.lt Nat _ bk wd ∧ @LT.lt Nat _ wd tp ∧ @LT.lt Nat _ tp pt)
    (ha : oA.IsDictOf (intKind pr w) []) (ht : oT.IsDictOf (intKind pr w) []) (lo : (ac == sysModules) = false) :
    ∃ hs ts lay σ imm news, News h₀ L h news ∧ Sys 15 lay σ imm news ∧ IM w x hs ts 10 ds lg lay σ imm (fun _ => none) (fun _ => false) [] 0 0 ∧ (pt, oP) ∈ imm ∧
      (lay 0 = ds ∧ σ 0 = oDs) ∧ (lay 2 = cl ∧ σ 2 = oC) ∧ (lay iFd = fd ∧ σ iFd = oF) ∧ (lay iBk = bk ∧ σ iBk = oB) ∧ (lay iWd = wd ∧ σ iWd = oW) ∧ σ iWo = oWo ∧ σ iWs = oWs ∧ σ iOg = oOg := by
  obtain ⟨hs, ts, N'⟩ := sd_ex (P := fun es => News h₀ L h [(pt, oP), (tp, oI), (wd, oW), (bk, oB), (lg, listOf #[] 0), (og, oOg), (ws, oWs), (wo, oWo), (ds, oDs), (td, oT), (jl, listOf #[] 0), (ac, oA), (x, instObj 325 sd), (sd, dictOf es 10), (cl, oC), (sl, oS), (fd, oF)]) N
  exact ⟨hs, ts, _, _, _, _, N', init_sys c rfl, init_IM w (List.Mem.tail _ (List.Mem.head _)) lo ha ht, List.Mem.head _, ⟨rfl, rfl⟩, ⟨rfl, rfl⟩, ⟨rfl, rfl⟩, ⟨rfl, rfl⟩, ⟨rfl, rfl⟩, rfl, rfl, rfl⟩

/-- behind i turns of the loop that makes the accounts -/
structure JM (w : World) (x : Addr) (hs : Nat → Int) (ts : Nat → Tok) (ds lg : Addr) (lay : Nat → Addr) (σ : Nat → Obj) (lay' : Nat → Addr) (σ' : Nat → Obj) (imm' : Led) (i : Nat) : Prop where
  im : ∃ (acc accd : Nat → Addr) (jv : List Value) (jn : Nat), IM w x hs ts 10 ds lg lay' σ' imm' (fun p => if Pl p ∧ ix p < i then some (.ref (acc (ix p))) else none) (fun p => decide (Pl p ∧ ix p < i)) jv jn (5 * i) ∧ jv.length = 3 * i ∧
    ∀ j, j < i → (acc j, instObj 38 (accd j)) ∈ imm' ∧ AccDict imm' (accd j) (lay' j) ∧ (σ' j).IsDictOf (intKind pr w) []
  old : ∀ j, j < i → (lay j, σ j) ∈ imm'
  rest : ∀ j, j < 15 → i ≤ j → lay' j = lay j ∧ (j ≠ 14 → j ≠ iTd → j ≠ iJl → σ' j = σ j)
section
variable {w : World} {x : Addr} {hs : Nat → Int} {ts : Nat → Tok} {ds lg : Addr} {lay lay' lay2 : Nat → Addr} {σ σ' σ2 : Nat → Obj} {imm imm' imm2 : Led} {i z : Nat}
theorem JM.zero (I : IM w x hs ts 10 ds lg lay σ imm (fun _ => none) (fun _ => false) [] 0 0) : JM w x hs ts ds lg lay σ lay σ imm 0 := by
  refine ⟨⟨fun _ => (0 : Nat), fun _ => (0 : Nat), [], 0, ?_, rfl, fun _ h => absurd h (Nat.not_lt_zero _)⟩, fun _ h => absurd h (Nat.not_lt_zero _), fun _ _ _ => ⟨rfl, fun _ _ _ => rfl⟩⟩
  have e1 : (fun p => if Pl p ∧ ix p < 0 then some (Value.ref ((fun _ : Nat => (0 : Nat)) (ix p))) else none) = fun _ : Int => (none : Option Value) := by
    funext p; rw [if_neg fun h => Nat.not_lt_zero _ h.2]
  have e2 : (fun p => decide (Pl p ∧ ix p < 0)) = fun _ : Int => false := by
    funext p; exact decide_eq_false fun h => Nat.not_lt_zero _ h.2
  rw [e1, e2]; exact I
theorem JM.more (J : JM w x hs ts ds lg lay σ lay' σ' imm' i) (hi : i ≤ 3) (hz : 15 ≤ z) (q : Addr) (o : Obj) : JM w x hs ts ds lg lay σ (upd lay' z q) (upd σ' z o) imm' i := by
  obtain ⟨⟨acc, accd, jv, jn, I, lj, h⟩, h2, h3⟩ := J
  exact ⟨⟨acc, accd, jv, jn, I.same fun j a b => ⟨upd_ne _ _ (by omega), upd_ne _ _ (by omega)⟩, lj, fun j hj => by rw [upd_ne _ _ (by omega), upd_ne _ _ (by omega)]; exact h j hj⟩, h2,
    fun j a b => ⟨(upd_ne _ _ (by omega)).trans (h3 j a b).1, fun c d e => (upd_ne _ _ (by omega)).trans ((h3 j a b).2 c d e)⟩⟩
theorem JM.step {acc accd : Nat → Addr} {jv jv' : List Value} {jn jn' : Nat} {p : Int} {xa d : Addr} (hi : i < 3) (hp : Pl p) (hx : ix p = i) (su : Suf imm' imm2)
    (lj : jv.length = 3 * i) (h : ∀ j, j < i → (acc j, instObj 38 (accd j)) ∈ imm' ∧ AccDict imm' (accd j) (lay' j) ∧ (σ' j).IsDictOf (intKind pr w) [])
    (old : ∀ j, j < i → (lay j, σ j) ∈ imm') (rest : ∀ j, j < 15 → i ≤ j → lay' j = lay j ∧ (j ≠ 14 → j ≠ iTd → j ≠ iJl → σ' j = σ j))
    (I' : IM w x hs ts 10 ds lg lay2 σ2 imm2 (fun y => if y = p then some (.ref xa) else (if Pl y ∧ ix y < i then some (.ref (acc (ix y))) else none)) (set1 (fun y => decide (Pl y ∧ ix y < i)) p true) jv' jn' (5 * i + 5)) (lj' : jv'.length = jv.length + 3)
    (mx : (xa, instObj 38 d) ∈ imm2) (md : AccDict imm2 d (lay2 (ix p))) (ho : (σ2 (ix p)).IsDictOf (intKind pr w) []) (mo : (lay' (ix p), σ' (ix p)) ∈ imm2)
    (fr : ∀ j, j < z → j ≠ ix p → lay2 j = lay' j ∧ (j ≠ 14 → j ≠ iTd → j ≠ iJl → σ2 j = σ' j)) (hz : 15 ≤ z) : JM w x hs ts ds lg lay σ lay2 σ2 imm2 (i + 1) := by
  have c14 : i ≠ 14 := by omega
  have c6 : i ≠ iTd := by show i ≠ 6; omega
  have c5 : i ≠ iJl := by show i ≠ 5; omega
  refine ⟨⟨upd acc i xa, upd accd i d, jv', jn', ?_, by omega, fun j hj => ?_⟩, fun j hj => ?_, fun j a b => ?_⟩
  · have e1 : (fun y => if Pl y ∧ ix y < i + 1 then some (Value.ref (upd acc i xa (ix y))) else none) = (fun y => if y = p then some (Value.ref xa) else (if Pl y ∧ ix y < i then some (Value.ref (acc (ix y))) else none)) := by
      funext y
      by_cases e : y = p
      · subst e; rw [if_pos ⟨hp, by omega⟩, if_pos rfl, hx, upd_self]
      · rw [if_neg e]
        by_cases c : Pl y ∧ ix y < i
        · rw [if_pos c, if_pos ⟨c.1, by omega⟩, upd_ne _ _ (by omega)]
        · rw [if_neg c, if_neg]
          rintro ⟨c1, c2⟩
          have : ix y ≠ i := fun q => e (ix_inj c1 hp (q.trans hx.symm))
          exact c ⟨c1, by omega⟩
    have e2 : (fun y => decide (Pl y ∧ ix y < i + 1)) = set1 (fun y => decide (Pl y ∧ ix y < i)) p true := by
      funext y
      unfold set1
      by_cases e : y = p
      · subst e; rw [if_pos rfl]; exact decide_eq_true ⟨hp, by omega⟩
      · rw [if_neg e]
        show _ = decide (Pl y ∧ ix y < i)
        by_cases c : Pl y ∧ ix y < i
        · rw [decide_eq_true c, decide_eq_true (p := Pl y ∧ ix y < i + 1) ⟨c.1, by omega⟩]
        · rw [decide_eq_false c]
          refine decide_eq_false ?_
          rintro ⟨c1, c2⟩
          have : ix y ≠ i := fun q => e (ix_inj c1 hp (q.trans hx.symm))
          exact c ⟨c1, by omega⟩
    rw [e1, e2]; exact I'
  · by_cases e : j = i
    · subst e; rw [upd_self, upd_self]; rw [hx] at md ho; exact ⟨mx, md, ho⟩
    · rw [upd_ne _ _ e, upd_ne _ _ e]
      obtain ⟨h1, h2, h3⟩ := h j (by omega)
      have f := fr j (by omega) (by omega)
      have f2 := f.2 (by omega) (by show j ≠ 6; omega) (by show j ≠ 5; omega)
      exact ⟨su.sub _ h1, by rw [f.1]; exact h2.mono su.sub, by rw [f2]; exact h3⟩
  · by_cases e : j = i
    · subst e
      have r := rest j (by omega) (Nat.le_refl _)
      rw [hx] at mo
      rw [← r.1, ← r.2 c14 c6 c5]; exact mo
    · exact su.sub _ (old j (by omega))
  · have f := fr j (by omega) (by omega)
    have r := rest j a (by omega)
    exact ⟨f.1.trans r.1, fun c d e => (f.2 c d e).trans (r.2 c d e)⟩
end

/-- behind the loop that makes the accounts -/
abbrev x0 : SX := { c := { wo := fun _ => false, ws := fun _ _ => false, cur := fun _ _ => 0, tch := fun p => decide (Pl p ∧ ix p < 3), rf := 0 }, og := fun _ _ => none, jr := List.replicate 9 .junk }
theorem rows_junk {imm : Led} : ∀ (n : Nat) (vs : List Value), vs.length = n → RowsAre imm vs (List.replicate n .junk) := by
  intro n
  induction n with
  | zero => intro vs h; rw [List.length_eq_zero_iff.mp h]; exact .nil
  | succ n ih =>
    intro vs h
    obtain ⟨r, v, rfl⟩ : ∃ r v, vs = r ++ [v] := ⟨vs.dropLast, vs.getLast (by intro e; rw [e] at h; cases h), (List.dropLast_concat_getLast _).symm⟩
    rw [List.replicate_succ']
    exact .snoc (ih r (by simpa using h)) trivial
theorem JM.done {w : World} {x : Addr} {hs : Nat → Int} {ts : Nat → Tok} {ds lg : Addr} {lay lay' : Nat → Addr} {σ σ' : Nat → Obj} {imm' news' : Led}
    (J : JM w x hs ts ds lg lay σ lay' σ' imm' 3) (S : Sys 15 lay' σ' imm' news') (e0 : lay 0 = ds) (l0 : (lay 0 == sysModules) = false) (d0 : (σ 0).IsDictOf (intKind pr w) []) (wo : (σ iWo).IsDictOf (intKind pr w) []) (ws : (σ iWs).IsDictOf (intKind pr w) []) (og : (σ iOg).IsDictOf (intKind pr w) []) :
    ∃ ax imm2, Suf imm' imm2 ∧ Sys 14 lay' σ' imm2 news' ∧ StRep w x ax lay' σ' imm2 x0 15 := by
  obtain ⟨⟨acc, accd, jv, jn, I, lj, h⟩, old, rest⟩ := J
  have su : ∀ p ∈ imm', p ∈ (lay' 14, σ' 14) :: imm' := fun p hp => .tail _ hp
  have m0 := old 0 (by omega)
  have md : ∀ i, i < 3 → ∃ (q : (Nat → Int) × (Nat → Tok) × Nat), (accd i, dictOf (adE q.1 q.2.1 (lay' i)) q.2.2) ∈ imm' := fun i hi => by
    obtain ⟨ah, ta, na, e⟩ := (h i hi).2.1
    exact ⟨(ah, ta, na), e⟩
  have r7 := (rest 7 (by omega) (by omega)).2 (by omega) (by decide) (by decide)
  have r8 := (rest 8 (by omega) (by omega)).2 (by omega) (by decide) (by decide)
  have r9 := (rest 9 (by omega) (by omega)).2 (by omega) (by decide) (by decide)
  let q : Nat → (Nat → Int) × (Nat → Tok) × Nat := fun i => if hi : i < 3 then (md i hi).choose else (fun _ => 0, fun _ => 0, 0)
  have hq : ∀ i, i < 3 → (accd i, dictOf (adE (q i).1 (q i).2.1 (lay' i)) (q i).2.2) ∈ imm' := fun i hi => by
    have := (md i hi).choose_spec
    simp only [q, dif_pos hi]; exact this
  refine ⟨{ hs := hs, ts := ts, sn := 10, ac := lay' 14, aco := σ' 14, ds := ds, dso := σ 0, lg := lg, acc := acc, accd := accd, ah := fun i => (q i).1, at_ := fun i => (q i).2.1, an := fun i => (q i).2.2, jv := jv, jn := jn }, (lay' 14, σ' 14) :: imm', Suf.cons (Suf.refl _) _, S.keepZ (Nat.le_refl 14), ?_⟩
  refine ⟨su _ I.st, I.sd, .head _, I.lo, ?_, fun i hi => su _ (h i hi).1, fun i hi => su _ (hq i hi), su _ (e0 ▸ m0), e0 ▸ l0, IntD.empty d0, fun p hp => ?_, I.jl, ?_, I.jb, I.td, fun p hp => (of_decide_eq_true hp).1, ⟨_, (IntD.empty (by rw [r7]; exact wo)).mono (Nat.zero_le _), fun _ => rfl⟩,
    ⟨_, (TupD.empty (by rw [r8]; exact ws)).mono (fun _ h => h) (Nat.zero_le _), fun _ _ => rfl⟩, ⟨_, (TupD.empty (by rw [r9]; exact og)).mono (fun _ h => h) (Nat.zero_le _), fun _ _ => .inl ⟨rfl, rfl⟩⟩⟩
  · have e : (fun p => if Pl p ∧ ix p < 3 then some (Value.ref (acc (ix p))) else none) = accF acc := by
      funext p
      unfold accF
      by_cases c : Pl p
      · rw [if_pos c, if_pos ⟨c, ix_lt p⟩]
      · rw [if_neg c, if_neg fun a => c a.1]
    have A := I.ac
    rw [e] at A
    exact A.mono (by omega)
  · exact ⟨_, (IntD.empty (h _ (ix_lt p)).2.2).mono (Nat.zero_le _), fun _ => .inl ⟨rfl, rfl⟩⟩
  · exact rows_junk 9 jv lj
/-- the feed and the book behind it -/
theorem JM.feed {w : World} {x : Addr} {hs : Nat → Int} {ts : Nat → Tok} {ds lg : Addr} {lay lay' : Nat → Addr} {σ σ' : Nat → Obj} {imm' : Led} {i : Nat}
    (J : JM w x hs ts ds lg lay σ lay' σ' imm' i) (hi : i ≤ 3) {fd cl : Addr} {oF : Obj} {vs : List Value} {n : Nat} {cells : List Int} {t3 : Tok} (ef : lay iFd = fd) (eo : σ iFd = oF) (hm : (cl, listOf vs.toArray n) ∈ imm')
    (hd : oF.IsDictOf (strKind pr w) [(Str.ofString "cells", .ref cl), (Str.ofString "at", .int 0 t3)]) (hI : IntsAre vs cells) (hC : cells.length ≤ 63) :
    FRep w fd ⟨cl, vs, n⟩ lay' σ' imm' cells 15 := by
  have r := J.rest iFd (by decide) hi
  have r2 := r.2 (by decide) (by decide) (by decide)
  refine ⟨r.1.trans ef, ⟨_, t3, 0, ⟨_, by rw [r2, eo]; exact hd, fun _ => rfl, Nat.le_of_ble_eq_true rfl⟩, rfl, rfl, Nat.zero_le _⟩, hm, hI, hC⟩
theorem JM.book {w : World} {x : Addr} {hs : Nat → Int} {ts : Nat → Tok} {ds lg : Addr} {lay lay' : Nat → Addr} {σ σ' : Nat → Obj} {imm' : Led} {i : Nat}
    (J : JM w x hs ts ds lg lay σ lay' σ' imm' i) (hi : i ≤ 3) {bk wd : Addr} {oB oW : Obj} (eb : lay iBk = bk) (eo : σ iBk = oB) (ew : lay iWd = wd) (eo2 : σ iWd = oW)
    (hd : oB.IsDictOf (strKind pr w) [(Str.ofString "words", .ref wd)]) (hw : oW.IsDictOf (intKind pr w) []) :
    BRep0 w bk lay' σ' imm' (fun _ _ => none) 15 := by
  have r := J.rest iBk (by decide) (by have : iBk = 10 := rfl; omega)
  have r2 := r.2 (by decide) (by decide) (by decide)
  have q := J.rest iWd (by decide) (by have : iWd = 12 := rfl; omega)
  have q2 := q.2 (by decide) (by decide) (by decide)
  refine ⟨r.1.trans eb, ⟨_, (TupD.empty (by rw [q2, eo2]; exact hw)).mono (fun _ h => h) (Nat.zero_le _), fun _ _ => .inl ⟨rfl, rfl⟩, fun _ h => by cases h⟩, ⟨_, ⟨_, by rw [r2, eo]; exact hd, fun _ => rfl, Nat.le_of_ble_eq_true rfl⟩, ?_⟩⟩
  rw [q.1, ew]; rfl
theorem r_item_wd0 {w : World} {A : Around} {E : Value → Shared → Prop} {s : Shared} {h₀ : Heap} {L : Addr} {z : Nat} {lay : Nat → Addr} {σ : Nat → Obj} {imm news : Led} {bk : Addr} {b : Nat} {p k v : Int} {t u : Tok} {tp : Addr} {cur : Int → Int → Option Int} {value slice : Expr} {Q : Value → Shared → Prop}
    (hu : A.units + 1 < cLine) (N : News h₀ L s.heap news) (S : Sys z lay σ imm news) (B : BRep0 w bk lay σ imm cur b) (ht : (tp, tupO [.int p t, .int k u]) ∈ imm) (hv : cur p k = some v)
    (h : ∀ t', Q (.int v t') { s with toks := s.toks + 3 })
    (hs : subscripted slice false (.ref (lay iWd)) (.ref tp) = operate [.ref (lay iWd), .ref tp] (getItem (.ref (lay iWd)) (.ref tp)) := by with_unfolding_all rfl) :
    wpAny (model pr w) A (subscriptTail value slice (.ref (lay iWd)) (.ref tp)) Q E s := by
  obtain ⟨f, ⟨es, ep, xs, a, b1, c, n, e, g, l⟩, e2, _⟩ := B.wd
  have hD := TupD.dict (s := s) N S.sub (S.mem iWd (by decide)) a b1 c n e
  obtain ⟨t', ef⟩ : ∃ t', f [p, k] = some (.int v t') := by
    rcases e2 p k with ⟨h1, h2⟩ | ⟨i, t', h1, h2⟩
    · rw [hv] at h1; cases h1
    · rw [hv] at h1; cases h1; exact ⟨t', h2⟩
  have gk := g [p, k]
  rw [ef] at gk
  obtain ⟨q, hq, hqv⟩ := Option.map_eq_some_iff.mp gk
  refine tail_any hD.typeIs slot_dict_getitem.lookup (wpAny_getItem_heap (tupleKind_room_in1 hu) ((pairKey _ _ _ _ _ _).key (N.get (S.sub _ ht))) hD hq ?_) hs
  rw [hqv]; exact h t'
theorem set2_self {α : Type} (c : Int → Int → α) (p k : Int) (v : α) : set2 c p k v p k = v := by unfold set2; simp
/-- the first opening -/
theorem L0_opened {w : World} {z : Nat} {fd st bk : Addr} {ax : Aux} {fx : Fux} {lay : Nat → Addr} {σ : Nat → Obj} {imm : Led} {x : SX} {cur : Int → Int → Option Int} {cells : List Int} {b1 b2 b3 : Nat} (R : StRep w st ax lay σ imm x b1) (B : BRep0 w bk lay σ imm cur b2) (C : FRep w fd fx lay σ imm cells b3)
    (b : Nat) (h1 : b1 ≤ b) (h2 : b2 ≤ b) (h3 : b3 ≤ b) (hb : b ≤ 800000) (hc : ∀ p k, x.c.cur p k = (cur p k).getD 0) (rl : Addr) (vs : List Value) (k : Nat) (rows : List (Int × List Int)) (ha : (rl, listOf (List.toArray vs) k) ∈ imm) (hr : All2 (RowOk imm) vs rows) (hl : vs.length ≤ 3) :
    Ct w 12 405 [.ref bk, .ref st, .ref rl] z lay σ imm (LPost w z fd st bk cells lay σ (b + 100) 12) :=
  (C_opened w z st bk ax lay σ imm x cur b (by omega) (R.mono (fun _ h => h) h1) (B.mono (fun _ h => h) h2) hc rl vs k rows ha hr hl).toCt fun r lay' σ' imm' n' S U q =>
    ⟨q.1, ex4 q.2 fun ax' bx' x' y' k => ⟨⟨ax', bx', fx, x', y', k.1, k.2.1, (C.toL S k.2.2.1 U).mono (fun _ h => h) (Nat.le_trans h3 (Nat.le_add_right _ _)), k.2.2.2.1, k.2.2.2.2⟩, k.2.2.1.toO⟩⟩
theorem cur_set {x : SX} {cur : Int → Int → Option Int} (h : ∀ p k, x.c.cur p k = (cur p k).getD 0) (p k v : Int) : ∀ a c, (x.setSlot p k v).c.cur a c = ((set2 cur p k (some v)) a c).getD 0 := by
  intro a c
  rw [(setSlot_c x p k v).2.2.1]
  unfold set2
  by_cases q : a = p ∧ c = k
  · simp [q]
  · simp [q, h]

local macro_rules | `(tactic| walk_at "eval Dict") => `(tactic| ((with_reducible show wpAny _ _ (eval (Expr.Dict [some _, some _] _ _) _) _ _ _); k_call_by "r" first_dict; intro zd zh zo zF zN z1 zp z2))

local macro_rules | `(tactic| walk_at "setItem ref ref") => `(tactic| (walk_at "S"; walk_at "B0"; k_call_by "r" r_set_wd0; clear lS lB0; intro zh zo zn zF zN zS zB; walk_at "zu"))
local macro_rules | `(tactic| walk_at "subscriptTail") => `(tactic| ((with_reducible show wpAny _ _ (subscriptTail _ _ (Value.ref _) (Value.ref _)) _ _ _); k_call_by "r" (r_item_wd0 (hv := set2_self _ _ _ _)); intro zu))
local macro_rules | `(tactic| walk_at "call ref") => `(tactic| first | (walk_at "C"; k_call_by "c" Ct1.useQ C_listed; clear lC; intro zg zq zv zk zw zn zm zh zt zF zN zS zf zC zM; have z1 := And.left zM; have za := And.left (And.right zM); have zl := And.left (And.right (And.right zM)); clear zM; walk_at "zf") | (walk_at "B0"; walk_at "C"; k_call_by "c" Ct.useL (L0_opened (b := 400)); clear lR lB0 lC; intro zy zg zn zm zh zt zF zN zS zL zf; walk_at "d") | (walk_at "I"; k_call_by "c" Ct.useV C_set_nonce0; clear lI; intro zy zg zn zm zh zt zF zN zS zP; walk_at "d") | k_call_by "2l" C_done)
local macro_rules | `(tactic| k_ne) => `(tactic| (refine neN ?_; (try dsimp only); first | exact Nat.ne_of_gt (by simp only [*]) | exact Nat.ne_of_lt (by simp only [*]) | omega))

theorem main.tw13962693860625380366 : True := trivial
theorem main.tw2852251193174398662 : True := trivial
theorem main.tw15589955886551607785 : True := trivial
theorem main.tw11692516046256081784 : True := trivial
theorem main.tw8260724100714396741 : True := trivial
theorem main.tw11273777480241942364 : True := trivial
theorem main.tw5084117380071580128 : True := trivial
theorem main.tw1900339198761634783 : True := trivial
theorem main.tw5638201095994319732 : True := trivial
theorem main.tw14080665800827857628 : True := trivial
theorem main.tw14646587721710459877 : True := trivial
theorem main.tw16798622893749714585 : True := trivial
theorem main.tw13626721169425172152 : True := trivial
theorem main.tw11857135199678951331 : True := trivial
theorem main.tw15491723280356408159 : True := trivial
theorem main.tw12298629886278197574 : True := trivial
theorem main.tw10896356407431480244 : True := trivial
theorem main.tw6801380410627298636 : True := trivial
theorem main.tw10114013102757674387 : True := trivial
theorem main.tw18431692314602308842 : True := trivial
theorem main.tw10876375607700338302 : True := trivial
theorem main.tw11735423636902730196 : True := trivial
theorem main.tw17695171507069755227 : True := trivial
theorem main.tw15510692781650021527 : True := trivial
theorem main.tw4544244032028310869 : True := trivial
theorem main.tw1390771862084280389 : True := trivial
theorem main.tw8905464785575363620 : True := trivial
theorem main.tw5585478044538960755 : True := trivial
theorem main.tw15365013842991253249 : True := trivial
theorem main.tw4573282807186111410 : True := trivial
theorem main.tw9498315638749924794 : True := trivial
theorem main.tw12872379398031375081 : True := trivial
theorem main.tw8930851030842425676 : True := trivial
theorem main.tw15616401959046598769 : True := trivial
theorem main.tw5665406974723832613 : True := trivial
theorem main.tw1306636233014830658 : True := trivial
theorem main.tw8440099810896429113 : True := trivial
theorem main.tw4650958065196391918 : True := trivial
theorem main.tw31828345220925962 : True := trivial
theorem main.tw18287795668848337631 : True := trivial
theorem main.tw365850788961202214 : True := trivial
theorem main.tw5240779543111244032 : True := trivial
theorem main.tw14457758005677747962 : True := trivial
theorem main.tw6958908112882689824 : True := trivial
theorem main.tw15734200111481486640 : True := trivial
theorem main.tw16035907590883218939 : True := trivial
theorem main.tw14539993770535171780 : True := trivial
theorem main.tw17665120845849184447 : True := trivial
theorem main.tw3549514262204291990 : True := trivial
theorem main.tw7113585516715319716 : True := trivial
theorem main.tw5842977544298395883 : True := trivial
theorem main.tw17708487481403421675 : True := trivial
theorem main.tw6361450105264607166 : True := trivial
theorem main.tw9563168847844234846 : True := trivial
theorem main.tw3864431920445960829 : True := trivial
theorem main.tw1429040668314091153 : True := trivial
theorem main.tw17146568849442343683 : True := trivial
theorem main.tw15624239662980076321 : True := trivial
theorem main.tw11239335112260394413 : True := trivial
theorem main.tw917386388269078853 : True := trivial
theorem main.tw12093647306153771053 : True := trivial
theorem main.tw14722489848711283861 : True := trivial
theorem main.tw13180746182150919023 : True := trivial
theorem main.tw5532463470591059822 : True := trivial
theorem main.tw4637267157515435788 : True := trivial
theorem main.tw3045742163950154196 : True := trivial
theorem main.tw6697339332421208802 : True := trivial
theorem main.tw10450603732522932521 : True := trivial
theorem main.tw7380652910202371479 : True := trivial
theorem main.tw9994787619460420439 : True := trivial
theorem main.tw11399646045708457374 : True := trivial
theorem main.tw9483120023164983764 : True := trivial
theorem main.tw1826329307503635854 : True := trivial
theorem main.tw1678875084529416142 : True := trivial
theorem main.tw1545906260438175962 : True := trivial
theorem main.tw15737690656516749961 : True := trivial
theorem main.tw12623159325031504133 : True := trivial
theorem main.tw10140136200207757160 : True := trivial
theorem main.tw14106445559736802775 : True := trivial
theorem main.tw1677766988990989824 : True := trivial
theorem main.tw17958375852430007124 : True := trivial
theorem main.tw8844999433837080629 : True := trivial
theorem main.tw11135027115929721415 : True := trivial
theorem main.tw2629084897520917108 : True := trivial
theorem main.tw6741292078354696603 : True := trivial
theorem main.tw5127751686995613262 : True := trivial
theorem main.tw6557543464795787104 : True := trivial
theorem main.tw765107192605250810 : True := trivial
theorem main.tw11461230924637031220 : True := trivial
theorem main.tw16721930046160240684 : True := trivial
theorem main.tw12273490649430754879 : True := trivial
theorem main.tw4651154628705390771 : True := trivial
theorem main.tw10877679251791092727 : True := trivial
theorem main.tw6690441779611380620 : True := trivial
theorem main.tw7273056430967151046 : True := trivial
theorem main.tw6449824600675878752 : True := trivial
theorem main.tw5995161000843957690 : True := trivial
theorem main.tw7647378279178456250 : True := trivial
theorem main.tw15649996292582860464 : True := trivial
theorem main.tw5061512775090418087 : True := trivial
theorem main.tw1253437644075932092 : True := trivial
theorem main.tw10094358506670053839 : True := trivial
theorem main.tw9155575984036265788 : True := trivial
theorem main.tw3848698983108048278 : True := trivial
theorem main.tw8118072479153026202 : True := trivial
theorem main.tw6044114016751833949 : True := trivial
theorem main.tw16356685582667847594 : True := trivial
theorem main.tw6334894449686545209 : True := trivial
theorem main.tw1178595665728414349 : True := trivial
theorem main.tw2538046985915079169 : True := trivial
theorem main.tw4324958949535026087 : True := trivial
theorem main.tw3570300971023340979 : True := trivial
theorem main.tw13995172100960836882 : True := trivial
theorem main.tw11101190512080308003 : True := trivial
theorem main.tw9942282790977331292 : True := trivial
theorem main.tw10298723112805639129 : True := trivial
theorem main.tw13313126695403321540 : True := trivial
theorem main.tw15558288988949320067 : True := trivial
theorem main.tw13838900630717943254 : True := trivial
theorem main.tw1469836325065767749 : True := trivial
theorem main.tw15350898050860989542 : True := trivial
theorem main.tw13157206579259725088 : True := trivial
theorem main.tw10652611922669240339 : True := trivial
theorem main.tw2406621943657119228 : True := trivial
theorem main.tw13132915859168520264 : True := trivial
theorem main.tw16187894506366716058 : True := trivial
theorem main.tw6910295442248876197 : True := trivial
theorem main.tw1615956725737779560 : True := trivial
theorem main.tw17236958762192778904 : True := trivial
theorem main.tw962032349192862916 : True := trivial
theorem main.tw12361340156312767134 : True := trivial
theorem main.tw7308723440029596264 : True := trivial
theorem main.tw17297283025540448806 : True := trivial
theorem main.tw5517759331935216279 : True := trivial
theorem main.tw14771111431291430275 : True := trivial
theorem main.tw5518243967957118194 : True := trivial
theorem main.tw13355152605343272895 : True := trivial
theorem main.tw16572128252103988241 : True := trivial
theorem main.tw4812270449578504274 : True := trivial
theorem main.tw6660377722381337597 : True := trivial
theorem main.tw13547569757486424058 : True := trivial
theorem main.tw10047389527955405517 : True := trivial
theorem main.tw1496695287857109588 : True := trivial
theorem main.tw3282683096612927266 : True := trivial
theorem main.tw9848185148710128376 : True := trivial
theorem main.tw12646911602827044314 : True := trivial
theorem main.tw7332552209862256014 : True := trivial
theorem main.tw18403998269306519403 : True := trivial
theorem main.tw2714283472998740243 : True := trivial
theorem main.tw15608450976537380609 : True := trivial
theorem main.tw10642606787283503386 : True := trivial
theorem main.tw16819838333489098493 : True := trivial
theorem main.tw5993783075680170165 : True := trivial
theorem main.tw16656740534632174751 : True := trivial
theorem main.tw11774690029378154688 : True := trivial
theorem main.tw12431561837914552411 : True := trivial
theorem main.tw1319676515408343850 : True := trivial
theorem main.tw221909299271738847 : True := trivial
theorem main.tw8436210846270712021 : True := trivial
theorem main.tw7221758910455160077 : True := trivial
theorem main.tw15277975159832343749 : True := trivial
theorem main.tw9361300454564663673 : True := trivial
theorem main.tw12608185968620612914 : True := trivial
theorem main.tw452746233719593009 : True := trivial
theorem main.tw4585930131862741453 : True := trivial
theorem main.tw3298483428156984901 : True := trivial
theorem main.tw16965079339398995527 : True := trivial
theorem main.tw14798791472264738832 : True := trivial
theorem main.tw10609540516017602915 : True := trivial
theorem main.tw6886502059237256666 : True := trivial
theorem main.tw13693970394777133609 : True := trivial
theorem main.tw2729793432009153956 : True := trivial
theorem main.tw14313897822631088780 : True := trivial
theorem main.tw12252054271945606052 : True := trivial
theorem main.tw16451033083921036709 : True := trivial
theorem main.tw9121559901702372667 : True := trivial
theorem main.tw18218335207050127959 : True := trivial
theorem main.tw656089360051881306 : True := trivial
theorem main.tw6389877041954997217 : True := trivial
theorem main.tw8207831470162742035 : True := trivial
theorem main.tw14047528560240846109 : True := trivial
theorem main.tw7173573769161785238 : True := trivial
theorem main.tw17336282652733537790 : True := trivial
theorem main.tw1980160206288974728 : True := trivial
theorem main.tw14884586682971678537 : True := trivial
theorem main.tw453184122279072053 : True := trivial
theorem main.tw10199874654664476236 : True := trivial
theorem main.tw2456247091588846565 : True := trivial
theorem main.tw5372645768047454471 : True := trivial
theorem main.tw1777545030009416734 : True := trivial
theorem main.tw11646826074482590764 : True := trivial
theorem main.tw750237026923860459 : True := trivial
theorem main.tw7074144079889050967 : True := trivial
theorem main.tw17453503289922162039 : True := trivial
theorem main.tw12800608258095302798 : True := trivial
theorem main.tw1270039299266317192 : True := trivial
theorem main.tw8947760058931562597 : True := trivial
theorem main.tw12463224122652932544 : True := trivial
theorem main.tw12343854547171428336 : True := trivial
theorem main.tw18421580907717582127 : True := trivial
theorem main.tw9957550378297406723 : True := trivial
theorem main.tw7698036289167662538 : True := trivial
theorem main.tw16320215318167395912 : True := trivial
theorem main.tw12139096438432415106 : True := trivial
theorem main.tw14672674291997333471 : True := trivial
theorem main.tw4452170602077327944 : True := trivial
theorem main.tw17057053908230417247 : True := trivial
theorem main.tw4766233809647381661 : True := trivial
theorem main.tw18190005008629794160 : True := trivial
theorem main.tw6981815665589151136 : True := trivial
theorem main.tw10169072693733980587 : True := trivial
theorem main.tw11251407683458634364 : True := trivial
theorem main.tw3613476055612923068 : True := trivial
theorem main.tw14060465935940456498 : True := trivial
theorem main.tw10669944970481658594 : True := trivial
theorem main.tw9897820754763898449 : True := trivial
theorem main.tw13224007501803129859 : True := trivial
theorem main.tw9515011664573035354 : True := trivial
theorem main.tw11962923498438245051 : True := trivial
theorem main.tw7623511443260959870 : True := trivial
theorem main.tw13667920496262714385 : True := trivial
theorem main.tw12992176717851604617 : True := trivial
theorem main.tw11261727412033496967 : True := trivial
theorem main.tw3454311308915712629 : True := trivial
theorem main.tw9268297945177815525 : True := trivial
theorem main.tw18165044119631177899 : True := trivial
theorem main.tw7884331609784382070 : True := trivial
theorem main.tw9302470337196694018 : True := trivial
theorem main.tw9069182735580402390 : True := trivial
theorem main.tw17268439761433841065 : True := trivial
theorem main.tw8729708805864041840 : True := trivial
theorem main.tw2583023086579268501 : True := trivial
theorem main.tw5871769198996169552 : True := trivial
theorem main.tw7214478077546791972 : True := trivial
theorem main.tw9265829497004654079 : True := trivial
theorem main.tw15955573374722617477 : True := trivial
theorem main.tw11476092923266045095 : True := trivial
theorem main.tw7186131708394509389 : True := trivial
theorem main.tw7268301785047649679 : True := trivial
theorem main.tw3934531018447913466 : True := trivial
theorem main.tw5234446048077146213 : True := trivial
theorem main.tw2110754180369666209 : True := trivial
theorem main.tw545269030811804461 : True := trivial
theorem main.tw2007339730380871907 : True := trivial
theorem main.tw17561526911342447988 : True := trivial
theorem main.tw14562738103837258888 : True := trivial
theorem main.tw16629339528299215175 : True := trivial
theorem main.tw3557749057250611081 : True := trivial
theorem main.tw10750994468655217958 : True := trivial
theorem main.tw979501456738626862 : True := trivial
theorem main.tw17715262827843222689 : True := trivial
theorem main.tw6584820252761975732 : True := trivial
theorem main.tw5400957986263281647 : True := trivial
theorem main.tw834873547066669988 : True := trivial
theorem main.tw14439473939278146460 : True := trivial
theorem main.tw11712081513822626495 : True := trivial
theorem main.tw6222487380544312443 : True := trivial
theorem main.tw1628013610222277130 : True := trivial
theorem main.tw9512817274939609580 : True := trivial
theorem main.tw12922898485456448571 : True := trivial
theorem main.tw6785657489111691699 : True := trivial
theorem main.tw9670510015898674028 : True := trivial
theorem main.tw3137596982192898869 : True := trivial
theorem main.tw13590572293223372214 : True := trivial
theorem main.tw1130211791997205004 : True := trivial
theorem main.tw16778611742570070204 : True := trivial
theorem main.tw17450470499104002142 : True := trivial
theorem main.tw451873465583785326 : True := trivial
theorem main.tw10204856939554784155 : True := trivial
theorem main.tw6912675738884088206 : True := trivial
theorem main.tw11001617756164336837 : True := trivial
theorem main.tw1409966394225722968 : True := trivial
theorem main.tw5243159528196176124 : True := trivial
theorem main.tw15356762974548107741 : True := trivial
theorem main.tw13503263706703578961 : True := trivial
theorem main.tw1587290215689348708 : True := trivial
theorem main.tw12483276189755474720 : True := trivial
theorem main.tw5240536507193477226 : True := trivial
theorem main.tw4297412468100583042 : True := trivial
theorem main.tw3829396358689915599 : True := trivial
theorem main.tw5309058905264134205 : True := trivial
theorem main.tw13876859957761632879 : True := trivial
theorem main.tw6877560268529008848 : True := trivial
theorem main.tw8627561154394265716 : True := trivial
theorem main.tw10455743928339290457 : True := trivial
theorem main.tw3583811862363856187 : True := trivial
theorem main.tw14064073609400967072 : True := trivial
theorem main.tw12518504611687188807 : True := trivial
theorem main.tw8478376212529829071 : True := trivial
theorem main.tw16135426469972691074 : True := trivial
theorem main.tw13348322127785295214 : True := trivial
theorem main.tw5677329702179833609 : True := trivial
theorem main.tw10363585996791799541 : True := trivial
theorem main.tw14510055921401542917 : True := trivial
theorem main.tw11501822485730972192 : True := trivial
theorem main.tw13972245371655741198 : True := trivial
theorem main.tw9681375758050803366 : True := trivial
theorem main.tw9406782406253462049 : True := trivial
theorem main.tw18238007617527299592 : True := trivial
theorem main.tw11120327062377616369 : True := trivial
theorem main.tw18302796317244248524 : True := trivial
theorem main.tw9658885295015712986 : True := trivial
theorem main.tw3706830351922483016 : True := trivial
theorem main.tw13350764725976880583 : True := trivial
theorem main.tw12885385263037960081 : True := trivial
theorem main.tw9417822746687237092 : True := trivial
theorem main.tw4000297624352050223 : True := trivial
theorem main.tw13110577991587790113 : True := trivial
theorem main.tw4500915450034043215 : True := trivial
theorem main.tw1156462466702112376 : True := trivial
theorem main.tw3562595001068472590 : True := trivial
theorem main.tw2496676261509829067 : True := trivial
theorem main.tw5396188567872606041 : True := trivial
theorem main.tw13402765919934010277 : True := trivial
theorem main.tw10234815189450012239 : True := trivial
theorem main.tw2724176850512262202 : True := trivial
theorem main.tw17477492558424962760 : True := trivial
theorem main.tw17128291446047057950 : True := trivial
theorem main.tw17679725944135375923 : True := trivial
theorem main.tw15270170921892066516 : True := trivial
theorem main.tw6519269512792494810 : True := trivial
theorem main.tw8475525182357872103 : True := trivial
theorem main.tw6508729118710982530 : True := trivial
theorem main.tw2702614204127132176 : True := trivial
theorem main.tw3905226178654972811 : True := trivial
theorem main.tw17510229520200029679 : True := trivial
theorem main.tw14907226015203709474 : True := trivial
theorem main.tw330327031418712150 : True := trivial
theorem main.tw3076701833197740903 : True := trivial
theorem main.tw104360540948158410 : True := trivial
theorem main.tw17403364634526059139 : True := trivial
theorem main.tw11554813239044494598 : True := trivial
theorem main.tw5102693214775723256 : True := trivial
theorem main.tw14635473669698735251 : True := trivial
theorem main.tw3960113756560652017 : True := trivial
theorem main.tw16689149305811164139 : True := trivial
theorem main.tw4749052000479324790 : True := trivial
theorem main.tw12590340796369385619 : True := trivial
theorem main.tw6702130215012162313 : True := trivial
theorem main.tw11982392923317675503 : True := trivial
theorem main.tw6565609875121592624 : True := trivial
theorem main.tw7875838824674609581 : True := trivial
theorem main.tw16923884221124529275 : True := trivial
theorem main.tw8652556701797213591 : True := trivial
theorem main.tw17223442867436993403 : True := trivial
theorem main.tw12455012482086183272 : True := trivial
theorem main.tw6655696309031964122 : True := trivial
theorem main.tw15303317825217679618 : True := trivial
theorem main.tw12839114828313443825 : True := trivial
theorem main.tw16519101796099990279 : True := trivial
theorem main.tw9656510801202774680 : True := trivial
theorem main.tw13676971244355772609 : True := trivial
theorem main.tw18325589031809861271 : True := trivial
theorem main.tw7751025194823839400 : True := trivial
theorem main.tw2544328076492683441 : True := trivial
theorem main.tw9756827057097773860 : True := trivial
theorem main.tw73751810991705359 : True := trivial
theorem main.tw716429049611869786 : True := trivial
theorem main.tw1054321117371714560 : True := trivial
theorem main.tw9976160756891316704 : True := trivial
theorem main.tw48596604365144762 : True := trivial
theorem main.tw4044139247061151142 : True := trivial
theorem main.tw961187720498965250 : True := trivial
theorem main.tw6862492499505807319 : True := trivial
theorem main.tw13219505800766818778 : True := trivial
theorem main.tw18385372292875609552 : True := trivial
theorem main.tw14504180641510445567 : True := trivial
theorem main.tw11987853993630220354 : True := trivial
theorem main.tw15595112118272840620 : True := trivial
theorem main.tw9360745474812902239 : True := trivial
theorem main.tw7411558596216406370 : True := trivial
theorem main.tw10707853282979444102 : True := trivial
theorem main.tw2895952525429962455 : True := trivial
theorem main.tw7093617532817203218 : True := trivial
theorem main.tw11815829001073249272 : True := trivial
theorem main.tw12670839924663504800 : True := trivial
theorem main.tw2759098988195820126 : True := trivial
theorem main.tw14759895335926876869 : True := trivial
theorem main.tw16676564476587882173 : True := trivial
theorem main.tw6418098437765475518 : True := trivial
theorem main.tw4039676971129161736 : True := trivial
theorem main.tw11710404883906591787 : True := trivial
theorem main.tw15514936471743626214 : True := trivial
theorem main.tw33456957511925785 : True := trivial
theorem main.tw6237627108579964202 : True := trivial
theorem main.tw4261964983698606537 : True := trivial
theorem main.tw2566753976717531306 : True := trivial
theorem main.tw1236483940969888574 : True := trivial
theorem main.tw5613160597433933154 : True := trivial
theorem main.tw14909365282108701170 : True := trivial
theorem main.tw4839478117068044826 : True := trivial
theorem main.tw7439787175107056256 : True := trivial
theorem main.tw9730157408454304684 : True := trivial
theorem main.tw17052023290607921161 : True := trivial
theorem main.tw65644731488775911 : True := trivial
theorem main.tw6534093413937185028 : True := trivial
theorem main.tw11003572833241299968 : True := trivial
theorem main.tw3626430660855392483 : True := trivial
theorem main.tw4156125974679941130 : True := trivial
theorem main.tw6788530277367551627 : True := trivial
theorem main.tw16305672181175384284 : True := trivial
theorem main.tw18063282731904131703 : True := trivial
theorem main.tw12702744160499308131 : True := trivial
theorem main.tw16251939892948500945 : True := trivial
theorem main.tw16008252555379753968 : True := trivial
theorem main.tw15136431859952498927 : True := trivial
theorem main.tw10665089971535097683 : True := trivial
theorem main.tw12675357926760492328 : True := trivial
theorem main.tw3532412968194664532 : True := trivial
theorem main.tw13591255225166038476 : True := trivial
theorem main.tw6657087868060814 : True := trivial
theorem main.tw8467378866343419333 : True := trivial
theorem main.tw15079240505294077160 : True := trivial
theorem main.tw16952715711813285254 : True := trivial
theorem main.tw8952462522180670554 : True := trivial
theorem main.tw5363903885879670357 : True := trivial
theorem main.tw16049902774474827687 : True := trivial
theorem main.tw18284262389922463811 : True := trivial
theorem main.tw302440914744352476 : True := trivial
theorem main.tw9903775340124721222 : True := trivial
theorem main.tw10177057350305019805 : True := trivial
theorem main.tw17644181745481072423 : True := trivial
theorem main.tw6674386428176565332 : True := trivial
theorem main.tw18418235949754561950 : True := trivial
theorem main.tw8484041278411425421 : True := trivial
theorem main.tw1453356044741674121 : True := trivial
theorem main.tw2647654807098235363 : True := trivial
theorem main.tw17298425922696826006 : True := trivial
theorem main.tw17972135902276802693 : True := trivial
theorem main.tw3343439749351644125 : True := trivial
theorem main.tw6696893160125735727 : True := trivial
theorem main.tw2195194259037543316 : True := trivial
theorem main.tw17201416709059790184 : True := trivial
theorem main.tw12732289081945773324 : True := trivial
theorem main.tw16193401482309157537 : True := trivial
theorem main.tw2524017781993486291 : True := trivial
theorem main.tw10625486282989778954 : True := trivial
theorem main.tw13293747886898857621 : True := trivial
theorem main.tw6880717277089553138 : True := trivial
theorem main.tw12922252359811988224 : True := trivial
theorem main.tw13113777628852026922 : True := trivial
theorem main.tw13270728482189477470 : True := trivial
theorem main.tw9508770018378322450 : True := trivial
theorem main.tw9190990891756207365 : True := trivial
theorem main.tw2279707942289718827 : True := trivial
theorem main.tw5571399437266216444 : True := trivial
theorem main.tw15465920861327815835 : True := trivial
theorem main.tw12057704586751987240 : True := trivial
theorem main.tw15060185592220127646 : True := trivial
theorem main.tw17272174723667511238 : True := trivial
theorem main.tw5378808338967829844 : True := trivial
theorem main.tw4817600198373253283 : True := trivial
theorem main.tw7235775444256392728 : True := trivial
theorem main.tw1118068078248606362 : True := trivial
theorem main.tw11086099901593105684 : True := trivial
theorem main.tw17737603089517620647 : True := trivial
theorem main.tw10864377008497418100 : True := trivial
theorem main.tw9381277316556691805 : True := trivial
theorem main.tw9840939614602229412 : True := trivial
theorem main.tw387501639795913443 : True := trivial
theorem main.tw11181722664286889309 : True := trivial
theorem main.tw6788695710022549768 : True := trivial
theorem main.tw11403851563620829512 : True := trivial
theorem main.tw15017983477296125989 : True := trivial
theorem main.tw1504049600530537962 : True := trivial
theorem main.tw16959884160788844718 : True := trivial
theorem main.tw7846812961960373227 : True := trivial
theorem main.tw18315214858253571532 : True := trivial
theorem main.tw11487549891475536569 : True := trivial
theorem main.tw8557395850702784662 : True := trivial
theorem main.tw6542085627976250192 : True := trivial
theorem main.tw6541472054586571296 : True := trivial
theorem main.tw15410482203810522393 : True := trivial
theorem main.tw1850612553970854742 : True := trivial
theorem main.tw15580989882048331800 : True := trivial
theorem main.tw13227692790652741651 : True := trivial
theorem main.tw4365514962571936147 : True := trivial
theorem main.tw4038153913678941442 : True := trivial
theorem main.tw10821422270917381399 : True := trivial
theorem main.tw5160751907100791332 : True := trivial
theorem main.tw12077450504624328385 : True := trivial
theorem main.tw2433702464844828792 : True := trivial
theorem main.tw16320729459185622934 : True := trivial
theorem main.tw4333880214566435006 : True := trivial
theorem main.tw1150287232629052791 : True := trivial
theorem main.tw15806524323241146399 : True := trivial
theorem main.tw8079908401900000222 : True := trivial
theorem main.tw14218914174604095658 : True := trivial
theorem main.tw5797031442667253490 : True := trivial
theorem main.tw17974016328880235120 : True := trivial
theorem main.tw16153842264607907944 : True := trivial
theorem main.tw1615045767204293396 : True := trivial
theorem main.tw16046730324260685337 : True := trivial
theorem main.tw3394367416137920725 : True := trivial
theorem main.tw7761410557224570781 : True := trivial
theorem main.tw10825838108423173272 : True := trivial
theorem main.tw15643365686152983790 : True := trivial
theorem main.tw1519927702969063271 : True := trivial
theorem main.tw7153082081811710619 : True := trivial
theorem main.tw2921958311620399285 : True := trivial
theorem main.tw10652863235454686790 : True := trivial
theorem main.tw3234112476842188716 : True := trivial
theorem main.tw2287757881348798766 : True := trivial
theorem main.tw11595355409239048105 : True := trivial
theorem main.tw2190695567426971638 : True := trivial
theorem main.tw18134284020713443437 : True := trivial
theorem main.tw1714950047550659301 : True := trivial
theorem main.tw18442785490491869365 : True := trivial
theorem main.tw7691172733374981047 : True := trivial
theorem main.tw4475767826048309731 : True := trivial
theorem main.tw12205347405646519318 : True := trivial
theorem main.tw8834365191522931223 : True := trivial
theorem main.tw10391951854915411234 : True := trivial
theorem main.tw14788915703135433725 : True := trivial
theorem main.tw6183352029847204284 : True := trivial
theorem main.tw3627144658338631552 : True := trivial
theorem main.tw17402982504261768225 : True := trivial
theorem main.tw1157997071576566072 : True := trivial
theorem main.tw8707812797481193996 : True := trivial
theorem main.tw14009396871252706886 : True := trivial
theorem main.tw14061640607465278742 : True := trivial
theorem main.tw2821470743931037460 : True := trivial
theorem main.tw15768048840197415361 : True := trivial
theorem main.tw6053611964639427726 : True := trivial
theorem main.tw17091655785135471103 : True := trivial
theorem main.tw7514964652732493775 : True := trivial
theorem main.tw2921621734765799159 : True := trivial
theorem main.tw2225956059507018244 : True := trivial
theorem main.tw16411370214107742406 : True := trivial
theorem main.tw11374851513655246148 : True := trivial
theorem main.tw7974275031393228247 : True := trivial
theorem main.tw7332330508316399935 : True := trivial
theorem main.tw8663697691656813868 : True := trivial
theorem main.tw6511744376749373798 : True := trivial
theorem main.tw17725498274588495791 : True := trivial
theorem main.tw15467891735981029475 : True := trivial
theorem main.tw9253799994812790149 : True := trivial
theorem main.tw2906824675625879941 : True := trivial
theorem main.tw832900586485598795 : True := trivial
theorem main.tw5665735395497279834 : True := trivial
theorem main.tw17699438841360665129 : True := trivial
theorem main.tw18392154025008590481 : True := trivial
theorem main.tw3994622017586750766 : True := trivial
theorem main.tw15131278010643852716 : True := trivial
theorem main.tw15342904991969174519 : True := trivial
theorem main.tw15984706205718930553 : True := trivial
theorem main.tw13642826006792871662 : True := trivial
theorem main.tw4681395471914393968 : True := trivial
theorem main.tw12900284412222446716 : True := trivial
theorem main.tw9808303207383738048 : True := trivial
theorem main.tw13772215383292975044 : True := trivial
theorem main.tw6596593509180878263 : True := trivial
theorem main.tw14161005256144132680 : True := trivial
theorem main.tw9682133043923132273 : True := trivial
theorem main.tw4605139254293405059 : True := trivial
theorem main.tw5781596087445459943 : True := trivial
theorem main.tw126361731641787440 : True := trivial
theorem main.tw10663580350406149668 : True := trivial
theorem main.tw14662554035588321541 : True := trivial
theorem main.tw5649967823195072380 : True := trivial
theorem main.tw15485851114877660061 : True := trivial
theorem main.tw14097447854668400296 : True := trivial
theorem main.tw2238316416991798583 : True := trivial
theorem main.tw15554039934745177238 : True := trivial
theorem main.tw5203219222101121401 : True := trivial
theorem main.tw4126091431370883743 : True := trivial
theorem main.tw17767330081159143506 : True := trivial
theorem main.tw4458048076830672230 : True := trivial
theorem main.tw5396361742852586263 : True := trivial
theorem main.tw357486453476387696 : True := trivial

theorem news_lt {h₀ h : Heap} {L : Addr} {news : Led} (N : News h₀ L h news) : ∀ p ∈ news, p.1 < h.objs.size := fun p hp => Heap.lt_size (N p hp).1
theorem three {v : Value} {t1 t2 t3 : Tok} {i : Nat} (h : [Value.int 3 t1, Value.int 77 t2, Value.int (2 ^ Int.toNat 160 - 1) t3][i]? = some v) : ∃ p t, v = .int p t ∧ Pl p ∧ ix p = i ∧ i < 3 := by
  rcases i with _ | _ | _ | i
  · exact ⟨_, _, (Option.some.inj h).symm, .inl rfl, rfl, by omega⟩
  · exact ⟨_, _, (Option.some.inj h).symm, .inr (.inl rfl), by decide, by omega⟩
  · exact ⟨_, _, (Option.some.inj h).symm, .inr (.inr rfl), by decide, by omega⟩
  · cases h
theorem FrameO.at {z i : Nat} {lay lay' : Nat → Addr} {σ σ' : Nat → Obj} (hi : 14 ≤ i) (hz : i < z) (h : FrameO z lay lay' σ σ') : σ' i = σ i := (h i hi hz).2
theorem rng4 {imm : Led} {q : Addr} {d : Nat} {t u v : Tok} (h : (q, rngO (4 + (d : Int)) t u v) ∈ imm) : (q, rngO ((4 + d : Nat) : Int) t u v) ∈ imm := by
  rw [show ((4 + d : Nat) : Int) = 4 + (d : Int) by omega]; exact h
set_option Elab.async true in
theorem main : PySem.Challenge.rw_pq0404_01.Holds := by
  w_on
  o_law
  (o_head (kHook hd.heap_1 [2, 3, 15, 17, 18, 20, 21, 29, 31, 32, 34, 35, 36, 37, 38, 39, 40, 43, 45, 46, 48, 49, 50, 52, 53, 55, 56, 57, 59, 60, 62, 63, 71, 73, 74, 76, 77, 78, 79, 80, 81, 82, 85, 87, 88, 90, 91, 92, 94, 95, 97, 98, 106, 108, 109, 111, 112, 113, 115, 116, 118, 119, 120, 122, 123, 125, 126, 127, 129, 130, 132, 133, 134, 136, 137, 139, 140, 141, 143, 144, 146, 147, 148, 150, 151, 153, 154, 155, 157, 158, 160, 161, 162, 164, 165, 167, 168, 169, 171, 172, 174, 175, 176, 178, 179, 181, 182, 183, 185, 186, 188, 189, 190, 192, 193, 195, 196, 197, 199, 200, 202, 203, 204, 206, 207, 209, 210, 211, 213, 214, 216, 217, 218, 220, 221, 223, 224, 225, 227, 228, 230, 231, 232, 234, 235, 237, 238, 239, 241, 242, 244, 245, 246, 248, 249, 251, 252, 253, 255, 256, 258, 259, 260, 262, 263, 265, 266, 267, 269, 270, 272, 273, 274, 276, 277, 279, 280, 281, 283, 284, 286, 287, 288, 290, 291, 293, 294, 295, 297, 298, 300, 301, 302, 304, 305, 307, 308, 309, 311, 312, 314, 315, 316, 318, 319, 321, 322, 323, 324, 325, 326, 327, 330, 332, 333, 335, 336, 337, 339, 340, 342, 343, 344, 346, 347, 349, 350, 351, 353, 354, 356, 357, 358, 360, 361, 363, 364, 365, 367, 368, 370, 371, 372, 374, 375, 377, 378, 379, 381, 382, 384, 385, 386, 387, 389, 390, 392, 393, 394, 397, 398, 399, 401, 402, 404, 405, 406, 408, 409, 411, 412, 413, 415, 416, 418, 419, 420, 422, 423, 425, 426, 427, 429, 430, 432, 433, 434, 436, 437, 439, 440, 441, 443, 444, 446, 447, 448, 450, 451, 453, 454, 455, 457, 458, 460, 461, 462, 464, 465, 467, 468] (fun _ => by kernel_rfl)))
  (case hw => w_witness2)
  w_strict (k_go0; (all_goals try k_fold); k_steps; (
    rename_i d0 h0' o0 F0 N0 lo0 hd0 l0 h1 o1 F1 N1 lo1 hs1 fs1 hi1 fi1 ne1
    have l2 := news_lt N0
    dsimp only at N1 lo1 ne1 F1 ⊢
    generalize h0'.objs.size = dw at N1 lo1 ne1 l2 ⊢
    k_lt l2
    clear ne1
    k_steps
    rename News _ _ _ _ => N9
    have K := init_all _ N9 ⟨by first | assumption | exact And.left (by assumption) | omega, by first | assumption | exact And.left (by assumption) | omega, by first | assumption | exact And.left (by assumption) | omega, by first | assumption | exact And.left (by assumption) | omega, by first | assumption | exact And.left (by assumption) | omega, by first | assumption | exact And.left (by assumption) | omega, by first | assumption | exact And.left (by assumption) | omega, by first | assumption | exact And.left (by assumption) | omega, by first | assumption | exact And.left (by assumption) | omega, by first | assumption | exact And.left (by assumption) | omega, by first | assumption | exact And.left (by assumption) | omega, by first | assumption | exact And.left (by assumption) | omega, by first | assumption | exact And.left (by assumption) | omega, by first | assumption | exact And.left (by assumption) | omega, by first | assumption | exact And.left (by assumption) | omega, by first | assumption | exact And.left (by assumption) | omega, by first | assumption | exact And.left (by assumption) | omega⟩ (by assumption) (by assumption) (by assumption)
    clear N9
    refine ex6 K ?_
    intro hs ts lay σ imm news hK
    refine and12 hK ?_
    intro N8 S8 I8 m8 c0 c2 c3 c10 c12 b7 b8 b9
    clear K hK
    k_dflt refine iter_tuple_Z (vs := [_, _, _]) (by exact rfl) (by k_asm) N8 S8 m8 (fun m₀ i m' lay' σ' imm' => (∀ y, y ≠ Str.ofString "law_place" → m' y = m₀ y) ∧ i ≤ 3 ∧ JM _ _ hs ts _ _ lay σ lay' σ' imm' i) ⟨fun _ _ => rfl, by omega, JM.zero I8⟩ ?_ ?_ ?_
    · intro i m' la sg im q o hJ
      exact ⟨hJ.1, hJ.2.1, hJ.2.2.more hJ.2.1 (Nat.le_refl _) q o⟩
    · intro i v m₁ lay₁ σ₁ imm₁ news₁ h1 tk1 hv
      apply exV (three hv)
      intro p tp hq U1 hJ F1 N1 S1 G hG
      have hp := hq.1
      have hx := hq.2.1
      have hi := hq.2.2
      have F2 := fr_congr hJ.1 F1
      have hold := hJ.2.2.old
      have hrest := hJ.2.2.rest
      refine ex4 hJ.2.2.im ?_
      intro acc accd jv jn hK
      refine and3 hK ?_
      intro I1 lj hacc
      clear hJ hK hq
      have hA : (fun p => if Pl p ∧ ix p < i then some (Value.ref (acc (ix p))) else none) p = none := if_neg (fun h => absurd h.2 (by omega))
      have hT : (fun p => decide (Pl p ∧ ix p < i)) p = false := decide_eq_false (fun h => absurd h.2 (by omega))
      clear F1 N8 S8 I8 hv
      k_steps
      rename Sys _ _ _ _ _ => S5
      refine ex4 zP ?_
      intro jv5 jn5 x5 d5 hK
      refine and7 hK ?_
      intro I5 lj5 mx5 md5 ho5 mo5 fr5
      clear hK zP
      refine hG _ _ ?_
      refine FStep.intro (by k_asm) (by k_asm) S5 (fr5 15 (by omega) (by have := ix_lt p; omega)).1 ((fr5 15 (by omega) (by have := ix_lt p; omega)).2 (by omega) (by decide) (by decide)) ?su ⟨?_, by omega, JM.step (z := 16) (jn := jn) hi hp hx ?su2 lj hacc hold hrest I5 lj5 mx5 md5 ho5 mo5 fr5 (Nat.le_succ 15)⟩
      case su => tb_start
      case su2 => tb_start
      intro y h1
      simp only [if_neg h1]
    · intro m₁ lay₁ σ₁ imm₁ news₁ h1 tk1 U1 hJ F1 N1 S1
      have F2 := fr_congr2 hJ.1 F1
      have J3 : JM _ _ hs ts _ _ lay σ lay₁ σ₁ imm₁ 3 := hJ.2.2
      refine ex2 (J3.done S1 c0.1 (S8.lo 0 (Nat.zero_lt_succ 13)) (by rw [c0.2]; assumption) (by rw [b7]; assumption) (by rw [b8]; assumption) (by rw [b9]; assumption)) ?_
      intro ax imm2 hK
      refine and3 hK ?_
      intro su2 S2 R2
      have m2 := J3.old 2 (by omega)
      rw [c2.1, c2.2] at m2
      rename Obj.IsDictOf _ _ (strPairs [_, _]) => hdF
      rename Obj.IsDictOf _ _ (strPairs [_]) => hdB
      have C2 := (J3.feed (by omega) c3.1 c3.2 m2 hdF (by assumption) (by rw [List.length_take]; omega)).mono su2.sub (Nat.le_refl _)
      have B2 := (J3.book (by omega) c10.1 c10.2 c12.1 c12.2 hdB hi1).mono su2.sub (Nat.le_refl _)
      have hX : ∃ fx cells x cur, StRep _ _ ax lay₁ σ₁ imm2 x 15 ∧ BRep0 _ _ lay₁ σ₁ imm2 cur 15 ∧ FRep _ _ fx lay₁ σ₁ imm2 cells 15 ∧ ∀ p k, x.c.cur p k = (cur p k).getD 0 := ⟨_, _, _, _, R2, B2, C2, fun _ _ => rfl⟩
      clear hJ hK J3 S1 R2 B2 C2 F1 hdF hdB m2 N8 S8 I8 m8 c0 c2 c3 c10 c12 b7 b8 b9 hi1 fi1 fs1 hs1
      refine ex4 hX ?_
      intro fx cells x2 cur2 hK
      refine and4 hK ?_
      intro R3 B3 C3 hc3
      clear hX hK
      k_steps
      rename StRep _ _ _ _ _ _ _ _ => R9
      rename BRep0 _ _ _ _ _ _ _ => B9
      rename FRep _ _ _ _ _ _ _ _ => C9
      rename Sys _ _ _ _ _ => S9
      k_dflt refine iter_range_Z (by exact rfl) (by omega) (by k_asm) (by k_asm) S9 (List.Mem.head _) (fun m₀ i m' lay' σ' imm' => (∀ y, y ≠ Str.ofString "turn" → y ≠ Str.ofString "spot" → y ≠ Str.ofString "spot" → m' y = m₀ y) ∧ ∃ ax x cur, StRep _ _ ax lay' σ' imm' x (16 + 10 * i) ∧ BRep0 _ _ lay' σ' imm' cur (16 + 10 * i) ∧ FRep _ _ fx lay' σ' imm' cells (16 + 10 * i) ∧ ∀ p k, x.c.cur p k = (cur p k).getD 0) ⟨fun _ _ _ _ => rfl, ax, x2, cur2, R9.mono (fun _ h => h) (by omega), B9.mono (fun _ h => h) (by omega), C9, hc3⟩ ?_ ?_ ?_
      · intro i m' la sg im q o hJ
        exact ⟨hJ.1, ex3 hJ.2 fun ax' x' cur' h => ⟨ax', x', cur', h.1.more (Nat.le_refl _) q o, h.2.1.more (Nat.le_refl _) q o, h.2.2.1.more (Nat.le_refl _) q o, h.2.2.2⟩⟩
      · intro i tv m₂ lay₂ σ₂ imm₂ news₂ h2 tk2 hi U2 hJ F3 N3 S4 G hG
        refine ex3 hJ.2 ?_
        intro ax' x' cur' hK
        refine and4 hK ?_
        intro R4 B4 C4 hc4
        have F4 := fr_l3 hJ.1 F3
        clear F3 S9 R9 B9 C9 hJ hK
        k_steps
        rename StRep _ _ _ _ _ _ _ _ => R5
        rename BRep0 _ _ _ _ _ _ _ => B5
        rename FRep _ _ _ _ _ _ _ _ => C5
        rename Sys _ _ _ _ _ => S5
        refine hG _ _ ?_
        refine FStep.intro (by k_asm) (by k_asm) S5 rfl ?e2 ?su ⟨?_, _, _, _, R5.mono (fun _ h => h) (by omega), B5.mono (fun _ h => h) (by omega), C5.mono (fun _ h => h) (by omega), cur_set hc4 _ _ _⟩
        case su => tb_start
        case e2 => refine FrameO.at (lay := lay₂) (lay' := lay₂) (Nat.le_refl 14) (Nat.lt_succ_self 14) ?_; kwd_inv
        intro y h1 h2 _
        simp only [if_neg h1, if_neg h2]
      · intro m₂ lay₂ σ₂ imm₂ news₂ h2 tk2 U2 hJ F3 N3 S4
        refine ex3 hJ.2 ?_
        intro ax' x' cur' hK
        refine and4 hK ?_
        intro R4 B4 C4 hc4
        have F4 := fr_l3' hJ.1 F3
        clear F3 S9 R9 B9 C9 hJ hK
        k_steps
        rename LRep _ _ _ _ _ _ _ _ _ _ => L9
        rename Sys _ _ _ _ _ => S9
        have hd9 := ‹(_ : Int) < 13›
        k_dflt refine iter_range_Z (by exact rfl) (by omega) (by k_asm) (by k_asm) S9 (rng4 (List.Mem.head _)) (fun m₀ i m' lay' σ' imm' => (∀ y, y ≠ Str.ofString "turn" → m' y = m₀ y) ∧ LRep _ _ _ _ cells lay' σ' imm' (1000 * (i + 1)) (20 * (i + 1))) ⟨fun _ _ => rfl, L9.mono (fun _ h => h) (by omega) (by omega)⟩ ?_ ?_ ?_
        · intro i m' la sg im q o hJ
          exact ⟨hJ.1, hJ.2.more (Nat.le_refl _) q o⟩
        · intro i tv m₃ lay₃ σ₃ imm₃ news₃ h3 tk3 hi U3 hJ F5 N5 S5 G hG
          have L3 := hJ.2
          have F6 := fr_congr hJ.1 F5
          clear F5 S9 L9 hJ
          k_steps
          rename LRep _ _ _ _ _ _ _ _ _ _ => L4
          rename Sys _ _ _ _ _ => S6
          rename FrameO _ _ _ _ _ => fo6
          refine hG _ _ ?_
          refine FStep.intro (by k_asm) (by k_asm) S6 (fo6 14 (Nat.le_refl 14) (Nat.lt_succ_self 14)).1 (fo6 14 (Nat.le_refl 14) (Nat.lt_succ_self 14)).2 ?su ⟨?_, L4.mono (fun _ h => h) (by omega) (by omega)⟩
          case su => tb_start
          intro y h1
          simp only [if_neg h1]
        · intro m₃ lay₃ σ₃ imm₃ news₃ h3 tk3 U3 hJ F5 N5 S5
          have L3 := hJ.2
          have F6 := fr_congr2 hJ.1 F5
          clear F5 S9 L9 hJ
          k_steps))

end Mine
theorem PySem.Challenge.cw_pq0404_01_holds : PySem.Challenge.rw_pq0404_01.Holds := by
  exact Mine.main
