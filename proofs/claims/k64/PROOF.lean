import PyProof.Rows.All
import Wide.All
import OpenK.AllK
import Wide.FinOn
import HandS.ForMost
import KE.KStateDown
import HandS.Defaults
import HandS.Property
import HandS.Head0
import HandS.Head1
import HandS.Head2
import HandS.HeadEnd
import HandS.HeadHook1
import HandS.HeadHook2
import HandS.HeadNt
import HandS.Wide
import HandS.WideMore
import HandS.Style
import HandS.More
import HandS.Conv
import HandS.Comp
import HandS.Iter
import HandS.Zip
import HandS.Flow
import HandS.IsInst
import HandS.FStr
import HandS.ClsMeth
import HandS.Star
import HandS.NoneIn
import HandS.TupAny
import HandS.GenBody
import HandS.GenYield
import HandS.GenCall
import HandS.GenList
import HandS.Evl
import HandS.Walk
import KE.GoesEnum
import KE.KTupSum
import HandS.CallLocal
import KE.KCallOwn
import KE.KFmtOwn
import KE.KUnpackStar
import KE.GoesMore
import KE.GoesZip
import KE.KDictZip
import HandS.RevTup
import PyProof.ReprLen
import PySem.Challenge.RW_blockturns_k64_whole_walks
section
/-! plain law: the shortening of an exchange (Rauzy induction), words as trees -/
namespace Rz

/-- k steps of T -/
def it (T : Int → Int) : Nat → Int → Int
  | 0, p => p
  | k + 1, p => it T k (T p)
theorem it_add (T : Int → Int) : ∀ (a b : Nat) (p : Int), it T (a + b) p = it T b (it T a p)
  | 0, b, p => by rw [Nat.zero_add]; rfl
  | a + 1, b, p => by
    rw [show a + 1 + b = (a + b) + 1 by omega]
    show it T (a + b) (T p) = it T b (it T a (T p))
    exact it_add T a b (T p)
theorem it_succ (T : Int → Int) (k : Nat) (p : Int) : it T (k + 1) p = T (it T k p) := it_add T k 1 p
theorem it_one (T : Int → Int) (p : Int) : it T 1 p = T p := rfl

/-- a word: one step, two words in a row, a word several times -/
inductive Tr where
  | blk (d : Int)
  | two (a b : Tr)
  | tim (a : Tr) (m : Nat)
def Tr.size : Tr → Nat
  | .blk _ => 1
  | .two a b => a.size + b.size
  | .tim a m => a.size * m
def Tr.drift : Tr → Int
  | .blk d => d
  | .two a b => a.drift + b.drift
  | .tim a m => a.drift * (m : Int)
/-- how far one is after j steps, j below the size -/
def Tr.off : Tr → Nat → Int
  | .blk _, _ => 0
  | .two a b, j => if a.size ≤ j then a.drift + b.off (j - a.size) else a.off j
  | .tim a _, j => ((j / a.size : Nat) : Int) * a.drift + a.off (j % a.size)

/-- from q the word t says the way, and comes below e only at its end -/
structure Wd (T : Int → Int) (e : Int) (t : Tr) (q : Int) : Prop where
  pos : 0 < t.size
  land : it T t.size q = q + t.drift
  at_ : ∀ j, j < t.size → it T j q = q + t.off j
  up : ∀ j, 0 < j → j < t.size → e ≤ it T j q

theorem Wd.mono {T e e' t q} (h : Wd T e t q) (he : e' ≤ e) : Wd T e' t q :=
  ⟨h.pos, h.land, h.at_, fun j h0 h1 => Int.le_trans he (h.up j h0 h1)⟩

theorem Wd.blk {T : Int → Int} {e d q : Int} (h : T q = q + d) : Wd T e (.blk d) q :=
  ⟨Nat.one_pos, h, fun j hj => by
    have hj' : j < 1 := hj
    have : j = 0 := by omega
    subst this
    show q = q + 0
    omega, fun j h0 h1 => by
    have h1' : j < 1 := h1
    omega⟩

theorem Wd.two {T : Int → Int} {e q : Int} {a b : Tr} (ha : Wd T e a q) (hb : Wd T e b (q + a.drift)) (hl : e ≤ q + a.drift) : Wd T e (.two a b) q := by
  refine ⟨Nat.lt_of_lt_of_le ha.pos (Nat.le_add_right _ _), ?_, fun j hj => ?_, fun j h0 hj => ?_⟩
  · show it T (a.size + b.size) q = q + (a.drift + b.drift)
    rw [it_add, ha.land, hb.land]; omega
  · show it T j q = q + (if a.size ≤ j then a.drift + b.off (j - a.size) else a.off j)
    have hj' : j < a.size + b.size := hj
    by_cases h : a.size ≤ j
    · rw [if_pos h]
      have e1 : j = a.size + (j - a.size) := by omega
      have e2 := hb.at_ (j - a.size) (by omega)
      rw [← ha.land, ← it_add, ← e1, ha.land] at e2
      omega
    · rw [if_neg h]
      exact ha.at_ j (by omega)
  · have hj' : j < a.size + b.size := hj
    by_cases h : a.size ≤ j
    · have e1 : j = a.size + (j - a.size) := by omega
      rw [e1, it_add, ha.land]
      by_cases h2 : j - a.size = 0
      · rw [h2]; exact hl
      · exact hb.up _ (by omega) (by omega)
    · exact ha.up j h0 (by omega)

theorem it_mul {T : Int → Int} {a : Tr} {q e : Int} : ∀ (k : Nat), (∀ i : Nat, i < k → Wd T e a (q + (i : Int) * a.drift)) → it T (a.size * k) q = q + (k : Int) * a.drift
  | 0, _ => by simp [it]
  | k + 1, h => by
    have ih := it_mul k fun i hi => h i (by omega)
    rw [show a.size * (k + 1) = a.size * k + a.size from Nat.mul_succ _ _, it_add, ih, (h k (by omega)).land]
    have : ((k + 1 : Nat) : Int) * a.drift = (k : Int) * a.drift + a.drift := by
      rw [show ((k + 1 : Nat) : Int) = (k : Int) + 1 from rfl, Int.add_mul, Int.one_mul]
    omega
theorem Wd.tim {T : Int → Int} {e q : Int} {a : Tr} {m : Nat} (hm : 0 < m) (h : ∀ i : Nat, i < m → Wd T e a (q + (i : Int) * a.drift)) (hl : ∀ i : Nat, 0 < i → i < m → e ≤ q + (i : Int) * a.drift) : Wd T e (.tim a m) q := by
  have hp : 0 < a.size := (h 0 hm).pos
  have split : ∀ j, j < a.size * m → j / a.size < m ∧ it T j q = it T (j % a.size) (q + ((j / a.size : Nat) : Int) * a.drift) := fun j hj => by
    have h1 : j / a.size < m := Nat.div_lt_of_lt_mul hj
    refine ⟨h1, ?_⟩
    rw [← it_mul (T := T) (e := e) (j / a.size) (fun i hi => h i (by omega)), ← it_add]
    congr 1
    rw [Nat.div_add_mod]
  refine ⟨Nat.mul_pos hp hm, ?_, fun j hj => ?_, fun j h0 hj => ?_⟩
  · show it T (a.size * m) q = q + a.drift * (m : Int)
    rw [it_mul m h, Int.mul_comm]
  · obtain ⟨h1, h2⟩ := split j hj
    show it T j q = q + (((j / a.size : Nat) : Int) * a.drift + a.off (j % a.size))
    rw [h2, (h _ h1).at_ _ (Nat.mod_lt _ hp)]
    omega
  · obtain ⟨h1, h2⟩ := split j hj
    rw [h2]
    by_cases hz : j % a.size = 0
    · rw [hz]
      have hj0 : 0 < j / a.size := by
        rcases Nat.eq_zero_or_pos (j / a.size) with z | z
        · have := Nat.div_add_mod j a.size
          rw [z, hz] at this
          omega
        · exact z
      exact hl _ hj0 h1
    · exact (h _ h1).up _ (by omega) (Nat.mod_lt _ hp)

/-! ### rows -/
section
variable (L : Nat → Int)
def tot : List Nat → Int
  | [] => 0
  | x :: r => L x + tot r
/-- where x begins in a row -/
def pre : List Nat → Nat → Int
  | [], _ => 0
  | y :: r, x => if y = x then 0 else L y + pre r x
end
theorem tot_append (L : Nat → Int) : ∀ a b, tot L (a ++ b) = tot L a + tot L b
  | [], b => by show _ = 0 + _; rw [Int.zero_add]; rfl
  | x :: a, b => by
    show L x + tot L (a ++ b) = L x + tot L a + tot L b
    rw [tot_append L a b]; omega
theorem pre_mem (L : Nat → Int) : ∀ (a b : List Nat) (x : Nat), x ∈ a → pre L (a ++ b) x = pre L a x
  | [], _, _, h => by simp at h
  | y :: a, b, x, h => by
    show (if y = x then 0 else L y + pre L (a ++ b) x) = if y = x then 0 else L y + pre L a x
    by_cases e : y = x
    · rw [if_pos e, if_pos e]
    · rw [if_neg e, if_neg e, pre_mem L a b x (by
        rcases List.mem_cons.mp h with z | z
        · exact absurd z.symm e
        · exact z)]
theorem pre_not (L : Nat → Int) : ∀ (a b : List Nat) (x : Nat), x ∉ a → pre L (a ++ b) x = tot L a + pre L b x
  | [], b, x, _ => by show pre L b x = 0 + _; omega
  | y :: a, b, x, h => by
    show (if y = x then 0 else L y + pre L (a ++ b) x) = L y + tot L a + pre L b x
    rw [if_neg (fun e => h (by rw [e]; exact List.mem_cons_self)), pre_not L a b x (fun z => h (List.mem_cons_of_mem _ z))]
    omega
theorem pre_self (L : Nat → Int) (x : Nat) (r : List Nat) : pre L (x :: r) x = 0 := if_pos rfl
theorem pre_other (L : Nat → Int) {x y : Nat} (r : List Nat) (h : y ≠ x) : pre L (y :: r) x = L y + pre L r x := if_neg h
theorem pre_congr {L L' : Nat → Int} : ∀ (r : List Nat) (x : Nat), (∀ y ∈ r, y ≠ x → L y = L' y) → pre L r x = pre L' r x
  | [], _, _ => rfl
  | y :: r, x, h => by
    show (if y = x then 0 else L y + pre L r x) = if y = x then 0 else L' y + pre L' r x
    by_cases e : y = x
    · rw [if_pos e, if_pos e]
    · rw [if_neg e, if_neg e, h y List.mem_cons_self e, pre_congr r x fun z hz => h z (List.mem_cons_of_mem _ hz)]
theorem tot_congr {L L' : Nat → Int} : ∀ (r : List Nat), (∀ y ∈ r, L y = L' y) → tot L r = tot L' r
  | [], _ => rfl
  | y :: r, h => by
    show L y + tot L r = L' y + tot L' r
    rw [h y List.mem_cons_self, tot_congr r fun z hz => h z (List.mem_cons_of_mem _ hz)]
theorem tot_nn {L : Nat → Int} : ∀ (r : List Nat), (∀ y ∈ r, 1 ≤ L y) → 0 ≤ tot L r
  | [], _ => Int.le_refl _
  | y :: r, h => by
    have h1 := h y List.mem_cons_self
    have h2 := tot_nn r fun z hz => h z (List.mem_cons_of_mem _ hz)
    show 0 ≤ L y + tot L r
    omega
theorem pre_nn {L : Nat → Int} : ∀ (r : List Nat) (x : Nat), (∀ y ∈ r, 1 ≤ L y) → 0 ≤ pre L r x
  | [], _, _ => Int.le_refl _
  | y :: r, x, h => by
    show 0 ≤ if y = x then 0 else L y + pre L r x
    by_cases e : y = x
    · rw [if_pos e]; exact Int.le_refl _
    · rw [if_neg e]
      have h1 := h y List.mem_cons_self
      have h2 := pre_nn r x fun z hz => h z (List.mem_cons_of_mem _ hz)
      omega
theorem pre_le {L : Nat → Int} : ∀ (r : List Nat) (x : Nat), (∀ y ∈ r, 1 ≤ L y) → x ∈ r → pre L r x + L x ≤ tot L r
  | [], _, _, h => by simp at h
  | y :: r, x, h, hx => by
    show (if y = x then 0 else L y + pre L r x) + L x ≤ L y + tot L r
    have h2 := tot_nn r fun z hz => h z (List.mem_cons_of_mem _ hz)
    by_cases e : y = x
    · rw [if_pos e, e]; omega
    · rw [if_neg e]
      have h1 := pre_le r x (fun z hz => h z (List.mem_cons_of_mem _ hz)) (by
        rcases List.mem_cons.mp hx with z | z
        · exact absurd z.symm e
        · exact z)
      omega
/-- two pieces of a row stand apart -/
theorem pre_apart {L : Nat → Int} : ∀ (r : List Nat) (x y : Nat), (∀ z ∈ r, 1 ≤ L z) → x ∈ r → y ∈ r → x ≠ y → pre L r x + L x ≤ pre L r y ∨ pre L r y + L y ≤ pre L r x
  | [], _, _, _, h, _, _ => by simp at h
  | z :: r, x, y, h, hx, hy, ne => by
    have hr := fun u hu => h u (List.mem_cons_of_mem z hu)
    by_cases e : z = x
    · subst e
      left
      rw [pre_self, pre_other L r ne]
      have := pre_nn r y hr
      omega
    · by_cases e2 : z = y
      · subst e2
        right
        rw [pre_self, pre_other L r e]
        have := pre_nn r x hr
        omega
      · rw [pre_other L r e, pre_other L r e2]
        have hx' : x ∈ r := by
          rcases List.mem_cons.mp hx with q | q
          · exact absurd q.symm e
          · exact q
        have hy' : y ∈ r := by
          rcases List.mem_cons.mp hy with q | q
          · exact absurd q.symm e2
          · exact q
        rcases pre_apart r x y hr hx' hy' ne with q | q
        · left; omega
        · right; omega
/-- each place of a row lies in a piece -/
theorem pre_find {L : Nat → Int} : ∀ (r : List Nat) (p : Int), r.Nodup → (∀ z ∈ r, 1 ≤ L z) → 0 ≤ p → p < tot L r → ∃ x, x ∈ r ∧ pre L r x ≤ p ∧ p < pre L r x + L x
  | [], p, _, _, h0, h1 => by
    have h1' : p < 0 := h1
    omega
  | y :: r, p, nd, h, h0, h1 => by
    have hr := fun u hu => h u (List.mem_cons_of_mem y hu)
    by_cases c : p < L y
    · exact ⟨y, List.mem_cons_self, by rw [pre_self]; exact h0, by rw [pre_self]; omega⟩
    · have h1' : p < L y + tot L r := h1
      obtain ⟨x, hx, a, b⟩ := pre_find r (p - L y) (List.nodup_cons.mp nd).2 hr (by omega) (by omega)
      have ne : y ≠ x := fun e => (List.nodup_cons.mp nd).1 (by rw [e]; exact hx)
      exact ⟨x, List.mem_cons_of_mem _ hx, by rw [pre_other L r ne]; omega, by rw [pre_other L r ne]; omega⟩
end Rz
end
section
namespace Rz

/-! ### nodes, records, the state -/
structure Nd where
  kind : Nat
  one : Nat
  other : Nat
  size : Nat
  drift : Int
structure Stg where
  fin : Int
  stop : Int
  total : Int
  size : Nat
  pieces : List (Int × Int × Nat)
inductive Rc where
  | st (g : Stg)
  | bd (b w : Int) (i : Nat)
structure St where
  nodes : List Nd
  recs : List Rc
  left : List Int
  upper : List Nat
  lower : List Nat
  fin : Int
  tales : List Nat

def nd0 : Nd := ⟨0, 0, 0, 0, 0⟩
def St.L (s : St) (x : Nat) : Int := s.left.getD x 0
def St.tale (s : St) (x : Nat) : Nat := s.tales.getD x 0
def St.sz (s : St) (i : Nat) : Nat := (s.nodes.getD i nd0).size
def St.dr (s : St) (i : Nat) : Int := (s.nodes.getD i nd0).drift
def St.add (s : St) (d : Nd) : St := { s with nodes := s.nodes ++ [d] }
def St.two (s : St) (a b : Nat) : St := s.add ⟨1, a, b, s.sz a + s.sz b, s.dr a + s.dr b⟩
def St.tim (s : St) (a m : Nat) : St := if m = 1 then s else s.add ⟨2, a, m, s.sz a * m, s.dr a * (m : Int)⟩
def St.timI (s : St) (a m : Nat) : Nat := if m = 1 then a else s.nodes.length
def St.shown (s : St) (ps : List Nat) : List (Int × Int × Nat) := ps.map fun x => (pre s.L s.upper x, pre s.L s.lower x - pre s.L s.upper x, s.sz (s.tale x))
def St.stage (s : St) (stop total : Int) (size : Nat) (ps : List Nat) : St := { s with recs := s.recs ++ [.st ⟨s.fin, stop, total, size, s.shown ps⟩], fin := stop }
/-- behind the tale of x the word b -/
def St.after (b : Nat) (s : St) (x : Nat) : St := { s.two (s.tale x) b with tales := s.tales.set x s.nodes.length }
/-- ahead of the tale of x the word b -/
def St.ahead (b : Nat) (s : St) (x : Nat) : St := { s.two b (s.tale x) with tales := s.tales.set x s.nodes.length }
def St.cut (s : St) (x : Nat) (d : Int) : St := { s with left := s.left.set x (s.L x - d) }

def St.lastU (s : St) : Nat := s.upper.getD (s.upper.length - 1) 0
def St.lastL (s : St) : Nat := s.lower.getD (s.lower.length - 1) 0
def upW (s : St) (w : Nat) : St :=
  let spot := s.lower.idxOf w + 1
  let ls := s.lower.drop spot
  let total := tot s.L ls
  let many := (s.L w - 1) / total
  let s1 : St := if many = 0 then { s with lower := s.lower.dropLast.insertIdx spot s.lastL } else s
  let ls1 := if many = 0 then ls.drop (ls.length - 1) else ls
  let k := if many = 0 then 1 else many.toNat
  let loss := tot s.L ls1 * (k : Int)
  let s2 := s1.stage (s1.fin - loss) total (s1.sz (s.tale w)) []
  let more := s2.timI (s.tale w) k
  let s3 := s2.tim (s.tale w) k
  let s4 := ls1.foldl (St.after more) s3
  s4.cut w loss
def loW (s : St) (w : Nat) : St :=
  let spot := s.upper.idxOf w + 1
  let ls := s.upper.drop spot
  let total := tot s.L ls
  let many := (s.L w - 1) / total
  let ls1 := if many = 0 then ls.drop (ls.length - 1) else ls
  let k := if many = 0 then 1 else many.toNat
  let loss := tot s.L ls1 * (k : Int)
  let s1 := s.stage (s.fin - loss) total (s.sz (s.tale w)) ls
  let s2 : St := if many = 0 then { s1 with upper := s1.upper.dropLast.insertIdx spot s1.lastU } else s1
  let more := s2.timI (s.tale w) k
  let s3 := s2.tim (s.tale w) k
  let s4 := ls1.foldl (St.ahead more) s3
  s4.cut w loss
/-- both last pieces are one: a band -/
def bnd (s : St) (o : Nat) : St :=
  { s with recs := s.recs ++ [.bd (s.fin - s.L o) (s.L o) (s.tale o)], fin := s.fin - s.L o, upper := s.upper.dropLast, lower := s.lower.dropLast }
/-- both are equally long -/
def eqW (s : St) (a b : Nat) : St :=
  let s1 := s.stage (s.fin - s.L a) (s.L a) 0 [a]
  let s2 := St.after (s1.tale a) s1 b
  { s2 with upper := s2.upper.dropLast, lower := s2.lower.dropLast.set (s2.lower.dropLast.idxOf a) b }
def shorten (s : St) : St :=
  let a := s.lastU
  let b := s.lastL
  if a = b then bnd s a
  else if s.L a = s.L b then eqW s a b
  else if s.L b < s.L a then upW s a
  else loW s b

/-! ### trees of nodes -/
inductive IsT (ns : List Nd) : Nat → Tr → Prop where
  | blk {i b : Nat} {d : Int} : ns[i]? = some ⟨0, b, 0, 1, d⟩ → IsT ns i (.blk d)
  | two {i a b : Nat} {x y : Tr} : ns[i]? = some ⟨1, a, b, x.size + y.size, x.drift + y.drift⟩ → IsT ns a x → IsT ns b y → IsT ns i (.two x y)
  | tim {i a m : Nat} {x : Tr} : ns[i]? = some ⟨2, a, m, x.size * m, x.drift * (m : Int)⟩ → IsT ns a x → IsT ns i (.tim x m)
theorem get_app {ns : List Nd} {i : Nat} {d : Nd} (r : List Nd) (h : ns[i]? = some d) : (ns ++ r)[i]? = some d := by
  rw [List.getElem?_append_left (List.getElem?_eq_some_iff.mp h).1]; exact h
theorem IsT.app {ns : List Nd} (r : List Nd) {i : Nat} {t : Tr} (h : IsT ns i t) : IsT (ns ++ r) i t := by
  induction h with
  | blk e => exact .blk (get_app r e)
  | two e _ _ h1 h2 => exact .two (get_app r e) h1 h2
  | tim e _ h1 => exact .tim (get_app r e) h1
theorem IsT.at {ns : List Nd} {i : Nat} {t : Tr} (h : IsT ns i t) : ∃ k a b, ns[i]? = some ⟨k, a, b, t.size, t.drift⟩ := by
  cases h with
  | blk e => exact ⟨_, _, _, e⟩
  | two e _ _ => exact ⟨_, _, _, e⟩
  | tim e _ => exact ⟨_, _, _, e⟩
theorem IsT.lt {ns : List Nd} {i : Nat} {t : Tr} (h : IsT ns i t) : i < ns.length := by
  obtain ⟨k, a, b, e⟩ := h.at
  exact (List.getElem?_eq_some_iff.mp e).1
theorem IsT.sz {s : St} {i : Nat} {t : Tr} (h : IsT s.nodes i t) : s.sz i = t.size := by
  obtain ⟨k, a, b, e⟩ := h.at
  unfold St.sz
  rw [List.getD_eq_getElem?_getD, e]; rfl
theorem IsT.dr {s : St} {i : Nat} {t : Tr} (h : IsT s.nodes i t) : s.dr i = t.drift := by
  obtain ⟨k, a, b, e⟩ := h.at
  unfold St.dr
  rw [List.getD_eq_getElem?_getD, e]; rfl
theorem IsT.mkTwo {s : St} {a b : Nat} {x y : Tr} (ha : IsT s.nodes a x) (hb : IsT s.nodes b y) : IsT (s.two a b).nodes s.nodes.length (.two x y) := by
  show IsT (s.nodes ++ [⟨1, a, b, s.sz a + s.sz b, s.dr a + s.dr b⟩]) _ _
  refine .two (a := a) (b := b) ?_ (ha.app _) (hb.app _)
  rw [List.getElem?_append_right (Nat.le_refl _), Nat.sub_self, ha.sz, hb.sz, ha.dr, hb.dr]
  rfl
/-- the word that stands for a word k times -/
def timT (t : Tr) (k : Nat) : Tr := if k = 1 then t else .tim t k
theorem IsT.mkTim {s : St} {a k : Nat} {x : Tr} (ha : IsT s.nodes a x) : IsT (s.tim a k).nodes (s.timI a k) (timT x k) := by
  unfold St.tim St.timI timT
  by_cases h : k = 1
  · rw [if_pos h, if_pos h, if_pos h]; exact ha
  · rw [if_neg h, if_neg h, if_neg h]
    show IsT (s.nodes ++ [⟨2, a, k, s.sz a * k, s.dr a * (k : Int)⟩]) _ _
    refine .tim (a := a) ?_ (ha.app _)
    rw [List.getElem?_append_right (Nat.le_refl _), Nat.sub_self, ha.sz, ha.dr]
    rfl
theorem timT_size (t : Tr) (k : Nat) : (timT t k).size = t.size * k := by
  unfold timT
  by_cases h : k = 1
  · rw [if_pos h, h, Nat.mul_one]
  · rw [if_neg h]; rfl
theorem timT_drift (t : Tr) (k : Nat) : (timT t k).drift = (k : Int) * t.drift := by
  unfold timT
  by_cases h : k = 1
  · rw [if_pos h, h]
    show t.drift = 1 * t.drift
    omega
  · rw [if_neg h]
    show t.drift * (k : Int) = _
    rw [Int.mul_comm]
theorem Wd.timT {T : Int → Int} {e q : Int} {a : Tr} {k : Nat} (hk : 0 < k) (h : ∀ i : Nat, i < k → Wd T e a (q + (i : Int) * a.drift)) (hl : ∀ i : Nat, 0 < i → i < k → e ≤ q + (i : Int) * a.drift) : Wd T e (timT a k) q := by
  unfold Rz.timT
  by_cases c : k = 1
  · rw [if_pos c]
    have := h 0 hk
    rw [show q + ((0 : Nat) : Int) * a.drift = q by rw [show ((0 : Nat) : Int) = 0 from rfl, Int.zero_mul]; omega] at this
    exact this
  · rw [if_neg c]
    exact .tim hk h hl

/-! ### the pieces whose tales grow -/
theorem getD_set {α : Type} (l : List α) (x y : Nat) (v d : α) (hx : x < l.length) : (l.set x v).getD y d = if y = x then v else l.getD y d := by
  rw [List.getD_eq_getElem?_getD, List.getD_eq_getElem?_getD]
  by_cases h : y = x
  · subst h
    rw [if_pos rfl, List.getElem?_set_self hx]; rfl
  · rw [if_neg h, List.getElem?_set_ne (fun e => h e.symm)]
/-- what growing tales leaves as it is -/
structure Kept (s s' : St) : Prop where
  ext : ∃ r, s'.nodes = s.nodes ++ r
  recs : s'.recs = s.recs
  left : s'.left = s.left
  upper : s'.upper = s.upper
  lower : s'.lower = s.lower
  fin : s'.fin = s.fin
  tl : s'.tales.length = s.tales.length
theorem Kept.refl (s : St) : Kept s s := ⟨⟨[], by simp⟩, rfl, rfl, rfl, rfl, rfl, rfl⟩
theorem Kept.trans {a b c : St} (x : Kept a b) (y : Kept b c) : Kept a c := by
  obtain ⟨r, e⟩ := x.ext
  obtain ⟨r', e'⟩ := y.ext
  exact ⟨⟨r ++ r', by rw [e', e, List.append_assoc]⟩, y.recs.trans x.recs, y.left.trans x.left, y.upper.trans x.upper, y.lower.trans x.lower, y.fin.trans x.fin, y.tl.trans x.tl⟩
theorem Kept.isT {s s' : St} (k : Kept s s') {i : Nat} {t : Tr} (h : IsT s.nodes i t) : IsT s'.nodes i t := by
  obtain ⟨r, e⟩ := k.ext
  rw [e]; exact h.app r
theorem kept_tim (s : St) (a k : Nat) : Kept s (s.tim a k) := by
  unfold St.tim
  by_cases h : k = 1
  · rw [if_pos h]; exact .refl s
  · rw [if_neg h]; exact ⟨⟨_, rfl⟩, rfl, rfl, rfl, rfl, rfl, rfl⟩
theorem tales_tim (s : St) (a k : Nat) : (s.tim a k).tales = s.tales := by
  unfold St.tim
  by_cases h : k = 1
  · rw [if_pos h]
  · rw [if_neg h]; rfl
theorem kept_after (b : Nat) (s : St) (x : Nat) : Kept s (St.after b s x) := ⟨⟨_, rfl⟩, rfl, rfl, rfl, rfl, rfl, by show (s.tales.set x _).length = _; simp⟩
theorem kept_ahead (b : Nat) (s : St) (x : Nat) : Kept s (St.ahead b s x) := ⟨⟨_, rfl⟩, rfl, rfl, rfl, rfl, rfl, by show (s.tales.set x _).length = _; simp⟩
theorem grow_after {b : Nat} {tb : Tr} : ∀ (ls : List Nat) (s : St), ls.Nodup → (∀ x ∈ ls, x < s.tales.length) → IsT s.nodes b tb →
    Kept s (ls.foldl (St.after b) s) ∧ (∀ x, x ∉ ls → (ls.foldl (St.after b) s).tale x = s.tale x) ∧ ∀ x ∈ ls, ∀ t, IsT s.nodes (s.tale x) t → IsT (ls.foldl (St.after b) s).nodes ((ls.foldl (St.after b) s).tale x) (.two t tb)
  | [], s, _, _, _ => ⟨.refl s, fun _ _ => rfl, fun _ h => by simp at h⟩
  | y :: ls, s, nd, hl, hb => by
    have k1 := kept_after b s y
    obtain ⟨n1, n2⟩ := List.nodup_cons.mp nd
    have hy : y < s.tales.length := hl y List.mem_cons_self
    obtain ⟨a1, a2, a3⟩ := grow_after ls (St.after b s y) n2 (fun x hx => by rw [k1.tl]; exact hl x (List.mem_cons_of_mem _ hx)) (k1.isT hb)
    have ht : ∀ x, (St.after b s y).tale x = if x = y then s.nodes.length else s.tale x := fun x => getD_set s.tales y x _ _ hy
    refine ⟨k1.trans a1, fun x hx => ?_, fun x hx t h => ?_⟩
    · show (ls.foldl (St.after b) (St.after b s y)).tale x = _
      rw [a2 x (fun z => hx (List.mem_cons_of_mem _ z)), ht, if_neg (fun z => hx (by rw [z]; exact List.mem_cons_self))]
    · show IsT (ls.foldl (St.after b) (St.after b s y)).nodes ((ls.foldl (St.after b) (St.after b s y)).tale x) _
      rcases List.mem_cons.mp hx with z | z
      · subst z
        rw [a2 x n1, ht, if_pos rfl]
        exact a1.isT (IsT.mkTwo h hb)
      · have ne : x ≠ y := fun e => n1 (by rw [← e]; exact z)
        refine a3 x z t ?_
        rw [ht, if_neg ne]
        exact k1.isT h
theorem grow_ahead {b : Nat} {tb : Tr} : ∀ (ls : List Nat) (s : St), ls.Nodup → (∀ x ∈ ls, x < s.tales.length) → IsT s.nodes b tb →
    Kept s (ls.foldl (St.ahead b) s) ∧ (∀ x, x ∉ ls → (ls.foldl (St.ahead b) s).tale x = s.tale x) ∧ ∀ x ∈ ls, ∀ t, IsT s.nodes (s.tale x) t → IsT (ls.foldl (St.ahead b) s).nodes ((ls.foldl (St.ahead b) s).tale x) (.two tb t)
  | [], s, _, _, _ => ⟨.refl s, fun _ _ => rfl, fun _ h => by simp at h⟩
  | y :: ls, s, nd, hl, hb => by
    have k1 := kept_ahead b s y
    obtain ⟨n1, n2⟩ := List.nodup_cons.mp nd
    have hy : y < s.tales.length := hl y List.mem_cons_self
    obtain ⟨a1, a2, a3⟩ := grow_ahead ls (St.ahead b s y) n2 (fun x hx => by rw [k1.tl]; exact hl x (List.mem_cons_of_mem _ hx)) (k1.isT hb)
    have ht : ∀ x, (St.ahead b s y).tale x = if x = y then s.nodes.length else s.tale x := fun x => getD_set s.tales y x _ _ hy
    refine ⟨k1.trans a1, fun x hx => ?_, fun x hx t h => ?_⟩
    · show (ls.foldl (St.ahead b) (St.ahead b s y)).tale x = _
      rw [a2 x (fun z => hx (List.mem_cons_of_mem _ z)), ht, if_neg (fun z => hx (by rw [z]; exact List.mem_cons_self))]
    · show IsT (ls.foldl (St.ahead b) (St.ahead b s y)).nodes ((ls.foldl (St.ahead b) (St.ahead b s y)).tale x) _
      rcases List.mem_cons.mp hx with z | z
      · subst z
        rw [a2 x n1, ht, if_pos rfl]
        exact a1.isT (IsT.mkTwo hb h)
      · have ne : x ≠ y := fun e => n1 (by rw [← e]; exact z)
        refine a3 x z t ?_
        rw [ht, if_neg ne]
        exact k1.isT h

/-! ### the way of a place through the records -/
def lastLe (p : Int) : List (Int × Int × Nat) → Option (Int × Int × Nat)
  | ps => (ps.filter fun x => decide (x.1 ≤ p)).getLast?
def Stg.entered (g : Stg) (p : Int) : Int × Nat :=
  if p < g.stop then (p, 0)
  else if g.pieces = [] then (p - ((p - g.stop) / g.total + 1) * g.total, ((p - g.stop) / g.total + 1).toNat * g.size)
  else
    let m := (g.fin - 1 - p) / g.total
    let z := ((lastLe (p + m * g.total) g.pieces).getD (0, 0, 0))
    (p + m * g.total + z.2.1, m.toNat * g.size + z.2.2)
inductive PR where
  | mid (p : Int) (k c : Nat)
  | done (c : Nat) (b w : Int) (i : Nat) (p : Int) (k : Nat)
def PR.step : PR → Rc → PR
  | .mid p k c, .st g => .mid (g.entered p).1 (k + (g.entered p).2) c
  | .mid p k c, .bd b w i => if b ≤ p then .done c b w i p k else .mid p k (c + 1)
  | .done c b w i p k, _ => .done c b w i p k
def posAll (rs : List Rc) (p : Int) : PR := rs.foldl PR.step (.mid p 0 0)
def bandOf : Rc → Option (Int × Int × Nat)
  | .st _ => none
  | .bd b w i => some (b, w, i)
def bands (rs : List Rc) : List (Int × Int × Nat) := rs.filterMap bandOf
def Cov (T : Int → Int) (rs : List Rc) (fin : Int) (p : Int) : Prop :=
  match posAll rs p with
  | .mid q k c => 0 ≤ q ∧ q < fin ∧ it T k p = q ∧ c = (bands rs).length
  | .done c b w i q k => (bands rs)[c]? = some (b, w, i) ∧ b ≤ q ∧ q < b + w ∧ it T k p = q

theorem bands_st (rs : List Rc) (g : Stg) : bands (rs ++ [.st g]) = bands rs := by
  unfold bands
  rw [List.filterMap_append]
  exact List.append_nil _
theorem bands_bd (rs : List Rc) (b w : Int) (i : Nat) : bands (rs ++ [.bd b w i]) = bands rs ++ [(b, w, i)] := by
  unfold bands
  rw [List.filterMap_append]
  rfl
theorem posAll_snoc (rs : List Rc) (r : Rc) (p : Int) : posAll (rs ++ [r]) p = (posAll rs p).step r := by
  unfold posAll
  rw [List.foldl_append]
  rfl
theorem Cov.stage {T : Int → Int} {rs : List Rc} {fin p : Int} {g : Stg} {fin' : Int} (h : Cov T rs fin p)
    (hg : ∀ q, 0 ≤ q → q < fin → 0 ≤ (g.entered q).1 ∧ (g.entered q).1 < fin' ∧ it T (g.entered q).2 q = (g.entered q).1) : Cov T (rs ++ [.st g]) fin' p := by
  unfold Cov at h ⊢
  rw [posAll_snoc, bands_st]
  cases e : posAll rs p with
  | mid q k c =>
    rw [e] at h
    obtain ⟨h0, h1, h2, h3⟩ := h
    obtain ⟨g0, g1, g2⟩ := hg q h0 h1
    exact ⟨g0, g1, by rw [it_add, h2, g2], h3⟩
  | done c b w i q k =>
    rw [e] at h
    exact h
theorem Cov.band {T : Int → Int} {rs : List Rc} {fin p w : Int} {i : Nat} (h : Cov T rs fin p) : Cov T (rs ++ [.bd (fin - w) w i]) (fin - w) p := by
  unfold Cov at h ⊢
  rw [posAll_snoc, bands_bd]
  cases e : posAll rs p with
  | mid q k c =>
    rw [e] at h
    obtain ⟨h0, h1, h2, h3⟩ := h
    show match (if fin - w ≤ q then PR.done c (fin - w) w i q k else .mid q k (c + 1)) with
      | .mid q k c => _
      | .done c b w i q k => _
    by_cases z : fin - w ≤ q
    · rw [if_pos z]
      exact ⟨by rw [h3, List.getElem?_append_right (Nat.le_refl _), Nat.sub_self]; rfl, z, by omega, h2⟩
    · rw [if_neg z]
      exact ⟨h0, by omega, h2, by rw [List.length_append, h3]; rfl⟩
  | done c b w' i' q k =>
    rw [e] at h
    obtain ⟨h0, h1⟩ := h
    exact ⟨by rw [List.getElem?_append_left (List.getElem?_eq_some_iff.mp h0).1]; exact h0, h1⟩
end Rz
end
section
namespace Rz

theorem tot_perm (L : Nat → Int) {a b : List Nat} (h : a.Perm b) : tot L a = tot L b := by
  induction h with
  | nil => rfl
  | cons x _ ih => show L x + _ = L x + _; rw [ih]
  | swap x y l => show L y + (L x + tot L l) = L x + (L y + tot L l); omega
  | trans _ _ h1 h2 => exact h1.trans h2

/-- the piece x: its word leads each of its places to where the lower row has it -/
def Piece (T : Int → Int) (e : Int) (L : Nat → Int) (u l : List Nat) (ns : List Nd) (i x : Nat) : Prop :=
  ∃ t, IsT ns i t ∧ t.drift = pre L l x - pre L u x ∧ ∀ q, pre L u x ≤ q → q < pre L u x + L x → Wd T e t q
def BandOK (T : Int → Int) (n : Int) (ns : List Nd) (z : Int × Int × Nat) : Prop :=
  0 ≤ z.1 ∧ 1 ≤ z.2.1 ∧ z.1 + z.2.1 ≤ n ∧ ∃ t, IsT ns z.2.2 t ∧ t.drift = 0 ∧ ∀ q, z.1 ≤ q → q < z.1 + z.2.1 → Wd T (z.1 + z.2.1) t q
structure Good (n : Int) (T : Int → Int) (m : Nat) (s : St) : Prop where
  nu : s.upper.Nodup
  perm : s.upper.Perm s.lower
  lt : ∀ x ∈ s.upper, x < m
  ll : s.left.length = m
  tl : s.tales.length = m
  pos : ∀ x ∈ s.upper, 1 ≤ s.L x
  fin : s.fin = tot s.L s.upper
  le : s.fin ≤ n
  word : ∀ x ∈ s.upper, Piece T s.fin s.L s.upper s.lower s.nodes (s.tale x) x
  cov : ∀ p, 0 ≤ p → p < n → Cov T s.recs s.fin p
  bds : ∀ z ∈ bands s.recs, BandOK T n s.nodes z
theorem BandOK.ext {T n ns ns' z} (h : BandOK T n ns z) (e : ∃ r, ns' = ns ++ r) : BandOK T n ns' z := by
  obtain ⟨r, e⟩ := e
  obtain ⟨h0, h1, h2, t, ht, h3⟩ := h
  exact ⟨h0, h1, h2, t, by rw [e]; exact ht.app r, h3⟩

section
variable {T : Int → Int} {e e' : Int} {L L' : Nat → Int} {u u' l l' : List Nat} {ns ns' : List Nd} {i i' x : Nat}
theorem Piece.keep (h : Piece T e L u l ns i x) (he : e' ≤ e) (hu : pre L' u' x = pre L u x) (hl : pre L' l' x = pre L l x) (hL : L' x ≤ L x) (ext : ∃ r, ns' = ns ++ r) (hi : i' = i) : Piece T e' L' u' l' ns' i' x := by
  obtain ⟨r, ext⟩ := ext
  obtain ⟨t, h1, h2, h3⟩ := h
  subst hi
  refine ⟨t, by rw [ext]; exact h1.app r, by rw [hu, hl]; exact h2, fun q q0 q1 => ?_⟩
  rw [hu] at q0 q1
  exact (h3 q q0 (by omega)).mono he
/-- a loser of the upper winner: its word, then the winner's k times -/
theorem Piece.after {tw : Tr} {k : Nat} {Z Z1 bw : Int} (h : Piece T e L u l ns i x)
    (hw : ∀ q, bw ≤ q → q < e → Wd T e tw q) (hd : tw.drift = -Z) (hk : 0 < k) (hZ : Z1 = Z ∨ k = 1)
    (he : e' = e - Z1 * (k : Int)) (hb : bw ≤ e') (ha : e - Z1 ≤ pre L l x) (ha2 : pre L l x + L x ≤ e)
    (hu : pre L' u' x = pre L u x) (hl : pre L' l' x = pre L l x - (k : Int) * Z) (hL : L' x = L x) (hZp : 0 ≤ Z) (hle2 : e' ≤ e)
    (ht : ∀ t, IsT ns i t → IsT ns' i' (.two t (timT tw k))) : Piece T e' L' u' l' ns' i' x := by
  obtain ⟨t, h1, h2, h3⟩ := h
  have hk1 : (1 : Int) ≤ (k : Int) := by omega
  have zk : ∀ j : Nat, j < k → e' ≤ e - Z1 - (j : Int) * Z := fun j hj => by
    rcases hZ with z | z
    · subst z
      have h4 : ((j : Int) + 1) * Z1 ≤ (k : Int) * Z1 := Int.mul_le_mul_of_nonneg_right (by omega) hZp
      rw [Int.add_mul, Int.one_mul] at h4
      rw [Int.mul_comm] at he
      omega
    · subst z
      have hj0 : j = 0 := by omega
      subst hj0
      have e1 : ((1 : Nat) : Int) = 1 := rfl
      rw [e1, Int.mul_one] at he
      have e2 : ((0 : Nat) : Int) * Z = 0 := Int.zero_mul _
      omega
  have hle : e' ≤ e - Z1 := by
    have := zk 0 hk
    simpa using this
  refine ⟨_, ht t h1, ?_, fun q q0 q1 => ?_⟩
  · show t.drift + (timT tw k).drift = _
    rw [timT_drift, hd, h2, hu, hl]
    have : (k : Int) * -Z = -((k : Int) * Z) := Int.mul_neg _ _
    omega
  · rw [hu] at q0 q1
    rw [hL] at q1
    have hr0 : e - Z1 ≤ q + t.drift := by omega
    have hr1 : q + t.drift < e := by omega
    refine Wd.two ((h3 q q0 q1).mono hle2) (Wd.timT hk (fun j hj => ?_) fun j _ hj => ?_) (by omega)
    · have hz := zk j hj
      rw [hd]
      have e1 : (j : Int) * -Z = -((j : Int) * Z) := Int.mul_neg _ _
      have e2 : 0 ≤ (j : Int) * Z := Int.mul_nonneg (by omega) hZp
      exact (hw _ (by omega) (by omega)).mono hle2
    · have hz := zk j hj
      rw [hd]
      have e1 : (j : Int) * -Z = -((j : Int) * Z) := Int.mul_neg _ _
      omega
/-- a loser of the lower winner: the winner's word k times, then its own -/
theorem Piece.ahead {tw : Tr} {k : Nat} {Z bw : Int} (h : Piece T e L u l ns i x)
    (hw : ∀ q, bw ≤ q → q < e - Z → Wd T e tw q) (hd : tw.drift = Z) (hk : 0 < k)
    (hb : bw ≤ pre L' u' x) (hj1 : e' ≤ pre L' u' x + Z) (hj2 : pre L u x + L x ≤ e) (hle2 : e' ≤ e)
    (hu : pre L' u' x = pre L u x - (k : Int) * Z) (hl : pre L' l' x = pre L l x) (hL : L' x = L x) (hZp : 0 ≤ Z)
    (ht : ∀ t, IsT ns i t → IsT ns' i' (.two (timT tw k) t)) : Piece T e' L' u' l' ns' i' x := by
  obtain ⟨t, h1, h2, h3⟩ := h
  have hk1 : (1 : Int) ≤ (k : Int) := by omega
  have zk : ∀ j : Nat, j < k → (j : Int) * Z + Z ≤ (k : Int) * Z := fun j hj => by
    have h4 : ((j : Int) + 1) * Z ≤ (k : Int) * Z := Int.mul_le_mul_of_nonneg_right (by omega) hZp
    rw [Int.add_mul, Int.one_mul] at h4
    exact h4
  have jz : ∀ j : Nat, 0 ≤ (j : Int) * Z := fun j => Int.mul_nonneg (by omega) hZp
  have jz1 : ∀ j : Nat, 0 < j → Z ≤ (j : Int) * Z := fun j hj => by
    have h4 : (1 : Int) * Z ≤ (j : Int) * Z := Int.mul_le_mul_of_nonneg_right (by omega) hZp
    rw [Int.one_mul] at h4
    exact h4
  refine ⟨_, ht t h1, ?_, fun q q0 q1 => ?_⟩
  · show (timT tw k).drift + t.drift = _
    rw [timT_drift, hd, h2, hu, hl]
    omega
  · rw [hL] at q1
    have hkz := jz1 k hk
    refine Wd.two (Wd.timT hk (fun j hj => ?_) fun j h0 hj => ?_) ((h3 _ ?_ ?_).mono hle2) ?_
    · have hz := zk j hj
      have h0 := jz j
      rw [hd]
      exact (hw _ (by omega) (by omega)).mono hle2
    · have h0 := jz1 j h0
      rw [hd]
      omega
    · rw [timT_drift, hd]; omega
    · rw [timT_drift, hd]; omega
    · rw [timT_drift, hd]; omega
end
end Rz
end
section
namespace Rz

/-! ### rows as lists -/
theorem idx_mid {l1 ls : List Nat} {w : Nat} (h : w ∉ l1) : (l1 ++ w :: ls).idxOf w = l1.length := by
  rw [List.idxOf_append, if_neg h, List.idxOf_cons_self, Nat.zero_add]
theorem drop_mid (l1 ls : List Nat) (w : Nat) : (l1 ++ w :: ls).drop (l1.length + 1) = ls := by
  rw [List.drop_append]
  simp
theorem last_at (r : List Nat) (z : Nat) : (r ++ [z]).getD ((r ++ [z]).length - 1) 0 = z := by
  rw [List.getD_eq_getElem?_getD, List.length_append, List.length_singleton, Nat.add_sub_cancel, List.getElem?_append_right (Nat.le_refl _), Nat.sub_self]
  rfl
theorem ins_mid : ∀ (l1 l2 : List Nat) (w z : Nat), (l1 ++ w :: l2).insertIdx (l1.length + 1) z = l1 ++ w :: z :: l2
  | [], l2, w, z => rfl
  | y :: l1, l2, w, z => by
    show (y :: (l1 ++ w :: l2)).insertIdx (l1.length + 1 + 1) z = _
    rw [List.insertIdx_succ_cons, ins_mid l1 l2 w z]
    rfl
theorem dropLast_mid (l1 l2 : List Nat) (w z : Nat) : (l1 ++ w :: (l2 ++ [z])).dropLast = l1 ++ w :: l2 := by
  rw [show l1 ++ w :: (l2 ++ [z]) = (l1 ++ w :: l2) ++ [z] by simp]
  exact List.dropLast_concat
theorem drop_last (l2 : List Nat) (z : Nat) : (l2 ++ [z]).drop ((l2 ++ [z]).length - 1) = [z] := by
  rw [List.length_append, List.length_singleton, Nat.add_sub_cancel, List.drop_append]
  simp
theorem set_mid : ∀ (l1 l2 : List Nat) (a b : Nat), (l1 ++ a :: l2).set l1.length b = l1 ++ b :: l2
  | [], _, _, _ => rfl
  | y :: l1, l2, a, b => by
    show y :: (l1 ++ a :: l2).set l1.length b = _
    rw [set_mid l1 l2 a b]
    rfl

theorem cut_L (s : St) (w : Nat) (d : Int) (hw : w < s.left.length) (x : Nat) : (s.cut w d).L x = if x = w then s.L w - d else s.L x := getD_set s.left w x _ _ hw

/-- what behind upW, loW is known of the tales -/
structure Grown (s s' : St) (w : Nat) (loss : Int) (ls1 : List Nat) (f : Tr → Tr) : Prop where
  ext : ∃ r, s'.nodes = s.nodes ++ r
  left : s'.left = s.left.set w (s.L w - loss)
  tl : s'.tales.length = s.tales.length
  same : ∀ x, x ∉ ls1 → s'.tale x = s.tale x
  grow : ∀ x ∈ ls1, ∀ t, IsT s.nodes (s.tale x) t → IsT s'.nodes (s'.tale x) (f t)

/-! ### a place enters the shorter row -/
theorem enter_up {T : Int → Int} {e stop Z bw : Int} {tw : Tr} {q : Int} (hZ : 0 < Z) (hw : ∀ q, bw ≤ q → q < e → Wd T e tw q) (hd : tw.drift = -Z) (hb : bw ≤ stop) (hb0 : 0 ≤ bw - Z) (h0 : 0 ≤ q) (h1 : q < e) :
    let g : Stg := ⟨e, stop, Z, tw.size, []⟩
    0 ≤ (g.entered q).1 ∧ (g.entered q).1 < stop ∧ it T (g.entered q).2 q = (g.entered q).1 := by
  intro g
  show 0 ≤ (if q < stop then (q, 0) else (if ([] : List (Int × Int × Nat)) = [] then _ else _) : Int × Nat).1 ∧ _
  by_cases hq : q < stop
  · have e1 : g.entered q = (q, 0) := if_pos hq
    rw [if_pos hq, e1]
    exact ⟨h0, hq, rfl⟩
  · have e1 : g.entered q = (q - ((q - stop) / Z + 1) * Z, ((q - stop) / Z + 1).toNat * tw.size) := by
      show (if q < stop then (q, 0) else (if ([] : List (Int × Int × Nat)) = [] then _ else _)) = _
      rw [if_neg hq, if_pos rfl]
    rw [if_neg hq, if_pos rfl, e1]
    have d0 : 0 ≤ (q - stop) / Z := Int.ediv_nonneg (by omega) (by omega)
    have d1 : Z * ((q - stop) / Z) ≤ q - stop := Int.mul_ediv_self_le (by omega)
    have d2 : q - stop < Z * ((q - stop) / Z) + Z := Int.lt_mul_ediv_self_add hZ
    obtain ⟨k, hk⟩ : ∃ k : Nat, (q - stop) / Z = (k : Int) := ⟨((q - stop) / Z).toNat, by omega⟩
    rw [hk] at d1 d2 ⊢
    have d1' : (k : Int) * Z ≤ q - stop := by rw [Int.mul_comm]; exact d1
    have d2' : q - stop < (k : Int) * Z + Z := by rw [Int.mul_comm]; exact d2
    have e2 : ((k : Int) + 1) * Z = (k : Int) * Z + Z := by rw [Int.add_mul, Int.one_mul]
    have e3 : ((k : Int) + 1).toNat = k + 1 := by omega
    rw [e3]
    have way : it T (tw.size * (k + 1)) q = q + ((k + 1 : Nat) : Int) * tw.drift := it_mul (e := e) (k + 1) fun i hi => by
      rw [hd]
      have z1 : (i : Int) * -Z = -((i : Int) * Z) := Int.mul_neg _ _
      have z2 : 0 ≤ (i : Int) * Z := Int.mul_nonneg (by omega) (by omega)
      have z3 : (i : Int) * Z ≤ (k : Int) * Z := Int.mul_le_mul_of_nonneg_right (by omega) (by omega)
      exact hw _ (by omega) (by omega)
    have z4 : ((k + 1 : Nat) : Int) * tw.drift = -(((k : Int) + 1) * Z) := by
      rw [hd, Int.mul_neg]
      rfl
    refine ⟨?_, ?_, ?_⟩
    · show 0 ≤ q - ((k : Int) + 1) * Z
      omega
    · show q - ((k : Int) + 1) * Z < stop
      omega
    · show it T ((k + 1) * tw.size) q = q - ((k : Int) + 1) * Z
      rw [Nat.mul_comm, way, z4]
      omega

theorem lastLe_row {L : Nat → Int} {g : Nat → Int × Nat} {p : Int} {x : Nat} : ∀ (us : List Nat) (b : Int), us.Nodup → (∀ y ∈ us, 1 ≤ L y) → x ∈ us → b + pre L us x ≤ p → p < b + pre L us x + L x →
    lastLe p (us.map fun y => (b + pre L us y, g y)) = some (b + pre L us x, g x)
  | [], _, _, _, h, _, _ => by simp at h
  | y :: r, b, nd, hL, hx, h0, h1 => by
    obtain ⟨n1, n2⟩ := List.nodup_cons.mp nd
    have hr := fun z hz => hL z (List.mem_cons_of_mem y hz)
    have emap : (r.map fun z => (b + pre L (y :: r) z, g z)) = r.map fun z => ((b + L y) + pre L r z, g z) := List.map_congr_left fun z hz => by
      rw [pre_other L r (fun q => n1 (by rw [q]; exact hz))]
      have : b + (L y + pre L r z) = b + L y + pre L r z := by omega
      rw [this]
    unfold lastLe
    dsimp only
    rw [List.map_cons, emap]
    by_cases hxy : x = y
    · subst hxy
      rw [pre_self] at h0 h1 ⊢
      have none : (r.map fun z => ((b + L x) + pre L r z, g z)).filter (fun u => decide (u.1 ≤ p)) = [] := by
        rw [List.filter_eq_nil_iff]
        intro u hu
        obtain ⟨z, hz, rfl⟩ := List.mem_map.mp hu
        have := pre_nn r z hr
        simp only [decide_eq_true_eq]
        omega
      rw [List.filter_cons, if_pos (by simpa using h0), none]
      rfl
    · have hx' : x ∈ r := by
        rcases List.mem_cons.mp hx with q | q
        · exact absurd q hxy
        · exact q
      rw [pre_other L r (fun q => hxy q.symm)] at h0 h1 ⊢
      have ih := lastLe_row (L := L) (g := g) (p := p) (x := x) r (b + L y) n2 hr hx' (by omega) (by omega)
      unfold lastLe at ih
      dsimp only at ih
      have hy : b + pre L (y :: r) y ≤ p := by
        rw [pre_self]
        have := pre_nn r x hr
        have := hL y List.mem_cons_self
        omega
      rw [List.filter_cons, if_pos (by simpa using hy)]
      generalize (r.map fun z => ((b + L y) + pre L r z, g z)).filter (fun u => decide (u.1 ≤ p)) = fl at ih
      cases fl with
      | nil => cases ih
      | cons a as =>
        rw [List.getLast?_cons_cons, ih]
        have : b + L y + pre L r x = b + (L y + pre L r x) := by omega
        rw [this]

theorem enter_lo {T : Int → Int} {e stop Z bw : Int} {L : Nat → Int} {u l us : List Nat} {tw : Tr} {q : Int} {ps : List (Int × Int × Nat)} {tr : Nat → Tr} {b0 : Int} (hne : us ≠ []) (nd : us.Nodup) (hL : ∀ y ∈ us, 1 ≤ L y) (hZe : Z = tot L us)
    (hw : ∀ q, bw ≤ q → q < e - Z → Wd T e tw q) (hd : tw.drift = Z) (hb : bw ≤ stop) (hb0 : b0 = e - Z) (hps : ps = us.map fun y => (b0 + pre L us y, pre L l y - pre L u y, (tr y).size))
    (hpu : ∀ y ∈ us, pre L u y = b0 + pre L us y) (hpc : ∀ y ∈ us, (tr y).drift = pre L l y - pre L u y ∧ ∀ q, pre L u y ≤ q → q < pre L u y + L y → Wd T e (tr y) q)
    (hl0 : ∀ y ∈ us, 0 ≤ pre L l y) (hl1 : ∀ y ∈ us, pre L l y + L y ≤ stop) (h0 : 0 ≤ q) (h1 : q < e) :
    let g : Stg := ⟨e, stop, Z, tw.size, ps⟩
    0 ≤ (g.entered q).1 ∧ (g.entered q).1 < stop ∧ it T (g.entered q).2 q = (g.entered q).1 := by
  intro g
  by_cases hq : q < stop
  · have e1 : g.entered q = (q, 0) := if_pos hq
    rw [e1]
    exact ⟨h0, hq, rfl⟩
  · have hpn : ps ≠ [] := by
      rw [hps]
      intro z
      exact hne (List.map_eq_nil_iff.mp z)
    have hZ : 0 < Z := by
      cases us with
      | nil => exact absurd rfl hne
      | cons y r =>
        have a1 := hL y List.mem_cons_self
        have a2 := tot_nn r fun z hz => hL z (List.mem_cons_of_mem y hz)
        have a3 : Z = L y + tot L r := hZe
        omega
    have d0 : 0 ≤ (e - 1 - q) / Z := Int.ediv_nonneg (by omega) (by omega)
    have d1 : Z * ((e - 1 - q) / Z) ≤ e - 1 - q := Int.mul_ediv_self_le (by omega)
    have d2 : e - 1 - q < Z * ((e - 1 - q) / Z) + Z := Int.lt_mul_ediv_self_add hZ
    obtain ⟨k, hk⟩ : ∃ k : Nat, (e - 1 - q) / Z = (k : Int) := ⟨((e - 1 - q) / Z).toNat, by omega⟩
    rw [hk] at d1 d2
    have d1' : (k : Int) * Z ≤ e - 1 - q := by rw [Int.mul_comm]; exact d1
    have d2' : e - 1 - q < (k : Int) * Z + Z := by rw [Int.mul_comm]; exact d2
    obtain ⟨x, hx, x0, x1⟩ := pre_find us (q + (k : Int) * Z - b0) nd hL (by omega) (by rw [← hZe]; omega)
    have hlast : lastLe (q + (k : Int) * Z) ps = some (b0 + pre L us x, pre L l x - pre L u x, (tr x).size) := by
      rw [hps]
      exact lastLe_row (g := fun y => (pre L l y - pre L u y, (tr y).size)) us b0 nd hL hx (by omega) (by omega)
    have e1 : g.entered q = (q + (k : Int) * Z + (pre L l x - pre L u x), k * tw.size + (tr x).size) := by
      show (if q < stop then (q, 0) else (if ps = [] then _ else _)) = _
      rw [if_neg hq, if_neg hpn]
      show (q + (e - 1 - q) / Z * Z + ((lastLe (q + (e - 1 - q) / Z * Z) ps).getD (0, 0, 0)).2.1, ((e - 1 - q) / Z).toNat * tw.size + ((lastLe (q + (e - 1 - q) / Z * Z) ps).getD (0, 0, 0)).2.2) = _
      rw [hk, hlast]
      rfl
    rw [e1]
    have hu := hpu x hx
    obtain ⟨hdx, hwx⟩ := hpc x hx
    have way : it T (tw.size * k) q = q + (k : Int) * tw.drift := it_mul (e := e) k fun i hi => by
      rw [hd]
      have z2 : 0 ≤ (i : Int) * Z := Int.mul_nonneg (by omega) (by omega)
      have z3 : ((i : Int) + 1) * Z ≤ (k : Int) * Z := Int.mul_le_mul_of_nonneg_right (by omega) (by omega)
      rw [Int.add_mul, Int.one_mul] at z3
      exact hw _ (by omega) (by omega)
    have hwd := hwx (q + (k : Int) * Z) (by omega) (by omega)
    have a0 := hl0 x hx
    have a1 := hl1 x hx
    refine ⟨?_, ?_, ?_⟩
    · show 0 ≤ q + (k : Int) * Z + (pre L l x - pre L u x)
      omega
    · show q + (k : Int) * Z + (pre L l x - pre L u x) < stop
      omega
    · show it T (k * tw.size + (tr x).size) q = q + (k : Int) * Z + (pre L l x - pre L u x)
      rw [it_add, Nat.mul_comm, way, hd, hwd.land, hdx]
end Rz
end
section
namespace Rz

theorem grown_cut {s s4 : St} {w : Nat} {loss : Int} {ls1 : List Nat} {f : Tr → Tr} (ext : ∃ r, s4.nodes = s.nodes ++ r) (left : s4.left = s.left) (tl : s4.tales.length = s.tales.length)
    (same : ∀ x, x ∉ ls1 → s4.tale x = s.tale x) (grow : ∀ x ∈ ls1, ∀ t, IsT s.nodes (s.tale x) t → IsT s4.nodes (s4.tale x) (f t)) : Grown s (s4.cut w loss) w loss ls1 f := by
  refine ⟨ext, ?_, tl, same, grow⟩
  show s4.left.set w (s4.L w - loss) = s.left.set w (s.L w - loss)
  unfold St.L
  rw [left]

/-- a state s2 that has s's nodes, tales, left; the winner's word k times is put behind the tales of ls1 -/
theorem grown_after {s s2 : St} {w k : Nat} {tw : Tr} {ls1 : List Nat} {loss : Int} (hn : s2.nodes = s.nodes) (ht : s2.tales = s.tales) (hl : s2.left = s.left) (nd : ls1.Nodup) (lt : ∀ x ∈ ls1, x < s.tales.length) (hw : IsT s.nodes (s.tale w) tw) :
    let s4 := ls1.foldl (St.after (s2.timI (s.tale w) k)) (s2.tim (s.tale w) k)
    Grown s (s4.cut w loss) w loss ls1 (fun t => .two t (timT tw k)) ∧ s4.recs = s2.recs ∧ s4.upper = s2.upper ∧ s4.lower = s2.lower ∧ s4.fin = s2.fin := by
  intro s4
  have k1 := kept_tim s2 (s.tale w) k
  have hw2 : IsT s2.nodes (s.tale w) tw := by rw [hn]; exact hw
  have tt := tales_tim s2 (s.tale w) k
  obtain ⟨a1, a2, a3⟩ := grow_after (b := s2.timI (s.tale w) k) ls1 (s2.tim (s.tale w) k) nd (fun x hx => by rw [tt, ht]; exact lt x hx) hw2.mkTim
  have etale : ∀ x, (s2.tim (s.tale w) k).tale x = s.tale x := fun x => by
    show (s2.tim (s.tale w) k).tales.getD x 0 = s.tales.getD x 0
    rw [tt, ht]
  have kk := k1.trans a1
  refine ⟨grown_cut ?_ (kk.left.trans hl) (kk.tl.trans (by rw [ht])) (fun x hx => (a2 x hx).trans (etale x)) fun x hx t h => ?_, kk.recs, kk.upper, kk.lower, kk.fin⟩
  · obtain ⟨r, e⟩ := kk.ext
    exact ⟨r, by rw [e, hn]⟩
  · refine a3 x hx t ?_
    rw [etale]
    refine k1.isT ?_
    rw [hn]; exact h
theorem grown_ahead {s s2 : St} {w k : Nat} {tw : Tr} {ls1 : List Nat} {loss : Int} (hn : s2.nodes = s.nodes) (ht : s2.tales = s.tales) (hl : s2.left = s.left) (nd : ls1.Nodup) (lt : ∀ x ∈ ls1, x < s.tales.length) (hw : IsT s.nodes (s.tale w) tw) :
    let s4 := ls1.foldl (St.ahead (s2.timI (s.tale w) k)) (s2.tim (s.tale w) k)
    Grown s (s4.cut w loss) w loss ls1 (fun t => .two (timT tw k) t) ∧ s4.recs = s2.recs ∧ s4.upper = s2.upper ∧ s4.lower = s2.lower ∧ s4.fin = s2.fin := by
  intro s4
  have k1 := kept_tim s2 (s.tale w) k
  have hw2 : IsT s2.nodes (s.tale w) tw := by rw [hn]; exact hw
  have tt := tales_tim s2 (s.tale w) k
  obtain ⟨a1, a2, a3⟩ := grow_ahead (b := s2.timI (s.tale w) k) ls1 (s2.tim (s.tale w) k) nd (fun x hx => by rw [tt, ht]; exact lt x hx) hw2.mkTim
  have etale : ∀ x, (s2.tim (s.tale w) k).tale x = s.tale x := fun x => by
    show (s2.tim (s.tale w) k).tales.getD x 0 = s.tales.getD x 0
    rw [tt, ht]
  have kk := k1.trans a1
  refine ⟨grown_cut ?_ (kk.left.trans hl) (kk.tl.trans (by rw [ht])) (fun x hx => (a2 x hx).trans (etale x)) fun x hx t h => ?_, kk.recs, kk.upper, kk.lower, kk.fin⟩
  · obtain ⟨r, e⟩ := kk.ext
    exact ⟨r, by rw [e, hn]⟩
  · refine a3 x hx t ?_
    rw [etale]
    refine k1.isT ?_
    rw [hn]; exact h

/-! ### the core of upW: what the new state must be -/
structure UpNew (s s' : St) (w : Nat) (us l1 ls ls' ls1 : List Nat) (k : Nat) (Z Z1 : Int) : Prop where
  up : s.upper = us ++ [w]
  lo : s.lower = l1 ++ w :: ls
  up' : s'.upper = s.upper
  lo' : s'.lower = l1 ++ w :: ls'
  pm : ls.Perm ls'
  sub : ∀ x ∈ ls1, x ∈ ls
  Ze : Z = tot s.L ls
  Z1e : Z1 = tot s.L ls1
  hk : 0 < k
  hZ : Z1 = Z ∨ k = 1
  Z1p : 0 < Z1
  Z1le : Z1 ≤ Z
  lt : Z1 * (k : Int) < s.L w
  fin' : s'.fin = s.fin - Z1 * (k : Int)
  recs' : s'.recs = s.recs ++ [.st ⟨s.fin, s.fin - Z1 * (k : Int), Z, s.sz (s.tale w), []⟩]
  /-- where the pieces behind the winner lie now -/
  in1 : ∀ x ∈ ls1, tot s.L ls - Z1 ≤ pre s.L ls x
  aft1 : ∀ x ∈ ls1, pre s.L ls' x - Z1 * (k : Int) = pre s.L ls x - (k : Int) * Z
  aft2 : ∀ x ∈ ls, x ∉ ls1 → pre s.L ls' x - Z1 * (k : Int) = pre s.L ls x

theorem good_up {n : Int} {T : Int → Int} {m : Nat} {s s' : St} {w : Nat} {us l1 ls ls' ls1 : List Nat} {k : Nat} {Z Z1 : Int} (g : Good n T m s) (u : UpNew s s' w us l1 ls ls' ls1 k Z Z1)
    (gr : ∀ tw, IsT s.nodes (s.tale w) tw → Grown s s' w (Z1 * (k : Int)) ls1 (fun t => .two t (timT tw k))) : Good n T m s' ∧ s'.fin < s.fin := by
  have hwm : w ∈ s.upper := by rw [u.up]; simp
  obtain ⟨tw, t1, t2, t3⟩ := g.word w hwm
  have gr := gr tw t1
  have nuw : us.Nodup ∧ w ∉ us := by
    have := g.nu
    rw [u.up, List.nodup_append] at this
    exact ⟨this.1, fun z => this.2.2 w z w (by simp) rfl⟩
  have nl : s.lower.Nodup := g.perm.nodup_iff.mp g.nu
  have nlw : l1.Nodup ∧ w ∉ l1 ∧ w ∉ ls ∧ ls.Nodup ∧ ∀ x ∈ l1, x ∉ ls := by
    rw [u.lo, List.nodup_append, List.nodup_cons] at nl
    exact ⟨nl.1, fun z => nl.2.2 w z w (by simp) rfl, nl.2.1.1, nl.2.1.2, fun x hx hl => nl.2.2 x hx x (List.mem_cons_of_mem _ hl) rfl⟩
  obtain ⟨n1, n2, n3, n4, n5⟩ := nlw
  have hk1 : (0 : Int) < (k : Int) := by have := u.hk; omega
  have lossp : 0 < Z1 * (k : Int) := Int.mul_pos u.Z1p hk1
  have hwm' : w < s.left.length := by rw [g.ll]; exact g.lt w hwm
  have Lw : ∀ x, s'.L x = if x = w then s.L w - Z1 * (k : Int) else s.L x := fun x => by
    unfold St.L
    rw [gr.left]
    exact getD_set s.left w x _ _ hwm'
  have Lne : ∀ x, x ≠ w → s'.L x = s.L x := fun x h => by rw [Lw, if_neg h]
  have mem : ∀ x ∈ s.upper, x ∈ l1 ∨ x = w ∨ x ∈ ls := fun x hx => by
    have := g.perm.mem_iff.mp hx
    rw [u.lo] at this
    simpa using this
  have memU : ∀ x ∈ s.lower, x ∈ s.upper := fun x hx => g.perm.mem_iff.mpr hx
  have lsU : ∀ x ∈ ls, x ∈ s.upper := fun x hx => memU x (by rw [u.lo]; simp [hx])
  have posU := g.pos
  have posl1 : ∀ y ∈ l1, 1 ≤ s.L y := fun y hy => posU y (memU y (by rw [u.lo]; simp [hy]))
  have posls : ∀ y ∈ ls, 1 ≤ s.L y := fun y hy => posU y (lsU y hy)
  have finU : s.fin = tot s.L us + s.L w := by
    rw [g.fin, u.up, tot_append]
    show _ + (s.L w + 0) = _
    omega
  have finL : s.fin = tot s.L l1 + s.L w + Z := by
    rw [g.fin, tot_perm s.L g.perm, u.lo, tot_append, u.Ze]
    show _ + (s.L w + tot s.L ls) = _
    omega
  have preUw : pre s.L s.upper w = tot s.L us := by rw [u.up, pre_not _ _ _ _ nuw.2, pre_self]; omega
  have preLw : pre s.L s.lower w = tot s.L l1 := by rw [u.lo, pre_not _ _ _ _ n2, pre_self]; omega
  have t2' : tw.drift = -Z := by rw [t2, preUw, preLw]; omega
  have hZp : 0 < Z := by have := u.Z1p; have := u.Z1le; omega
  have l1nn := tot_nn l1 posl1
  have hww : ∀ q, tot s.L us ≤ q → q < s.fin → Wd T s.fin tw q := fun q q0 q1 => t3 q (by rw [preUw]; exact q0) (by rw [preUw]; omega)
  -- rows behind
  have c1 : ∀ y ∈ us, s'.L y = s.L y := fun y hy => Lne y fun z => nuw.2 (by rw [← z]; exact hy)
  have c2 : ∀ y ∈ l1, s'.L y = s.L y := fun y hy => Lne y fun z => n2 (by rw [← z]; exact hy)
  have c3 : ∀ y ∈ ls', s'.L y = s.L y := fun y hy => Lne y fun z => n3 (by rw [← z]; exact u.pm.mem_iff.mpr hy)
  have preU : ∀ x ∈ s.upper, pre s'.L s'.upper x = pre s.L s.upper x := fun x hx => by
    rw [u.up', u.up]
    by_cases h : x ∈ us
    · rw [pre_mem _ _ _ _ h, pre_mem _ _ _ _ h]
      exact pre_congr us x fun y hy _ => c1 y hy
    · have e : x = w := by
        rw [u.up] at hx
        rcases List.mem_append.mp hx with z | z
        · exact absurd z h
        · simpa using z
      subst e
      rw [pre_not _ _ _ _ h, pre_not _ _ _ _ h, tot_congr us c1, pre_self, pre_self]
  have preLs' : ∀ x ∈ ls, pre s'.L s'.lower x = tot s.L l1 + (s.L w - Z1 * (k : Int)) + pre s.L ls' x := fun x hx => by
    have hxw : w ≠ x := fun e => n3 (by rw [e]; exact hx)
    rw [u.lo', pre_not _ _ _ _ (fun z => n5 x z hx), tot_congr l1 c2, pre_other _ _ hxw, Lw w, if_pos rfl, pre_congr ls' x fun y hy _ => c3 y hy]
    omega
  have preLs : ∀ x ∈ ls, pre s.L s.lower x = tot s.L l1 + s.L w + pre s.L ls x := fun x hx => by
    have hxw : w ≠ x := fun e => n3 (by rw [e]; exact hx)
    rw [u.lo, pre_not _ _ _ _ (fun z => n5 x z hx), pre_other _ _ hxw]
    omega
  have finlt : s'.fin < s.fin := by rw [u.fin']; omega
  have lossw := u.lt
  refine ⟨⟨by rw [u.up']; exact g.nu, ?_, by rw [u.up']; exact g.lt, by rw [gr.left, List.length_set]; exact g.ll, gr.tl.trans g.tl, fun x hx => ?_, ?_, Int.le_trans (Int.le_of_lt finlt) g.le, fun x hx => ?_, fun p p0 p1 => ?_, fun z hz => ?_⟩, finlt⟩
  · rw [u.up', u.lo']
    refine g.perm.trans ?_
    rw [u.lo]
    exact (u.pm.cons w).append_left l1
  · rw [u.up'] at hx
    rw [Lw]
    by_cases e : x = w
    · rw [if_pos e]; omega
    · rw [if_neg e]; exact g.pos x hx
  · rw [u.fin', u.up', u.up, tot_append, tot_congr us c1]
    show _ = _ + (s'.L w + 0)
    rw [Lw, if_pos rfl]
    omega
  · rw [u.up'] at hx
    have hP := g.word x hx
    have hu := preU x hx
    have keepT : x ∉ ls1 → s'.tale x = s.tale x := gr.same x
    rcases mem x hx with h | h | h
    · have hxl : x ∉ ls := n5 x h
      have hxw : x ≠ w := fun e => n2 (by rw [← e]; exact h)
      refine hP.keep (Int.le_of_lt finlt) hu ?_ (by rw [Lne x hxw]; exact Int.le_refl _) gr.ext (keepT fun z => hxl (u.sub x z))
      rw [u.lo', u.lo, pre_mem _ _ _ _ h, pre_mem _ _ _ _ h]
      exact pre_congr l1 x fun y hy _ => c2 y hy
    · subst h
      refine hP.keep (Int.le_of_lt finlt) hu ?_ (by rw [Lw, if_pos rfl]; omega) gr.ext (keepT fun z => n3 (u.sub x z))
      rw [preLw, u.lo', pre_not _ _ _ _ n2, pre_self, tot_congr l1 c2]
      omega
    · have hxw : x ≠ w := fun e => n3 (by rw [← e]; exact h)
      by_cases h1 : x ∈ ls1
      · have a1 := u.aft1 x h1
        have a2 := u.in1 x h1
        have a3 := pre_le ls x posls h
        refine Piece.after (Z := Z) (Z1 := Z1) (bw := tot s.L us) hP hww t2' u.hk u.hZ u.fin' (by rw [u.fin']; omega) ?_ ?_ hu ?_ (Lne x hxw) (Int.le_of_lt hZp) (Int.le_of_lt finlt) (gr.grow x h1)
        · rw [preLs x h, finL]
          have := u.Ze
          omega
        · rw [preLs x h, finL, u.Ze]
          omega
        · rw [preLs' x h, preLs x h]
          omega
      · have a1 := u.aft2 x h h1
        refine hP.keep (Int.le_of_lt finlt) hu ?_ (by rw [Lne x hxw]; exact Int.le_refl _) gr.ext (keepT h1)
        rw [preLs' x h, preLs x h]
        omega
  · rw [u.recs', u.fin', t1.sz]
    refine (g.cov p p0 p1).stage fun q q0 q1 => ?_
    exact enter_up hZp hww t2' (by omega) (by omega) q0 q1
  · rw [u.recs', bands_st] at hz
    exact (g.bds z hz).ext gr.ext
end Rz
end
section
namespace Rz

structure LoNew (s s' : St) (w : Nat) (u1 us us' l ls1 : List Nat) (k : Nat) (Z Z1 : Int) : Prop where
  up : s.upper = u1 ++ w :: us
  lo : s.lower = l ++ [w]
  up' : s'.upper = u1 ++ w :: us'
  lo' : s'.lower = s.lower
  pm : us.Perm us'
  ne : us ≠ []
  sub : ∀ x ∈ ls1, x ∈ us
  Ze : Z = tot s.L us
  Z1e : Z1 = tot s.L ls1
  hk : 0 < k
  hZ : Z1 = Z ∨ k = 1
  Z1p : 0 < Z1
  Z1le : Z1 ≤ Z
  lt : Z1 * (k : Int) < s.L w
  fin' : s'.fin = s.fin - Z1 * (k : Int)
  recs' : s'.recs = s.recs ++ [.st ⟨s.fin, s.fin - Z1 * (k : Int), Z, s.sz (s.tale w), s.shown us⟩]
  bef1 : ∀ x ∈ ls1, pre s.L us' x - Z1 * (k : Int) = pre s.L us x - (k : Int) * Z
  /-- behind the winner's new end -/
  in1 : ∀ x ∈ ls1, 0 ≤ pre s.L us' x
  bef2 : ∀ x ∈ us, x ∉ ls1 → pre s.L us' x - Z1 * (k : Int) = pre s.L us x

theorem good_lo {n : Int} {T : Int → Int} {m : Nat} {s s' : St} {w : Nat} {u1 us us' l ls1 : List Nat} {k : Nat} {Z Z1 : Int} (g : Good n T m s) (u : LoNew s s' w u1 us us' l ls1 k Z Z1)
    (gr : ∀ tw, IsT s.nodes (s.tale w) tw → Grown s s' w (Z1 * (k : Int)) ls1 (fun t => .two (timT tw k) t)) : Good n T m s' ∧ s'.fin < s.fin := by
  have hwm : w ∈ s.upper := by rw [u.up]; simp
  obtain ⟨tw, t1, t2, t3⟩ := g.word w hwm
  have gr := gr tw t1
  have nl : s.lower.Nodup := g.perm.nodup_iff.mp g.nu
  have nuw : l.Nodup ∧ w ∉ l := by
    have := nl
    rw [u.lo, List.nodup_append] at this
    exact ⟨this.1, fun z => this.2.2 w z w (by simp) rfl⟩
  have nlw : u1.Nodup ∧ w ∉ u1 ∧ w ∉ us ∧ us.Nodup ∧ ∀ x ∈ u1, x ∉ us := by
    have := g.nu
    rw [u.up, List.nodup_append, List.nodup_cons] at this
    exact ⟨this.1, fun z => this.2.2 w z w (by simp) rfl, this.2.1.1, this.2.1.2, fun x hx hl => this.2.2 x hx x (List.mem_cons_of_mem _ hl) rfl⟩
  obtain ⟨n1, n2, n3, n4, n5⟩ := nlw
  have hk1 : (0 : Int) < (k : Int) := by have := u.hk; omega
  have lossp : 0 < Z1 * (k : Int) := Int.mul_pos u.Z1p hk1
  have hwm' : w < s.left.length := by rw [g.ll]; exact g.lt w hwm
  have Lw : ∀ x, s'.L x = if x = w then s.L w - Z1 * (k : Int) else s.L x := fun x => by
    unfold St.L
    rw [gr.left]
    exact getD_set s.left w x _ _ hwm'
  have Lne : ∀ x, x ≠ w → s'.L x = s.L x := fun x h => by rw [Lw, if_neg h]
  have mem : ∀ x ∈ s.upper, x ∈ u1 ∨ x = w ∨ x ∈ us := fun x hx => by
    rw [u.up] at hx
    simpa using hx
  have usU : ∀ x ∈ us, x ∈ s.upper := fun x hx => by rw [u.up]; simp [hx]
  have posU := g.pos
  have posu1 : ∀ y ∈ u1, 1 ≤ s.L y := fun y hy => posU y (by rw [u.up]; simp [hy])
  have posus : ∀ y ∈ us, 1 ≤ s.L y := fun y hy => posU y (usU y hy)
  have posl : ∀ y ∈ l, 1 ≤ s.L y := fun y hy => posU y (g.perm.mem_iff.mpr (by rw [u.lo]; simp [hy]))
  have finU : s.fin = tot s.L u1 + s.L w + Z := by
    rw [g.fin, u.up, tot_append, u.Ze]
    show _ + (s.L w + tot s.L us) = _
    omega
  have finL : s.fin = tot s.L l + s.L w := by
    rw [g.fin, tot_perm s.L g.perm, u.lo, tot_append]
    show _ + (s.L w + 0) = _
    omega
  have preLw : pre s.L s.lower w = tot s.L l := by rw [u.lo, pre_not _ _ _ _ nuw.2, pre_self]; omega
  have preUw : pre s.L s.upper w = tot s.L u1 := by rw [u.up, pre_not _ _ _ _ n2, pre_self]; omega
  have t2' : tw.drift = Z := by rw [t2, preUw, preLw]; omega
  have hZp : 0 < Z := by have := u.Z1p; have := u.Z1le; omega
  have u1nn := tot_nn u1 posu1
  have hww : ∀ q, tot s.L u1 ≤ q → q < s.fin - Z → Wd T s.fin tw q := fun q q0 q1 => t3 q (by rw [preUw]; exact q0) (by rw [preUw]; omega)
  have c1 : ∀ y ∈ l, s'.L y = s.L y := fun y hy => Lne y fun z => nuw.2 (by rw [← z]; exact hy)
  have c2 : ∀ y ∈ u1, s'.L y = s.L y := fun y hy => Lne y fun z => n2 (by rw [← z]; exact hy)
  have c3 : ∀ y ∈ us', s'.L y = s.L y := fun y hy => Lne y fun z => n3 (by rw [← z]; exact u.pm.mem_iff.mpr hy)
  have preL : ∀ x ∈ s.upper, pre s'.L s'.lower x = pre s.L s.lower x := fun x hx => by
    have hx := g.perm.mem_iff.mp hx
    rw [u.lo', u.lo]
    rw [u.lo] at hx
    by_cases h : x ∈ l
    · rw [pre_mem _ _ _ _ h, pre_mem _ _ _ _ h]
      exact pre_congr l x fun y hy _ => c1 y hy
    · have e : x = w := by
        rcases List.mem_append.mp hx with z | z
        · exact absurd z h
        · simpa using z
      subst e
      rw [pre_not _ _ _ _ h, pre_not _ _ _ _ h, tot_congr l c1, pre_self, pre_self]
  have preUs' : ∀ x ∈ us, pre s'.L s'.upper x = tot s.L u1 + (s.L w - Z1 * (k : Int)) + pre s.L us' x := fun x hx => by
    have hxw : w ≠ x := fun e => n3 (by rw [e]; exact hx)
    rw [u.up', pre_not _ _ _ _ (fun z => n5 x z hx), tot_congr u1 c2, pre_other _ _ hxw, Lw w, if_pos rfl, pre_congr us' x fun y hy _ => c3 y hy]
    omega
  have preUs : ∀ x ∈ us, pre s.L s.upper x = tot s.L u1 + s.L w + pre s.L us x := fun x hx => by
    have hxw : w ≠ x := fun e => n3 (by rw [e]; exact hx)
    rw [u.up, pre_not _ _ _ _ (fun z => n5 x z hx), pre_other _ _ hxw]
    omega
  have finlt : s'.fin < s.fin := by rw [u.fin']; omega
  have lossw := u.lt
  have kZ : Z ≤ (k : Int) * Z := by
    have h4 : (1 : Int) * Z ≤ (k : Int) * Z := Int.mul_le_mul_of_nonneg_right (by omega) (by omega)
    rw [Int.one_mul] at h4
    exact h4
  refine ⟨⟨?_, ?_, fun x hx => ?_, by rw [gr.left, List.length_set]; exact g.ll, gr.tl.trans g.tl, fun x hx => ?_, ?_, Int.le_trans (Int.le_of_lt finlt) g.le, fun x hx => ?_, fun p p0 p1 => ?_, fun z hz => ?_⟩, finlt⟩
  · have pu : s.upper.Perm s'.upper := by
      rw [u.up, u.up']
      exact (u.pm.cons w).append_left u1
    exact pu.nodup_iff.mp g.nu
  · have pu : s.upper.Perm s'.upper := by
      rw [u.up, u.up']
      exact (u.pm.cons w).append_left u1
    rw [u.lo']
    exact pu.symm.trans g.perm
  · have pu : s.upper.Perm s'.upper := by
      rw [u.up, u.up']
      exact (u.pm.cons w).append_left u1
    exact g.lt x (pu.mem_iff.mpr hx)
  · have pu : s.upper.Perm s'.upper := by
      rw [u.up, u.up']
      exact (u.pm.cons w).append_left u1
    rw [Lw]
    by_cases e : x = w
    · rw [if_pos e]; omega
    · rw [if_neg e]; exact g.pos x (pu.mem_iff.mpr hx)
  · have e1 : tot s'.L s'.upper = tot s.L u1 + (s'.L w + tot s.L us') := by
      rw [u.up', tot_append, tot_congr u1 c2]
      show _ + (s'.L w + tot s'.L us') = _
      rw [tot_congr us' c3]
    rw [u.fin', e1, Lw, if_pos rfl, ← tot_perm s.L u.pm, ← u.Ze]
    omega
  · have pu : s.upper.Perm s'.upper := by
      rw [u.up, u.up']
      exact (u.pm.cons w).append_left u1
    have hx := pu.mem_iff.mpr hx
    have hP := g.word x hx
    have hl := preL x hx
    have keepT : x ∉ ls1 → s'.tale x = s.tale x := gr.same x
    rcases mem x hx with h | h | h
    · have hxl : x ∉ us := n5 x h
      have hxw : x ≠ w := fun e => n2 (by rw [← e]; exact h)
      refine hP.keep (Int.le_of_lt finlt) ?_ hl (by rw [Lne x hxw]; exact Int.le_refl _) gr.ext (keepT fun z => hxl (u.sub x z))
      rw [u.up', u.up, pre_mem _ _ _ _ h, pre_mem _ _ _ _ h]
      exact pre_congr u1 x fun y hy _ => c2 y hy
    · subst h
      refine hP.keep (Int.le_of_lt finlt) ?_ hl (by rw [Lw, if_pos rfl]; omega) gr.ext (keepT fun z => n3 (u.sub x z))
      rw [preUw, u.up', pre_not _ _ _ _ n2, pre_self, tot_congr u1 c2]
      omega
    · have hxw : x ≠ w := fun e => n3 (by rw [← e]; exact h)
      by_cases h1 : x ∈ ls1
      · have a1 := u.bef1 x h1
        have a2 := u.in1 x h1
        have a3 := pre_le us x posus h
        have e1 := preUs' x h
        have e2 := preUs x h
        refine Piece.ahead (Z := Z) (bw := tot s.L u1) hP hww t2' u.hk (by omega) (by rw [u.fin', finU]; omega) ?_ (Int.le_of_lt finlt) (by omega) hl (Lne x hxw) (Int.le_of_lt hZp) (gr.grow x h1)
        rw [e2, finU, u.Ze]
        omega
      · have a1 := u.bef2 x h h1
        refine hP.keep (Int.le_of_lt finlt) ?_ hl (by rw [Lne x hxw]; exact Int.le_refl _) gr.ext (keepT h1)
        rw [preUs' x h, preUs x h]
        omega
  · rw [u.recs', u.fin', t1.sz]
    refine (g.cov p p0 p1).stage fun q q0 q1 => ?_
    have pk : ∀ y ∈ us, ∃ t, IsT s.nodes (s.tale y) t ∧ t.drift = pre s.L s.lower y - pre s.L s.upper y ∧ ∀ q, pre s.L s.upper y ≤ q → q < pre s.L s.upper y + s.L y → Wd T s.fin t q := fun y hy => g.word y (usU y hy)
    have hsz : ∀ y : Nat, ∃ t : Tr, y ∈ us → IsT s.nodes (s.tale y) t ∧ t.drift = pre s.L s.lower y - pre s.L s.upper y ∧ ∀ q, pre s.L s.upper y ≤ q → q < pre s.L s.upper y + s.L y → Wd T s.fin t q := fun y => by
      by_cases hy : y ∈ us
      · obtain ⟨t, ht⟩ := pk y hy
        exact ⟨t, fun _ => ht⟩
      · exact ⟨tw, fun z => absurd z hy⟩
    let tr : Nat → Tr := fun y => (hsz y).choose
    have htr : ∀ y ∈ us, IsT s.nodes (s.tale y) (tr y) ∧ (tr y).drift = pre s.L s.lower y - pre s.L s.upper y ∧ ∀ q, pre s.L s.upper y ≤ q → q < pre s.L s.upper y + s.L y → Wd T s.fin (tr y) q := fun y hy => (hsz y).choose_spec hy
    have lsl : ∀ y ∈ us, y ∈ l := fun y hy => by
      have hy2 := g.perm.mem_iff.mp (usU y hy)
      rw [u.lo] at hy2
      rcases List.mem_append.mp hy2 with z | z
      · exact z
      · have : y = w := by simpa using z
        exact absurd (by rw [← this]; exact hy) n3
    refine enter_lo (T := T) (bw := tot s.L u1) (L := s.L) (u := s.upper) (l := s.lower) (us := us) (tr := tr) (b0 := s.fin - Z) u.ne n4 posus u.Ze hww t2' (by omega) rfl ?_ (fun y hy => ?_) (fun y hy => (htr y hy).2) (fun y hy => ?_) (fun y hy => ?_) q0 q1
    · unfold St.shown
      refine List.map_congr_left fun y hy => ?_
      rw [(htr y hy).1.sz, preUs y hy]
      have : tot s.L u1 + s.L w + pre s.L us y = s.fin - Z + pre s.L us y := by omega
      rw [this]
    · rw [preUs y hy]; omega
    · rw [u.lo, pre_mem _ _ _ _ (lsl y hy)]
      exact pre_nn l y posl
    · rw [u.lo, pre_mem _ _ _ _ (lsl y hy)]
      have := pre_le l y posl (lsl y hy)
      omega
  · rw [u.recs', bands_st] at hz
    exact (g.bds z hz).ext gr.ext
end Rz
end
section
namespace Rz

theorem good_bnd {n : Int} {T : Int → Int} {m : Nat} {s : St} {o : Nat} {us ls : List Nat} (g : Good n T m s) (hu : s.upper = us ++ [o]) (hl : s.lower = ls ++ [o]) : Good n T m (bnd s o) ∧ (bnd s o).fin < s.fin := by
  have ho : o ∈ s.upper := by rw [hu]; simp
  have ndu := g.nu
  have ndl := g.perm.nodup_iff.mp g.nu
  rw [hu, List.nodup_append] at ndu
  rw [hl, List.nodup_append] at ndl
  have nou : o ∉ us := fun z => ndu.2.2 o z o (by simp) rfl
  have nol : o ∉ ls := fun z => ndl.2.2 o z o (by simp) rfl
  have pm : us.Perm ls := by
    have := g.perm
    rw [hu, hl] at this
    exact (List.perm_append_right_iff [o]).mp this
  have eu : (bnd s o).upper = us := by show s.upper.dropLast = us; rw [hu]; exact List.dropLast_concat
  have el : (bnd s o).lower = ls := by show s.lower.dropLast = ls; rw [hl]; exact List.dropLast_concat
  have sub : ∀ x ∈ us, x ∈ s.upper := fun x hx => by rw [hu]; simp [hx]
  have po := g.pos o ho
  have fe : s.fin = tot s.L us + s.L o := by
    rw [g.fin, hu, tot_append]
    show _ + (s.L o + 0) = _
    omega
  have usnn := tot_nn us fun y hy => g.pos y (sub y hy)
  obtain ⟨t, t1, t2, t3⟩ := g.word o ho
  have pu : pre s.L s.upper o = tot s.L us := by rw [hu, pre_not _ _ _ _ nou, pre_self]; omega
  have pl : pre s.L s.lower o = tot s.L ls := by rw [hl, pre_not _ _ _ _ nol, pre_self]; omega
  have te : tot s.L us = tot s.L ls := tot_perm s.L pm
  have finlt : (bnd s o).fin < s.fin := by
    show s.fin - s.L o < s.fin
    omega
  refine ⟨⟨by rw [eu]; exact ndu.1, by rw [eu, el]; exact pm, fun x hx => ?_, g.ll, g.tl, fun x hx => ?_, ?_, Int.le_trans (Int.le_of_lt finlt) g.le, fun x hx => ?_, fun p p0 p1 => ?_, fun z hz => ?_⟩, finlt⟩
  · rw [eu] at hx; exact g.lt x (sub x hx)
  · rw [eu] at hx; exact g.pos x (sub x hx)
  · show s.fin - s.L o = tot s.L (bnd s o).upper
    rw [eu]; omega
  · rw [eu] at hx
    have hxl := pm.mem_iff.mp hx
    refine (g.word x (sub x hx)).keep (Int.le_of_lt finlt) ?_ ?_ (Int.le_refl _) ⟨[], by simp [bnd]⟩ rfl
    · rw [eu, hu, pre_mem _ _ _ _ hx]; rfl
    · rw [el, hl, pre_mem _ _ _ _ hxl]; rfl
  · exact (g.cov p p0 p1).band
  · have hz : z ∈ bands (s.recs ++ [.bd (s.fin - s.L o) (s.L o) (s.tale o)]) := hz
    rw [bands_bd] at hz
    rcases List.mem_append.mp hz with q | q
    · exact g.bds z q
    · have e : z = (s.fin - s.L o, s.L o, s.tale o) := by simpa using q
      subst e
      have fl := g.le
      refine ⟨?_, po, ?_, t, t1, ?_, fun q q0 q1 => ?_⟩
      · show 0 ≤ s.fin - s.L o
        omega
      · show s.fin - s.L o + s.L o ≤ n
        omega
      · rw [t2, pu, pl]; omega
      · have q0' : s.fin - s.L o ≤ q := q0
        have q1' : q < s.fin - s.L o + s.L o := q1
        show Wd T (s.fin - s.L o + s.L o) t q
        rw [show s.fin - s.L o + s.L o = s.fin by omega]
        exact t3 q (by rw [pu]; omega) (by rw [pu]; omega)

theorem good_eq {n : Int} {T : Int → Int} {m : Nat} {s : St} {a b : Nat} {us ls : List Nat} (g : Good n T m s) (hu : s.upper = us ++ [a]) (hl : s.lower = ls ++ [b]) (hab : a ≠ b) (hL : s.L a = s.L b) : Good n T m (eqW s a b) ∧ (eqW s a b).fin < s.fin := by
  have ha : a ∈ s.upper := by rw [hu]; simp
  have hb : b ∈ s.upper := g.perm.mem_iff.mpr (by rw [hl]; simp)
  have hal : a ∈ ls := by
    have := g.perm.mem_iff.mp ha
    rw [hl] at this
    rcases List.mem_append.mp this with z | z
    · exact z
    · exact absurd (by simpa using z) hab
  obtain ⟨l1, l2, el0⟩ := List.append_of_mem hal
  have ndu := g.nu
  have ndl := g.perm.nodup_iff.mp g.nu
  have pm0 := g.perm
  rw [hu, List.nodup_append] at ndu
  rw [hl, List.nodup_append] at ndl
  have nau : a ∉ us := fun z => ndu.2.2 a z a (by simp) rfl
  have nbl : b ∉ ls := fun z => ndl.2.2 b z b (by simp) rfl
  have ndls := ndl.1
  rw [el0, List.nodup_append, List.nodup_cons] at ndls
  have nal1 : a ∉ l1 := fun z => ndls.2.2 a z a (by simp) rfl
  have nal2 : a ∉ l2 := ndls.2.1.1
  have nbl1 : b ∉ l1 := fun z => nbl (by rw [el0]; simp [z])
  have nbl2 : b ∉ l2 := fun z => nbl (by rw [el0]; simp [z])
  have bus : b ∈ us := by
    rw [hu] at hb
    rcases List.mem_append.mp hb with z | z
    · exact z
    · exact absurd (by simpa using z) (fun q : b = a => hab q.symm)
  have sub : ∀ x ∈ us, x ∈ s.upper := fun x hx => by rw [hu]; simp [hx]
  have eu : (eqW s a b).upper = us := by show s.upper.dropLast = us; rw [hu]; exact List.dropLast_concat
  have el : (eqW s a b).lower = l1 ++ b :: l2 := by
    show s.lower.dropLast.set (s.lower.dropLast.idxOf a) b = _
    rw [hl, List.dropLast_concat, el0, idx_mid nal1, set_mid]
  have ebt : b < s.tales.length := by rw [g.tl]; exact g.lt b hb
  obtain ⟨ta, ta1, ta2, ta3⟩ := g.word a ha
  have k1 : Kept (s.stage (s.fin - s.L a) (s.L a) 0 [a]) (St.after (s.tale a) (s.stage (s.fin - s.L a) (s.L a) 0 [a]) b) := kept_after _ _ _
  have htale : ∀ x, (eqW s a b).tale x = if x = b then s.nodes.length else s.tale x := fun x => getD_set s.tales b x _ _ ebt
  have ext : ∃ r, (eqW s a b).nodes = s.nodes ++ r := ⟨_, rfl⟩
  have pa := g.pos a ha
  have fe : s.fin = tot s.L us + s.L a := by
    rw [g.fin, hu, tot_append]
    show _ + (s.L a + 0) = _
    omega
  have finlt : (eqW s a b).fin < s.fin := by
    show s.fin - s.L a < s.fin
    omega
  have usnn := tot_nn us fun y hy => g.pos y (sub y hy)
  have fel : s.fin = tot s.L ls + s.L b := by
    rw [g.fin, tot_perm s.L g.perm, hl, tot_append]
    show _ + (s.L b + 0) = _
    omega
  have pua : pre s.L s.upper a = tot s.L us := by rw [hu, pre_not _ _ _ _ nau, pre_self]; omega
  have plb : pre s.L s.lower b = tot s.L ls := by rw [hl, pre_not _ _ _ _ nbl, pre_self]; omega
  have pla : pre s.L s.lower a = tot s.L l1 := by rw [hl, pre_mem _ _ _ _ hal, el0, pre_not _ _ _ _ nal1, pre_self]; omega
  have posls : ∀ y ∈ ls, 1 ≤ s.L y := fun y hy => g.pos y (g.perm.mem_iff.mpr (by rw [hl]; simp [hy]))
  have l1nn := tot_nn l1 fun y hy => posls y (by rw [el0]; simp [hy])
  have l2nn := tot_nn l2 fun y hy => posls y (by rw [el0]; simp [hy])
  have tls : tot s.L ls = tot s.L l1 + (s.L a + tot s.L l2) := by rw [el0, tot_append]; rfl
  refine ⟨⟨by rw [eu]; exact ndu.1, ?_, fun x hx => ?_, g.ll, ?_, fun x hx => ?_, ?_, Int.le_trans (Int.le_of_lt finlt) g.le, fun x hx => ?_, fun p p0 p1 => ?_, fun z hz => ?_⟩, finlt⟩
  · rw [eu, el]
    have h1 : (us ++ [a]).Perm (l1 ++ a :: l2 ++ [b]) := by rw [← hu, ← el0, ← hl]; exact g.perm
    have h2 : (l1 ++ a :: l2 ++ [b]).Perm (l1 ++ b :: l2 ++ [a]) := by
      rw [List.append_assoc, List.append_assoc]
      refine List.Perm.append_left l1 ?_
      show (a :: (l2 ++ [b])).Perm (b :: (l2 ++ [a]))
      have e1 : (l2 ++ [b]).Perm (b :: l2) := List.perm_append_singleton b l2
      have e2 : (l2 ++ [a]).Perm (a :: l2) := List.perm_append_singleton a l2
      exact ((e1.cons a).trans (List.Perm.swap b a l2)).trans (e2.symm.cons b)
    exact (List.perm_append_right_iff [a]).mp (h1.trans h2)
  · rw [eu] at hx; exact g.lt x (sub x hx)
  · show (s.tales.set b _).length = m
    rw [List.length_set]; exact g.tl
  · rw [eu] at hx; exact g.pos x (sub x hx)
  · show s.fin - s.L a = tot s.L (eqW s a b).upper
    rw [eu]; omega
  · rw [eu] at hx
    have hxa : x ≠ a := fun e => nau (by rw [← e]; exact hx)
    have hP := g.word x (sub x hx)
    have hpu : pre s.L (eqW s a b).upper x = pre s.L s.upper x := by rw [eu, hu, pre_mem _ _ _ _ hx]
    by_cases hxb : x = b
    · subst hxb
      have e1 : ((1 : Nat) : Int) = 1 := rfl
      refine Piece.after (Z := s.L a + tot s.L l2) (Z1 := s.L a) (tw := ta) (k := 1) (bw := tot s.L us) (L := s.L) hP (fun q q0 q1 => ta3 q (by rw [pua]; exact q0) (by rw [pua]; omega)) (by rw [ta2, pua, pla]; omega) Nat.one_pos (.inr rfl) ?_ ?_ ?_ ?_ hpu ?_ rfl (by omega) (Int.le_of_lt finlt) fun t ht => ?_
      · show s.fin - s.L a = s.fin - s.L a * ((1 : Nat) : Int)
        rw [e1, Int.mul_one]
      · show tot s.L us ≤ s.fin - s.L a
        omega
      · rw [plb]; omega
      · rw [plb]; omega
      · rw [el, plb, e1]
        show pre s.L (l1 ++ x :: l2) x = _
        rw [pre_not _ _ _ _ nbl1, pre_self]
        omega
      · rw [htale, if_pos rfl]
        show IsT ((s.stage (s.fin - s.L a) (s.L a) 0 [a]).two (s.tale x) (s.tale a)).nodes s.nodes.length (.two t (timT ta 1))
        rw [show timT ta 1 = ta from if_pos rfl]
        exact IsT.mkTwo (s := s.stage (s.fin - s.L a) (s.L a) 0 [a]) ht ta1
    · refine hP.keep (Int.le_of_lt finlt) hpu ?_ (Int.le_refl _) ext (by rw [htale, if_neg hxb])
      have hxl := g.perm.mem_iff.mp (sub x hx)
      rw [hl] at hxl
      have hxls : x ∈ ls := by
        rcases List.mem_append.mp hxl with z | z
        · exact z
        · exact absurd (by simpa using z) hxb
      rw [el, hl, pre_mem _ _ _ _ hxls]
      show pre s.L (l1 ++ b :: l2) x = pre s.L ls x
      rw [el0]
      by_cases h1 : x ∈ l1
      · rw [pre_mem _ _ _ _ h1, pre_mem _ _ _ _ h1]
      · rw [pre_not _ _ _ _ h1, pre_not _ _ _ _ h1, pre_other _ _ (fun e => hxb e.symm), pre_other _ _ (fun e => hxa e.symm), hL]
  · refine (g.cov p p0 p1).stage fun q q0 q1 => ?_
    show 0 ≤ ((Stg.mk s.fin (s.fin - s.L a) (s.L a) 0 (s.shown [a])).entered q).1 ∧ _
    by_cases hq : q < s.fin - s.L a
    · have e1 : (Stg.mk s.fin (s.fin - s.L a) (s.L a) 0 (s.shown [a])).entered q = (q, 0) := if_pos hq
      rw [e1]
      exact ⟨q0, hq, rfl⟩
    · have z0 : (s.fin - 1 - q) / s.L a = 0 := Int.ediv_eq_zero_of_lt (by omega) (by omega)
      have e1 : (Stg.mk s.fin (s.fin - s.L a) (s.L a) 0 (s.shown [a])).entered q = (q + (pre s.L s.lower a - pre s.L s.upper a), ta.size) := by
        show (if q < s.fin - s.L a then (q, 0) else (if s.shown [a] = [] then _ else _)) = _
        rw [if_neg hq, if_neg (by simp [St.shown])]
        show (q + (s.fin - 1 - q) / s.L a * s.L a + ((lastLe (q + (s.fin - 1 - q) / s.L a * s.L a) (s.shown [a])).getD (0, 0, 0)).2.1, ((s.fin - 1 - q) / s.L a).toNat * 0 + ((lastLe (q + (s.fin - 1 - q) / s.L a * s.L a) (s.shown [a])).getD (0, 0, 0)).2.2) = _
        rw [z0, Int.zero_mul, Int.add_zero]
        have hl2 : lastLe q (s.shown [a]) = some (pre s.L s.upper a, pre s.L s.lower a - pre s.L s.upper a, ta.size) := by
          unfold lastLe St.shown
          dsimp only
          rw [List.map_cons, List.map_nil, List.filter_cons, if_pos (by rw [pua]; simp only [decide_eq_true_eq]; omega), ta1.sz]
          rfl
        rw [hl2]
        simp
      rw [e1]
      have hw := ta3 q (by rw [pua]; omega) (by rw [pua]; omega)
      refine ⟨?_, ?_, ?_⟩
      · show 0 ≤ q + (pre s.L s.lower a - pre s.L s.upper a)
        rw [pua, pla]; omega
      · show q + (pre s.L s.lower a - pre s.L s.upper a) < s.fin - s.L a
        rw [pua, pla]; omega
      · show it T ta.size q = _
        rw [hw.land, ta2]
  · have hz : z ∈ bands (s.recs ++ [.st _]) := hz
    rw [bands_st] at hz
    exact (g.bds z hz).ext ext
end Rz
end
section
namespace Rz

/-- upW where the whole losers go, many times -/
theorem upW_many {n : Int} {T : Int → Int} {m : Nat} {s : St} {w : Nat} {us l1 ls : List Nat} (g : Good n T m s) (hu : s.upper = us ++ [w]) (hl : s.lower = l1 ++ w :: ls) (hne : ls ≠ []) (hm : (s.L w - 1) / tot s.L ls ≠ 0) :
    UpNew s (upW s w) w us l1 ls ls ls ((s.L w - 1) / tot s.L ls).toNat (tot s.L ls) (tot s.L ls) ∧ ∀ tw, IsT s.nodes (s.tale w) tw → Grown s (upW s w) w (tot s.L ls * (((s.L w - 1) / tot s.L ls).toNat : Int)) ls (fun t => .two t (timT tw ((s.L w - 1) / tot s.L ls).toNat)) := by
  have ndl := g.perm.nodup_iff.mp g.nu
  have memL : ∀ x ∈ s.lower, x ∈ s.upper := fun x hx => g.perm.mem_iff.mpr hx
  rw [hl, List.nodup_append, List.nodup_cons] at ndl
  have nw : w ∉ l1 := fun z => ndl.2.2 w z w (by simp) rfl
  have posls : ∀ y ∈ ls, 1 ≤ s.L y := fun y hy => g.pos y (memL y (by rw [hl]; simp [hy]))
  have hZ : 0 < tot s.L ls := by
    cases ls with
    | nil => exact absurd rfl hne
    | cons y r =>
      have a1 := posls y List.mem_cons_self
      have a2 := tot_nn r fun z hz => posls z (List.mem_cons_of_mem y hz)
      show 0 < s.L y + tot s.L r
      omega
  have pw : 1 ≤ s.L w := g.pos w (by rw [hu]; simp)
  have d0 : 0 ≤ (s.L w - 1) / tot s.L ls := Int.ediv_nonneg (by omega) (by omega)
  have d1 : tot s.L ls * ((s.L w - 1) / tot s.L ls) ≤ s.L w - 1 := Int.mul_ediv_self_le (by omega)
  obtain ⟨k, hk⟩ : ∃ k : Nat, (s.L w - 1) / tot s.L ls = (k : Int) := ⟨((s.L w - 1) / tot s.L ls).toNat, by omega⟩
  have hkk : ((s.L w - 1) / tot s.L ls).toNat = k := by rw [hk]; rfl
  rw [hk] at d1
  have hk0 : 0 < k := by
    rcases Nat.eq_zero_or_pos k with z | z
    · rw [z] at hk; exact absurd hk hm
    · exact z
  have espot : s.lower.drop (s.lower.idxOf w + 1) = ls := by rw [hl, idx_mid nw, drop_mid]
  have hks : (k : Int) ≠ 0 := by omega
  have eW : upW s w = ((ls.foldl (St.after ((s.stage (s.fin - tot s.L ls * (k : Int)) (tot s.L ls) (s.sz (s.tale w)) []).timI (s.tale w) k)) ((s.stage (s.fin - tot s.L ls * (k : Int)) (tot s.L ls) (s.sz (s.tale w)) []).tim (s.tale w) k)).cut w (tot s.L ls * (k : Int))) := by
    unfold upW
    dsimp only
    rw [espot, hk, if_neg hks, if_neg hks, if_neg hks]
    rfl
  have memls : ∀ x ∈ ls, x < s.tales.length := fun x hx => by rw [g.tl]; exact g.lt x (memL x (by rw [hl]; simp [hx]))
  rw [hkk, eW]
  have gr := fun tw (h : IsT s.nodes (s.tale w) tw) => grown_after (s := s) (s2 := s.stage (s.fin - tot s.L ls * (k : Int)) (tot s.L ls) (s.sz (s.tale w)) []) (w := w) (k := k) (tw := tw) (ls1 := ls) (loss := tot s.L ls * (k : Int)) rfl rfl rfl ndl.2.1.2 memls h
  refine ⟨?_, fun tw h => (gr tw h).1⟩
  obtain ⟨tw, t1, _⟩ := g.word w (by rw [hu]; simp)
  obtain ⟨_, r1, r2, r3, r4⟩ := gr tw t1
  exact ⟨hu, hl, r2, r3.trans hl, .refl _, fun _ h => h, rfl, rfl, hk0, .inl rfl, hZ, Int.le_refl _, by omega, r4, r1, fun x hx => by
      have := pre_nn ls x posls
      omega, fun x _ => by rw [Int.mul_comm (k : Int)], fun x h1 h2 => absurd h1 h2⟩

/-- upW where only the last one goes, once -/
theorem upW_one {n : Int} {T : Int → Int} {m : Nat} {s : St} {w z : Nat} {us l1 l2 : List Nat} (g : Good n T m s) (hu : s.upper = us ++ [w]) (hl : s.lower = l1 ++ w :: (l2 ++ [z])) (hlt : s.L z < s.L w) (hm : (s.L w - 1) / tot s.L (l2 ++ [z]) = 0) :
    UpNew s (upW s w) w us l1 (l2 ++ [z]) (z :: l2) [z] 1 (tot s.L (l2 ++ [z])) (tot s.L [z]) ∧ ∀ tw, IsT s.nodes (s.tale w) tw → Grown s (upW s w) w (tot s.L [z] * ((1 : Nat) : Int)) [z] (fun t => .two t (timT tw 1)) := by
  have ndl := g.perm.nodup_iff.mp g.nu
  have memL : ∀ x ∈ s.lower, x ∈ s.upper := fun x hx => g.perm.mem_iff.mpr hx
  have elast : s.lastL = z := by
    unfold St.lastL
    rw [hl, show l1 ++ w :: (l2 ++ [z]) = (l1 ++ w :: l2) ++ [z] by simp]
    exact last_at _ _
  have ez : z ∈ s.lower := by rw [hl]; simp
  rw [hl, List.nodup_append, List.nodup_cons, List.nodup_append] at ndl
  have nw : w ∉ l1 := fun q => ndl.2.2 w q w (by simp) rfl
  have nz2 : z ∉ l2 := fun q => ndl.2.1.2.2.2 z q z (by simp) rfl
  have pz : 1 ≤ s.L z := g.pos z (memL z ez)
  have posl2 : ∀ y ∈ l2, 1 ≤ s.L y := fun y hy => g.pos y (memL y (by rw [hl]; simp [hy]))
  have nn2 := tot_nn l2 posl2
  have tz : tot s.L [z] = s.L z := by
    show s.L z + 0 = _
    omega
  have tls : tot s.L (l2 ++ [z]) = tot s.L l2 + s.L z := by rw [tot_append, tz]
  have e1 : ((1 : Nat) : Int) = 1 := rfl
  have espot : s.lower.drop (s.lower.idxOf w + 1) = l2 ++ [z] := by rw [hl, idx_mid nw, drop_mid]
  have eins : s.lower.dropLast.insertIdx (s.lower.idxOf w + 1) s.lastL = l1 ++ w :: z :: l2 := by
    rw [elast, hl, idx_mid nw, dropLast_mid, ins_mid]
  have eW : upW s w = (([z].foldl (St.after (({ s with lower := l1 ++ w :: z :: l2 } : St).stage (s.fin - tot s.L [z] * ((1 : Nat) : Int)) (tot s.L (l2 ++ [z])) (s.sz (s.tale w)) [] |>.timI (s.tale w) 1)) (({ s with lower := l1 ++ w :: z :: l2 } : St).stage (s.fin - tot s.L [z] * ((1 : Nat) : Int)) (tot s.L (l2 ++ [z])) (s.sz (s.tale w)) [] |>.tim (s.tale w) 1)).cut w (tot s.L [z] * ((1 : Nat) : Int))) := by
    unfold upW
    dsimp only
    rw [espot, hm, if_pos rfl, if_pos rfl, if_pos rfl, eins, drop_last]
    rfl
  have zt : z < s.tales.length := by rw [g.tl]; exact g.lt z (memL z ez)
  rw [eW]
  have gr := fun tw (h : IsT s.nodes (s.tale w) tw) => grown_after (s := s) (s2 := ({ s with lower := l1 ++ w :: z :: l2 } : St).stage (s.fin - tot s.L [z] * ((1 : Nat) : Int)) (tot s.L (l2 ++ [z])) (s.sz (s.tale w)) []) (w := w) (k := 1) (tw := tw) (ls1 := [z]) (loss := tot s.L [z] * ((1 : Nat) : Int)) rfl rfl rfl (by simp) (fun x hx => by rw [List.mem_singleton.mp hx]; exact zt) h
  refine ⟨?_, fun tw h => (gr tw h).1⟩
  obtain ⟨tw, t1, _⟩ := g.word w (by rw [hu]; simp)
  obtain ⟨_, r1, r2, r3, r4⟩ := gr tw t1
  refine ⟨hu, hl, r2, r3, List.perm_append_singleton z l2, fun x hx => by rw [List.mem_singleton.mp hx]; simp, rfl, rfl, Nat.one_pos, .inr rfl, by omega, by omega, by rw [tz, e1]; omega, r4, r1, fun x hx => ?_, fun x hx => ?_, fun x hx hx1 => ?_⟩
  · rw [List.mem_singleton.mp hx, pre_not _ _ _ _ nz2, pre_self, tls, tz]; omega
  · rw [List.mem_singleton.mp hx, pre_not _ _ _ _ nz2, pre_self, pre_self, tls, tz, e1]; omega
  · have hx2 : x ∈ l2 := by
      rcases List.mem_append.mp hx with q | q
      · exact q
      · exact absurd q hx1
    have hxz : z ≠ x := fun e => nz2 (by rw [e]; exact hx2)
    rw [pre_mem _ _ _ _ hx2, pre_other _ _ hxz, tz, e1]
    omega

theorem loW_many {n : Int} {T : Int → Int} {m : Nat} {s : St} {w : Nat} {u1 us l : List Nat} (g : Good n T m s) (hu : s.upper = u1 ++ w :: us) (hl : s.lower = l ++ [w]) (hne : us ≠ []) (hm : (s.L w - 1) / tot s.L us ≠ 0) :
    LoNew s (loW s w) w u1 us us l us ((s.L w - 1) / tot s.L us).toNat (tot s.L us) (tot s.L us) ∧ ∀ tw, IsT s.nodes (s.tale w) tw → Grown s (loW s w) w (tot s.L us * (((s.L w - 1) / tot s.L us).toNat : Int)) us (fun t => .two (timT tw ((s.L w - 1) / tot s.L us).toNat) t) := by
  have ndu := g.nu
  rw [hu, List.nodup_append, List.nodup_cons] at ndu
  have nw : w ∉ u1 := fun z => ndu.2.2 w z w (by simp) rfl
  have posus : ∀ y ∈ us, 1 ≤ s.L y := fun y hy => g.pos y (by rw [hu]; simp [hy])
  have hZ : 0 < tot s.L us := by
    cases us with
    | nil => exact absurd rfl hne
    | cons y r =>
      have a1 := posus y List.mem_cons_self
      have a2 := tot_nn r fun z hz => posus z (List.mem_cons_of_mem y hz)
      show 0 < s.L y + tot s.L r
      omega
  have hwm : w ∈ s.upper := by rw [hu]; simp
  have pw : 1 ≤ s.L w := g.pos w hwm
  have d0 : 0 ≤ (s.L w - 1) / tot s.L us := Int.ediv_nonneg (by omega) (by omega)
  have d1 : tot s.L us * ((s.L w - 1) / tot s.L us) ≤ s.L w - 1 := Int.mul_ediv_self_le (by omega)
  obtain ⟨k, hk⟩ : ∃ k : Nat, (s.L w - 1) / tot s.L us = (k : Int) := ⟨((s.L w - 1) / tot s.L us).toNat, by omega⟩
  have hkk : ((s.L w - 1) / tot s.L us).toNat = k := by rw [hk]; rfl
  rw [hk] at d1
  have hk0 : 0 < k := by
    rcases Nat.eq_zero_or_pos k with z | z
    · rw [z] at hk; exact absurd hk hm
    · exact z
  have espot : s.upper.drop (s.upper.idxOf w + 1) = us := by rw [hu, idx_mid nw, drop_mid]
  have hks : (k : Int) ≠ 0 := by omega
  have eW : loW s w = ((us.foldl (St.ahead ((s.stage (s.fin - tot s.L us * (k : Int)) (tot s.L us) (s.sz (s.tale w)) us).timI (s.tale w) k)) ((s.stage (s.fin - tot s.L us * (k : Int)) (tot s.L us) (s.sz (s.tale w)) us).tim (s.tale w) k)).cut w (tot s.L us * (k : Int))) := by
    unfold loW
    dsimp only
    rw [espot, hk, if_neg hks, if_neg hks, if_neg hks]
    rfl
  have memus : ∀ x ∈ us, x < s.tales.length := fun x hx => by rw [g.tl]; exact g.lt x (by rw [hu]; simp [hx])
  rw [hkk, eW]
  have gr := fun tw (h : IsT s.nodes (s.tale w) tw) => grown_ahead (s := s) (s2 := s.stage (s.fin - tot s.L us * (k : Int)) (tot s.L us) (s.sz (s.tale w)) us) (w := w) (k := k) (tw := tw) (ls1 := us) (loss := tot s.L us * (k : Int)) rfl rfl rfl ndu.2.1.2 memus h
  refine ⟨?_, fun tw h => (gr tw h).1⟩
  obtain ⟨tw, t1, _⟩ := g.word w hwm
  obtain ⟨_, r1, r2, r3, r4⟩ := gr tw t1
  exact ⟨hu, hl, r2.trans hu, r3, .refl _, hne, fun _ h => h, rfl, rfl, hk0, .inl rfl, hZ, Int.le_refl _, by omega, r4, r1, fun x _ => by rw [Int.mul_comm (k : Int)], fun x hx => pre_nn us x posus, fun x h1 h2 => absurd h1 h2⟩

theorem loW_one {n : Int} {T : Int → Int} {m : Nat} {s : St} {w z : Nat} {u1 u2 l : List Nat} (g : Good n T m s) (hu : s.upper = u1 ++ w :: (u2 ++ [z])) (hl : s.lower = l ++ [w]) (hlt : s.L z < s.L w) (hm : (s.L w - 1) / tot s.L (u2 ++ [z]) = 0) :
    LoNew s (loW s w) w u1 (u2 ++ [z]) (z :: u2) l [z] 1 (tot s.L (u2 ++ [z])) (tot s.L [z]) ∧ ∀ tw, IsT s.nodes (s.tale w) tw → Grown s (loW s w) w (tot s.L [z] * ((1 : Nat) : Int)) [z] (fun t => .two (timT tw 1) t) := by
  have ndu := g.nu
  have elast : s.lastU = z := by
    unfold St.lastU
    rw [hu, show u1 ++ w :: (u2 ++ [z]) = (u1 ++ w :: u2) ++ [z] by simp]
    exact last_at _ _
  have ez : z ∈ s.upper := by rw [hu]; simp
  have hwm : w ∈ s.upper := by rw [hu]; simp
  rw [hu, List.nodup_append, List.nodup_cons, List.nodup_append] at ndu
  have nw : w ∉ u1 := fun q => ndu.2.2 w q w (by simp) rfl
  have nz2 : z ∉ u2 := fun q => ndu.2.1.2.2.2 z q z (by simp) rfl
  have pz : 1 ≤ s.L z := g.pos z ez
  have posu2 : ∀ y ∈ u2, 1 ≤ s.L y := fun y hy => g.pos y (by rw [hu]; simp [hy])
  have nn2 := tot_nn u2 posu2
  have tz : tot s.L [z] = s.L z := by
    show s.L z + 0 = _
    omega
  have tus : tot s.L (u2 ++ [z]) = tot s.L u2 + s.L z := by rw [tot_append, tz]
  have e1 : ((1 : Nat) : Int) = 1 := rfl
  have espot : s.upper.drop (s.upper.idxOf w + 1) = u2 ++ [z] := by rw [hu, idx_mid nw, drop_mid]
  have eins : s.upper.dropLast.insertIdx (s.upper.idxOf w + 1) s.lastU = u1 ++ w :: z :: u2 := by
    rw [elast, hu, idx_mid nw, dropLast_mid, ins_mid]
  have elu : (s.stage (s.fin - tot s.L [z] * ((1 : Nat) : Int)) (tot s.L (u2 ++ [z])) (s.sz (s.tale w)) (u2 ++ [z])).lastU = s.lastU := rfl
  have eW : loW s w = (([z].foldl (St.ahead (({ s.stage (s.fin - tot s.L [z] * ((1 : Nat) : Int)) (tot s.L (u2 ++ [z])) (s.sz (s.tale w)) (u2 ++ [z]) with upper := u1 ++ w :: z :: u2 } : St).timI (s.tale w) 1)) (({ s.stage (s.fin - tot s.L [z] * ((1 : Nat) : Int)) (tot s.L (u2 ++ [z])) (s.sz (s.tale w)) (u2 ++ [z]) with upper := u1 ++ w :: z :: u2 } : St).tim (s.tale w) 1)).cut w (tot s.L [z] * ((1 : Nat) : Int))) := by
    unfold loW
    dsimp only
    rw [espot, hm, if_pos rfl, if_pos rfl, if_pos rfl, drop_last]
    show _ = _
    have e3 : (s.stage (s.fin - tot s.L [z] * ((1 : Nat) : Int)) (tot s.L (u2 ++ [z])) (s.sz (s.tale w)) (u2 ++ [z])).upper.dropLast.insertIdx (s.upper.idxOf w + 1) (s.stage (s.fin - tot s.L [z] * ((1 : Nat) : Int)) (tot s.L (u2 ++ [z])) (s.sz (s.tale w)) (u2 ++ [z])).lastU = u1 ++ w :: z :: u2 := eins
    rw [e3]
  have zt : z < s.tales.length := by rw [g.tl]; exact g.lt z ez
  rw [eW]
  have gr := fun tw (h : IsT s.nodes (s.tale w) tw) => grown_ahead (s := s) (s2 := ({ s.stage (s.fin - tot s.L [z] * ((1 : Nat) : Int)) (tot s.L (u2 ++ [z])) (s.sz (s.tale w)) (u2 ++ [z]) with upper := u1 ++ w :: z :: u2 } : St)) (w := w) (k := 1) (tw := tw) (ls1 := [z]) (loss := tot s.L [z] * ((1 : Nat) : Int)) rfl rfl rfl (by simp) (fun x hx => by rw [List.mem_singleton.mp hx]; exact zt) h
  refine ⟨?_, fun tw h => (gr tw h).1⟩
  obtain ⟨tw, t1, _⟩ := g.word w hwm
  obtain ⟨_, r1, r2, r3, r4⟩ := gr tw t1
  refine ⟨hu, hl, r2, r3, List.perm_append_singleton z u2, by simp, fun x hx => by rw [List.mem_singleton.mp hx]; simp, rfl, rfl, Nat.one_pos, .inr rfl, by omega, by omega, by rw [tz, e1]; omega, r4, r1, fun x hx => ?_, fun x hx => ?_, fun x hx hx1 => ?_⟩
  · rw [List.mem_singleton.mp hx, pre_not _ _ _ _ nz2, pre_self, pre_self, tus, tz, e1]; omega
  · rw [List.mem_singleton.mp hx, pre_self]; exact Int.le_refl _
  · have hx2 : x ∈ u2 := by
      rcases List.mem_append.mp hx with q | q
      · exact q
      · exact absurd q hx1
    have hxz : z ≠ x := fun e => nz2 (by rw [e]; exact hx2)
    rw [pre_mem _ _ _ _ hx2, pre_other _ _ hxz, tz, e1]
    omega
end Rz
end
section
namespace Rz

theorem snoc_of {α : Type} : ∀ (l : List α), l ≠ [] → ∃ r z, l = r ++ [z] := fun l h => ⟨l.dropLast, l.getLast h, (List.dropLast_concat_getLast h).symm⟩

theorem good_shorten {n : Int} {T : Int → Int} {m : Nat} {s : St} (g : Good n T m s) (h : s.upper ≠ []) : Good n T m (shorten s) ∧ (shorten s).fin < s.fin := by
  have hlo : s.lower ≠ [] := fun z => by
    have := g.perm.length_eq
    rw [z] at this
    exact h (List.eq_nil_of_length_eq_zero this)
  obtain ⟨us, a, hu⟩ := snoc_of s.upper h
  obtain ⟨ls, b, hl⟩ := snoc_of s.lower hlo
  have ea : s.lastU = a := by unfold St.lastU; rw [hu]; exact last_at _ _
  have eb : s.lastL = b := by unfold St.lastL; rw [hl]; exact last_at _ _
  have ha : a ∈ s.upper := by rw [hu]; simp
  have hb : b ∈ s.upper := g.perm.mem_iff.mpr (by rw [hl]; simp)
  unfold shorten
  dsimp only
  rw [ea, eb]
  by_cases c1 : a = b
  · rw [if_pos c1]
    exact good_bnd g hu (by rw [hl, ← c1])
  · rw [if_neg c1]
    by_cases c2 : s.L a = s.L b
    · rw [if_pos c2]
      exact good_eq g hu hl c1 c2
    · rw [if_neg c2]
      by_cases c3 : s.L b < s.L a
      · rw [if_pos c3]
        have hal : a ∈ ls := by
          have := g.perm.mem_iff.mp ha
          rw [hl] at this
          rcases List.mem_append.mp this with z | z
          · exact z
          · exact absurd (by simpa using z) c1
        obtain ⟨l1, l2, el⟩ := List.append_of_mem hal
        have hl' : s.lower = l1 ++ a :: (l2 ++ [b]) := by rw [hl, el]; simp
        by_cases c4 : (s.L a - 1) / tot s.L (l2 ++ [b]) = 0
        · obtain ⟨h1, h2⟩ := upW_one g hu hl' c3 c4
          exact good_up g h1 h2
        · obtain ⟨h1, h2⟩ := upW_many g hu hl' (by simp) c4
          exact good_up g h1 h2
      · rw [if_neg c3]
        have hbu : b ∈ us := by
          rw [hu] at hb
          rcases List.mem_append.mp hb with z | z
          · exact z
          · exact absurd (by simpa using z : b = a).symm c1
        obtain ⟨u1, u2, eu⟩ := List.append_of_mem hbu
        have hu' : s.upper = u1 ++ b :: (u2 ++ [a]) := by rw [hu, eu]; simp
        by_cases c4 : (s.L b - 1) / tot s.L (u2 ++ [a]) = 0
        · obtain ⟨h1, h2⟩ := loW_one g hu' hl (by omega) c4
          exact good_lo g h1 h2
        · obtain ⟨h1, h2⟩ := loW_many g hu' hl (by simp) c4
          exact good_lo g h1 h2

/-- so many shortenings are enough -/
def Ends : Nat → St → Prop
  | 0, s => s.upper = []
  | k + 1, s => s.upper = [] ∨ Ends k (shorten s)
theorem Ends.mono : ∀ {j k : Nat} {s : St}, j ≤ k → Ends j s → Ends k s
  | 0, 0, _, _, h => h
  | 0, _ + 1, _, _, h => .inl h
  | j + 1, 0, _, hjk, _ => by omega
  | j + 1, k + 1, _, hjk, h => by
    rcases h with h | h
    · exact .inl h
    · exact .inr (Ends.mono (by omega) h)
theorem fin_pos {n T m s} (g : Good n T m s) (h : s.upper ≠ []) : 0 < s.fin := by
  obtain ⟨us, a, hu⟩ := snoc_of s.upper h
  have pa := g.pos a (by rw [hu]; simp)
  have := tot_nn us fun y hy => g.pos y (by rw [hu]; simp [hy])
  rw [g.fin, hu, tot_append]
  show 0 < tot s.L us + (s.L a + 0)
  omega
theorem ends_small {n : Int} {T : Int → Int} {m : Nat} : ∀ (k : Nat) {s : St}, Good n T m s → s.fin ≤ (k : Int) → Ends k s
  | 0, s, g, h => by
    show s.upper = []
    by_cases c : s.upper = []
    · exact c
    · have := fin_pos g c
      omega
  | k + 1, s, g, h => by
    by_cases c : s.upper = []
    · exact .inl c
    · obtain ⟨g', l⟩ := good_shorten g c
      exact .inr (ends_small k g' (by omega))

/-! ### two blocks -/
theorem ends_one {n : Int} {T : Int → Int} {m : Nat} {s : St} {a : Nat} (g : Good n T m s) (h : s.upper = [a]) : Ends 1 s := by
  have hl : s.lower = [a] := by
    have p := g.perm
    rw [h] at p
    exact (List.singleton_perm.mp p).symm
  refine .inr ?_
  show (shorten s).upper = []
  unfold shorten
  dsimp only
  have ea : s.lastU = a := by unfold St.lastU; rw [h]; rfl
  have eb : s.lastL = a := by unfold St.lastL; rw [hl]; rfl
  rw [ea, eb, if_pos rfl]
  show s.upper.dropLast = []
  rw [h]; rfl
theorem half {a b k : Int} (hb : 1 ≤ b) (hab : b < a) (hk : k = (a - 1) / b) : 1 ≤ k ∧ 1 ≤ a - b * k ∧ 2 * (a - b * k) ≤ a := by
  have d1 : b * k ≤ a - 1 := by rw [hk]; exact Int.mul_ediv_self_le (by omega)
  have d2 : a - 1 < b * k + b := by rw [hk]; exact Int.lt_mul_ediv_self_add (by omega)
  have d3 : 1 ≤ k := by rw [hk]; exact Int.le_ediv_of_mul_le (by omega) (by omega)
  have d4 : b * 1 ≤ b * k := Int.mul_le_mul_of_nonneg_left d3 (by omega)
  omega
theorem ends_two {n : Int} {T : Int → Int} {m : Nat} : ∀ (k : Nat) {s : St} {a b : Nat}, Good n T m s → s.upper = [b, a] → s.L a * s.L b < 2 ^ k → Ends (k + 2) s
  | k, s, a, b, g, h, hp => by
    have nd := g.nu
    have hab : a ≠ b := fun e => by rw [h, e] at nd; simp at nd
    have pa := g.pos a (by rw [h]; simp)
    have pb := g.pos b (by rw [h]; simp)
    obtain ⟨g', l⟩ := good_shorten g (by rw [h]; simp)
    have ea : s.lastU = a := by unfold St.lastU; rw [h]; rfl
    have hlow : s.lower = [b, a] ∨ s.lower = [a, b] := by
      have p := g.perm
      rw [h] at p
      match hs : s.lower with
      | [] => rw [hs] at p; exact absurd p.length_eq (by simp)
      | [x] => rw [hs] at p; exact absurd p.length_eq (by simp)
      | x :: y :: z :: r => rw [hs] at p; exact absurd p.length_eq (by simp)
      | [x, y] =>
        rw [hs] at p
        have hx := p.mem_iff.mpr (show x ∈ [x, y] by simp)
        have hy := p.mem_iff.mpr (show y ∈ [x, y] by simp)
        have hne : x ≠ y := fun e => by
          have q := p.nodup_iff.mp (by rw [← h]; exact nd)
          rw [e] at q; simp at q
        simp only [List.mem_cons, List.not_mem_nil, or_false] at hx hy
        rcases hx with rfl | rfl
        · rcases hy with rfl | rfl
          · exact absurd rfl hne
          · exact .inl rfl
        · rcases hy with rfl | rfl
          · exact .inr rfl
          · exact absurd rfl hne
    refine .inr ?_
    rcases hlow with hl | hl
    · have eb : s.lastL = a := by unfold St.lastL; rw [hl]; rfl
      have es : shorten s = bnd s a := by unfold shorten; dsimp only; rw [ea, eb, if_pos rfl]
      refine Ends.mono (by omega) (ends_one (a := b) g' ?_)
      rw [es]
      show s.upper.dropLast = [b]
      rw [h]; rfl
    · have eb : s.lastL = b := by unfold St.lastL; rw [hl]; rfl
      by_cases c2 : s.L a = s.L b
      · have es : shorten s = eqW s a b := by unfold shorten; dsimp only; rw [ea, eb, if_neg hab, if_pos c2]
        refine Ends.mono (by omega) (ends_one (a := b) g' ?_)
        rw [es]
        show s.upper.dropLast = [b]
        rw [h]; rfl
      · have lma : a < s.left.length := by rw [g.ll]; exact g.lt a (by rw [h]; simp)
        have lmb : b < s.left.length := by rw [g.ll]; exact g.lt b (by rw [h]; simp)
        have next : ∀ (x y : Nat) (kk : Nat), (shorten s).upper = s.upper → (shorten s).left = s.left.set x (s.L x - s.L y * (kk : Int)) → (x = a ∧ y = b ∨ x = b ∧ y = a) → 1 ≤ s.L x - s.L y * (kk : Int) → 2 * (s.L x - s.L y * (kk : Int)) ≤ s.L x → Ends (k + 1) (shorten s) := fun x y kk e1 e2 hxy h1 h2 => by
          have hx : x < s.left.length := by rcases hxy with ⟨rfl, _⟩ | ⟨rfl, _⟩ <;> assumption
          have Lx : (shorten s).L x = s.L x - s.L y * (kk : Int) := by
            unfold St.L; rw [e2, getD_set _ _ _ _ _ hx, if_pos rfl]; rfl
          have Ly : (shorten s).L y = s.L y := by
            have ne : y ≠ x := by
              rcases hxy with ⟨rfl, rfl⟩ | ⟨rfl, rfl⟩
              · exact fun e => hab e.symm
              · exact hab
            unfold St.L; rw [e2, getD_set _ _ _ _ _ hx, if_neg ne]
          have py : 1 ≤ s.L y := by rcases hxy with ⟨_, rfl⟩ | ⟨_, rfl⟩ <;> assumption
          have prod : s.L x * s.L y < 2 ^ k := by
            rcases hxy with ⟨rfl, rfl⟩ | ⟨rfl, rfl⟩
            · exact hp
            · rw [Int.mul_comm]; exact hp
          have m1 : 2 * (s.L x - s.L y * (kk : Int)) * s.L y ≤ s.L x * s.L y := Int.mul_le_mul_of_nonneg_right h2 (by omega)
          have m2 : 1 * 1 ≤ (s.L x - s.L y * (kk : Int)) * s.L y := Int.mul_le_mul h1 py (by omega) (by omega)
          rw [Int.mul_assoc] at m1
          match k, prod with
          | 0, prod =>
            simp only [Int.pow_zero] at prod
            omega
          | j + 1, prod =>
            rw [Int.pow_succ] at prod
            refine ends_two j (a := a) (b := b) g' (e1.trans h) ?_
            rcases hxy with ⟨rfl, rfl⟩ | ⟨rfl, rfl⟩
            · rw [Lx, Ly]; omega
            · rw [Lx, Ly, Int.mul_comm]; omega
        by_cases c3 : s.L b < s.L a
        · have es : shorten s = upW s a := by unfold shorten; dsimp only; rw [ea, eb, if_neg hab, if_neg c2, if_pos c3]
          have tb : tot s.L [b] = s.L b := by
            show s.L b + 0 = _
            omega
          obtain ⟨z1, z2, z3⟩ := half pb c3 rfl
          have hm : (s.L a - 1) / tot s.L [b] ≠ 0 := by rw [tb]; omega
          obtain ⟨u1, u2⟩ := upW_many (us := [b]) (l1 := []) (ls := [b]) g (by rw [h]; rfl) (by rw [hl]; rfl) (by simp) hm
          obtain ⟨tw, t1, _⟩ := g.word a (by rw [h]; simp)
          have gr := u2 tw t1
          have ek : (((s.L a - 1) / tot s.L [b]).toNat : Int) = (s.L a - 1) / s.L b := by rw [tb]; omega
          refine next a b ((s.L a - 1) / tot s.L [b]).toNat (by rw [es]; exact u1.up') (by rw [es, gr.left, tb]) (.inl ⟨rfl, rfl⟩) (by rw [ek]; exact z2) (by rw [ek]; exact z3)
        · have es : shorten s = loW s b := by unfold shorten; dsimp only; rw [ea, eb, if_neg hab, if_neg c2, if_neg c3]
          have ta : tot s.L [a] = s.L a := by
            show s.L a + 0 = _
            omega
          obtain ⟨z1, z2, z3⟩ := half pa (show s.L a < s.L b by omega) rfl
          have hm : (s.L b - 1) / tot s.L [a] ≠ 0 := by rw [ta]; omega
          obtain ⟨u1, u2⟩ := loW_many (u1 := []) (us := [a]) (l := [a]) g (by rw [h]; rfl) (by rw [hl]; rfl) (by simp) hm
          obtain ⟨tw, t1, _⟩ := g.word b (by rw [h]; simp)
          have gr := u2 tw t1
          have ek : (((s.L b - 1) / tot s.L [a]).toNat : Int) = (s.L b - 1) / s.L a := by rw [ta]; omega
          refine next b a ((s.L b - 1) / tot s.L [a]).toNat (by rw [es, u1.up', h]; rfl) (by rw [es, gr.left, ta]) (.inr ⟨rfl, rfl⟩) (by rw [ek]; exact z2) (by rw [ek]; exact z3)
end Rz
end
section
namespace Rz

/-! ### how large it grows -/
structure Bd (m : Nat) (s : St) : Prop where
  up : s.upper.length ≤ m
  len : s.nodes.length ≤ m + 7 * s.recs.length
  sz : ∀ d ∈ s.nodes, d.size ≤ 2 ^ (41 * s.recs.length)
theorem sz_le {s : St} {B : Nat} (h : ∀ d ∈ s.nodes, d.size ≤ B) (i : Nat) : s.sz i ≤ B := by
  unfold St.sz
  rw [List.getD_eq_getElem?_getD]
  cases e : s.nodes[i]? with
  | none => exact Nat.zero_le _
  | some d => exact h d (List.mem_of_getElem? e)
/-- between: all below B2, the tales still to grow below B -/
structure Bs (B B2 : Nat) (more : Nat) (ls : List Nat) (s : St) : Prop where
  all : ∀ d ∈ s.nodes, d.size ≤ B2
  tl : ∀ x ∈ ls, s.sz (s.tale x) ≤ B ∧ s.tale x < s.nodes.length
  mo : B + s.sz more ≤ B2 ∧ more < s.nodes.length
theorem sz_app {s : St} {d : Nd} {i : Nat} (h : i < s.nodes.length) : (s.add d).sz i = s.sz i := by
  unfold St.sz
  show ((s.nodes ++ [d]).getD i nd0).size = _
  rw [List.getD_eq_getElem?_getD, List.getD_eq_getElem?_getD, List.getElem?_append_left h]
theorem bs_after {B B2 more : Nat} : ∀ (ls : List Nat) (s : St), ls.Nodup → (∀ x ∈ ls, x < s.tales.length) → Bs B B2 more ls s →
    (∀ d ∈ (ls.foldl (St.after more) s).nodes, d.size ≤ B2) ∧ (ls.foldl (St.after more) s).nodes.length = s.nodes.length + ls.length
  | [], s, _, _, h => ⟨h.all, rfl⟩
  | y :: ls, s, nd, hl, h => by
    obtain ⟨n1, n2⟩ := List.nodup_cons.mp nd
    have hy := hl y List.mem_cons_self
    have lt1 : (St.after more s y).nodes.length = s.nodes.length + 1 := by
      show (s.nodes ++ [_]).length = _
      rw [List.length_append]; rfl
    have tale1 : ∀ x, x ≠ y → (St.after more s y).tale x = s.tale x := fun x hx => by
      show (s.tales.set y _).getD x 0 = _
      rw [getD_set _ _ _ _ _ hy, if_neg hx]; rfl
    have keep : ∀ i, i < s.nodes.length → (St.after more s y).sz i = s.sz i := fun i hi => sz_app hi
    have hb : Bs B B2 more ls (St.after more s y) := by
      refine ⟨fun d hd => ?_, fun x hx => ?_, ?_⟩
      · have hd : d ∈ s.nodes ++ [⟨1, s.tale y, more, s.sz (s.tale y) + s.sz more, s.dr (s.tale y) + s.dr more⟩] := hd
        rcases List.mem_append.mp hd with q | q
        · exact h.all d q
        · rw [List.mem_singleton.mp q]
          have := (h.tl y List.mem_cons_self).1
          have := h.mo.1
          show s.sz (s.tale y) + s.sz more ≤ B2
          omega
      · obtain ⟨h1, h2⟩ := h.tl x (List.mem_cons_of_mem _ hx)
        have hxy : x ≠ y := fun e => n1 (by rw [← e]; exact hx)
        rw [tale1 x hxy, keep _ h2]
        exact ⟨h1, by rw [lt1]; omega⟩
      · rw [keep _ h.mo.2]
        exact ⟨h.mo.1, by rw [lt1]; have := h.mo.2; omega⟩
    obtain ⟨a1, a2⟩ := bs_after (B := B) (B2 := B2) (more := more) ls (St.after more s y) n2 (fun x hx => by
        show x < (s.tales.set y _).length
        rw [List.length_set]; exact hl x (List.mem_cons_of_mem _ hx)) hb
    refine ⟨a1, ?_⟩
    show (ls.foldl (St.after more) (St.after more s y)).nodes.length = _
    rw [a2, lt1, List.length_cons]
    exact Nat.add_right_comm _ _ _
theorem bs_ahead {B B2 more : Nat} : ∀ (ls : List Nat) (s : St), ls.Nodup → (∀ x ∈ ls, x < s.tales.length) → Bs B B2 more ls s →
    (∀ d ∈ (ls.foldl (St.ahead more) s).nodes, d.size ≤ B2) ∧ (ls.foldl (St.ahead more) s).nodes.length = s.nodes.length + ls.length
  | [], s, _, _, h => ⟨h.all, rfl⟩
  | y :: ls, s, nd, hl, h => by
    obtain ⟨n1, n2⟩ := List.nodup_cons.mp nd
    have hy := hl y List.mem_cons_self
    have lt1 : (St.ahead more s y).nodes.length = s.nodes.length + 1 := by
      show (s.nodes ++ [_]).length = _
      rw [List.length_append]; rfl
    have tale1 : ∀ x, x ≠ y → (St.ahead more s y).tale x = s.tale x := fun x hx => by
      show (s.tales.set y _).getD x 0 = _
      rw [getD_set _ _ _ _ _ hy, if_neg hx]; rfl
    have keep : ∀ i, i < s.nodes.length → (St.ahead more s y).sz i = s.sz i := fun i hi => sz_app hi
    have hb : Bs B B2 more ls (St.ahead more s y) := by
      refine ⟨fun d hd => ?_, fun x hx => ?_, ?_⟩
      · have hd : d ∈ s.nodes ++ [⟨1, more, s.tale y, s.sz more + s.sz (s.tale y), s.dr more + s.dr (s.tale y)⟩] := hd
        rcases List.mem_append.mp hd with q | q
        · exact h.all d q
        · rw [List.mem_singleton.mp q]
          have := (h.tl y List.mem_cons_self).1
          have := h.mo.1
          show s.sz more + s.sz (s.tale y) ≤ B2
          omega
      · obtain ⟨h1, h2⟩ := h.tl x (List.mem_cons_of_mem _ hx)
        have hxy : x ≠ y := fun e => n1 (by rw [← e]; exact hx)
        rw [tale1 x hxy, keep _ h2]
        exact ⟨h1, by rw [lt1]; omega⟩
      · rw [keep _ h.mo.2]
        exact ⟨h.mo.1, by rw [lt1]; have := h.mo.2; omega⟩
    obtain ⟨a1, a2⟩ := bs_ahead (B := B) (B2 := B2) (more := more) ls (St.ahead more s y) n2 (fun x hx => by
        show x < (s.tales.set y _).length
        rw [List.length_set]; exact hl x (List.mem_cons_of_mem _ hx)) hb
    refine ⟨a1, ?_⟩
    show (ls.foldl (St.ahead more) (St.ahead more s y)).nodes.length = _
    rw [a2, lt1, List.length_cons]
    exact Nat.add_right_comm _ _ _
theorem tim_bs {s : St} {B k w : Nat} {ls : List Nat} (hk : 0 < k) (h : ∀ d ∈ s.nodes, d.size ≤ B) (hw : w < s.nodes.length) (ht : ∀ x ∈ ls, s.tale x < s.nodes.length) : Bs B (B + B * k) (s.timI w k) ls (s.tim w k) ∧ (s.tim w k).nodes.length ≤ s.nodes.length + 1 := by
  have hB : B ≤ B * k := Nat.le_mul_of_pos_right _ hk
  have hsw := sz_le h w
  have hmul : s.sz w * k ≤ B * k := Nat.mul_le_mul_right _ hsw
  unfold St.tim St.timI
  by_cases c : k = 1
  · rw [if_pos c, if_pos c]
    exact ⟨⟨fun d hd => Nat.le_trans (h d hd) (Nat.le_add_right _ _), fun x hx => ⟨sz_le h _, ht x hx⟩, by omega, hw⟩, Nat.le_succ _⟩
  · rw [if_neg c, if_neg c]
    have l1 : (s.add ⟨2, w, k, s.sz w * k, s.dr w * (k : Int)⟩).nodes.length = s.nodes.length + 1 := by
      show (s.nodes ++ [_]).length = _
      rw [List.length_append]; rfl
    refine ⟨⟨fun d hd => ?_, fun x hx => ?_, ?_⟩, by rw [l1]; exact Nat.le_refl _⟩
    · have hd : d ∈ s.nodes ++ [⟨2, w, k, s.sz w * k, s.dr w * (k : Int)⟩] := hd
      rcases List.mem_append.mp hd with q | q
      · exact Nat.le_trans (h d q) (Nat.le_add_right _ _)
      · rw [List.mem_singleton.mp q]
        show s.sz w * k ≤ _
        omega
    · have hx := ht x hx
      refine ⟨?_, by rw [l1]; exact Nat.lt_succ_of_lt hx⟩
      rw [show (s.add ⟨2, w, k, s.sz w * k, s.dr w * (k : Int)⟩).tale x = s.tale x from rfl, sz_app hx]
      exact sz_le h _
    · refine ⟨?_, by rw [l1]; exact Nat.lt_succ_self _⟩
      have e : (s.add ⟨2, w, k, s.sz w * k, s.dr w * (k : Int)⟩).sz s.nodes.length = s.sz w * k := by
        show ((s.nodes ++ [(⟨2, w, k, s.sz w * k, s.dr w * (k : Int)⟩ : Nd)]).getD s.nodes.length nd0).size = _
        rw [List.getD_eq_getElem?_getD, List.getElem?_append_right (Nat.le_refl _), Nat.sub_self]; rfl
      rw [e]
      omega
theorem pow_step (r k : Nat) (hk : k ≤ 10 ^ 12) : 2 ^ (41 * r) + 2 ^ (41 * r) * k ≤ 2 ^ (41 * (r + 1)) := by
  have e : 2 ^ (41 * (r + 1)) = 2 ^ (41 * r) * 2 ^ 41 := by rw [← Nat.pow_add, Nat.mul_succ]
  rw [e]
  have h1 : 2 ^ (41 * r) + 2 ^ (41 * r) * k = 2 ^ (41 * r) * (1 + k) := by rw [Nat.mul_add, Nat.mul_one]
  rw [h1]
  exact Nat.mul_le_mul_left _ (by omega)
theorem pow_up (r : Nat) : 2 ^ (41 * r) ≤ 2 ^ (41 * (r + 1)) := Nat.pow_le_pow_right (by omega) (by omega)

theorem L_le {n T m s} (g : Good n T m s) {x : Nat} (hx : x ∈ s.upper) : s.L x ≤ n := by
  have h1 := pre_le s.upper x g.pos hx
  have h2 := pre_nn s.upper x g.pos
  have h3 := g.fin
  have h4 := g.le
  omega
theorem many_le {n T m s} (g : Good n T m s) {x : Nat} {ls : List Nat} (hx : x ∈ s.upper) (hp : ∀ y ∈ ls, 1 ≤ s.L y) (hne : ls ≠ []) : ((s.L x - 1) / tot s.L ls).toNat ≤ n.toNat := by
  have h1 := L_le g hx
  have hZ : 1 ≤ tot s.L ls := by
    cases ls with
    | nil => exact absurd rfl hne
    | cons y r =>
      have a1 := hp y List.mem_cons_self
      have a2 := tot_nn r fun z hz => hp z (List.mem_cons_of_mem y hz)
      show 1 ≤ s.L y + tot s.L r
      omega
  have h0 := g.pos x hx
  have h2 : (s.L x - 1) / tot s.L ls ≤ s.L x - 1 := Int.ediv_le_self _ (by omega)
  omega
theorem tale_lt {n T m s} (g : Good n T m s) {x : Nat} (hx : x ∈ s.upper) : s.tale x < s.nodes.length := by
  obtain ⟨t, h, _⟩ := g.word x hx
  exact h.lt

theorem bd_shorten {n : Int} {T : Int → Int} {m : Nat} {s : St} (g : Good n T m s) (hn : n ≤ 10 ^ 12) (hm : m ≤ 6) (h : s.upper ≠ []) (b : Bd m s) : Bd m (shorten s) ∧ (shorten s).recs.length = s.recs.length + 1 := by
  have hlo : s.lower ≠ [] := fun z => by
    have := g.perm.length_eq
    rw [z] at this
    exact h (List.eq_nil_of_length_eq_zero this)
  have plen := g.perm.length_eq
  have bup := b.up
  have blen := b.len
  obtain ⟨us, a, hu⟩ := snoc_of s.upper h
  obtain ⟨ls, c, hl⟩ := snoc_of s.lower hlo
  have ea : s.lastU = a := by unfold St.lastU; rw [hu]; exact last_at _ _
  have eb : s.lastL = c := by unfold St.lastL; rw [hl]; exact last_at _ _
  have ha : a ∈ s.upper := by rw [hu]; simp
  have hc : c ∈ s.upper := g.perm.mem_iff.mpr (by rw [hl]; simp)
  have memL : ∀ x ∈ s.lower, x ∈ s.upper := fun x hx => g.perm.mem_iff.mpr hx
  have ndu := g.nu
  have ndl := g.perm.nodup_iff.mp g.nu
  have tlt : ∀ x ∈ s.upper, x < s.tales.length := fun x hx => by rw [g.tl]; exact g.lt x hx
  unfold shorten
  dsimp only
  rw [ea, eb]
  by_cases c1 : a = c
  · rw [if_pos c1]
    refine ⟨⟨?_, ?_, ?_⟩, ?_⟩
    · show s.upper.dropLast.length ≤ m
      rw [List.length_dropLast]; omega
    · show s.nodes.length ≤ m + 7 * (s.recs ++ [_]).length
      rw [List.length_append, List.length_singleton]; omega
    · intro d hd
      show d.size ≤ 2 ^ (41 * (s.recs ++ [_]).length)
      rw [List.length_append, List.length_singleton]
      exact Nat.le_trans (b.sz d hd) (pow_up _)
    · show (s.recs ++ [_]).length = _
      rw [List.length_append, List.length_singleton]
  · rw [if_neg c1]
    by_cases c2 : s.L a = s.L c
    · rw [if_pos c2]
      have rl : (eqW s a c).recs.length = s.recs.length + 1 := by
        show (s.recs ++ [_]).length = _
        rw [List.length_append, List.length_singleton]
      refine ⟨⟨?_, ?_, ?_⟩, rl⟩
      · show s.upper.dropLast.length ≤ m
        rw [List.length_dropLast]; omega
      · rw [rl]
        show (s.nodes ++ [_]).length ≤ _
        rw [List.length_append, List.length_singleton]; omega
      · intro d hd
        rw [rl]
        have hd : d ∈ s.nodes ++ [⟨1, s.tale c, s.tale a, s.sz (s.tale c) + s.sz (s.tale a), s.dr (s.tale c) + s.dr (s.tale a)⟩] := hd
        rcases List.mem_append.mp hd with q | q
        · exact Nat.le_trans (b.sz d q) (pow_up _)
        · rw [List.mem_singleton.mp q]
          have h1 := sz_le b.sz (s.tale c)
          have h2 := sz_le b.sz (s.tale a)
          have h3 := pow_step s.recs.length 1 (by decide)
          show s.sz (s.tale c) + s.sz (s.tale a) ≤ _
          omega
    · rw [if_neg c2]
      by_cases c3 : s.L c < s.L a
      · rw [if_pos c3]
        have hal : a ∈ ls := by
          have := g.perm.mem_iff.mp ha
          rw [hl] at this
          rcases List.mem_append.mp this with z | z
          · exact z
          · exact absurd (by simpa using z) c1
        obtain ⟨l1, l2, el⟩ := List.append_of_mem hal
        have hl' : s.lower = l1 ++ a :: (l2 ++ [c]) := by rw [hl, el]; simp
        have ndl2 := ndl
        rw [hl', List.nodup_append, List.nodup_cons] at ndl2
        have na1 : a ∉ l1 := fun q => ndl2.2.2 a q a (by simp) rfl
        have espot : s.lower.drop (s.lower.idxOf a + 1) = l2 ++ [c] := by rw [hl', idx_mid na1, drop_mid]
        have lsm : ∀ x ∈ l2 ++ [c], x ∈ s.upper := fun x hx => memL x (by rw [hl']; simp at hx ⊢; rcases hx with q | q <;> simp [q])
        have lslen : (l2 ++ [c]).length + 1 ≤ s.upper.length := by
          rw [plen, hl']
          simp only [List.length_append, List.length_cons, List.length_nil]
          omega
        -- all cases at once
        have core : ∀ (s2 : St) (ls1 : List Nat) (k : Nat) (loss : Int), s2.nodes = s.nodes → s2.tales = s.tales → s2.upper = s.upper → s2.recs.length = s.recs.length + 1 → ls1.Nodup → (∀ x ∈ ls1, x ∈ s.upper) → ls1.length + 1 ≤ s.upper.length → 0 < k → k ≤ 10 ^ 12 →
            Bd m ((ls1.foldl (St.after (s2.timI (s.tale a) k)) (s2.tim (s.tale a) k)).cut a loss) ∧ ((ls1.foldl (St.after (s2.timI (s.tale a) k)) (s2.tim (s.tale a) k)).cut a loss).recs.length = s.recs.length + 1 := fun s2 ls1 k loss e1 e2 e3 e4 nd1 mem1 len1 k0 k1 => by
          have tt := tales_tim s2 (s.tale a) k
          obtain ⟨q1, q2⟩ := tim_bs (s := s2) (B := 2 ^ (41 * s.recs.length)) (k := k) (w := s.tale a) (ls := ls1) k0 (by rw [e1]; exact b.sz) (by rw [e1]; exact tale_lt g ha) (fun x hx => by
            rw [e1]; show s2.tales.getD x 0 < _; rw [e2]; exact tale_lt g (mem1 x hx))
          have lt2 : ∀ x ∈ ls1, x < (s2.tim (s.tale a) k).tales.length := fun x hx => by rw [tt, e2]; exact tlt x (mem1 x hx)
          obtain ⟨q3, q4⟩ := bs_after ls1 _ nd1 lt2 q1
          have hkept := (grow_after (b := s2.timI (s.tale a) k) ls1 (s2.tim (s.tale a) k) nd1 lt2 (tb := (g.word a ha).choose.tim 0 |> fun _ => timT (g.word a ha).choose k) (IsT.mkTim (by rw [e1]; exact (g.word a ha).choose_spec.1))).1
          have kk := (kept_tim s2 (s.tale a) k).trans hkept
          have rl : ((ls1.foldl (St.after (s2.timI (s.tale a) k)) (s2.tim (s.tale a) k)).cut a loss).recs.length = s.recs.length + 1 := by
            show (ls1.foldl (St.after (s2.timI (s.tale a) k)) (s2.tim (s.tale a) k)).recs.length = _
            rw [kk.recs, e4]
          refine ⟨⟨?_, ?_, fun d hd => ?_⟩, rl⟩
          · show (ls1.foldl (St.after (s2.timI (s.tale a) k)) (s2.tim (s.tale a) k)).upper.length ≤ m
            rw [kk.upper, e3]; exact b.up
          · rw [rl]
            show (ls1.foldl (St.after (s2.timI (s.tale a) k)) (s2.tim (s.tale a) k)).nodes.length ≤ _
            rw [e1] at q2
            rw [q4]; omega
          · rw [rl]
            exact Nat.le_trans (q3 d hd) (pow_step _ _ k1)
        unfold upW
        dsimp only
        rw [espot]
        have mk := many_le g (x := a) (ls := l2 ++ [c]) ha (fun y hy => g.pos y (lsm y hy)) (by simp)
        by_cases c4 : (s.L a - 1) / tot s.L (l2 ++ [c]) = 0
        · rw [c4, if_pos rfl, if_pos rfl, if_pos rfl, drop_last]
          refine core _ [c] 1 _ rfl rfl rfl ?_ (by simp) (fun x hx => by rw [List.mem_singleton.mp hx]; exact hc) ?_ Nat.one_pos (by decide)
          · show (s.recs ++ [_]).length = _
            rw [List.length_append, List.length_singleton]
          · have e9 : (l2 ++ [c]).length = l2.length + 1 := by simp
            show 0 + 1 + 1 ≤ _
            omega
        · rw [if_neg c4, if_neg c4, if_neg c4]
          have d0 : 0 ≤ (s.L a - 1) / tot s.L (l2 ++ [c]) := Int.ediv_nonneg (by have := g.pos a ha; omega) (tot_nn _ fun y hy => g.pos y (lsm y hy))
          refine core _ (l2 ++ [c]) _ _ rfl rfl rfl ?_ ndl2.2.1.2 lsm lslen (by omega) (by omega)
          show (s.recs ++ [_]).length = _
          rw [List.length_append, List.length_singleton]
      · rw [if_neg c3]
        have hcu : c ∈ us := by
          have := hc
          rw [hu] at this
          rcases List.mem_append.mp this with z | z
          · exact z
          · exact absurd (by simpa using z : c = a).symm c1
        obtain ⟨u1, u2, eu⟩ := List.append_of_mem hcu
        have hu' : s.upper = u1 ++ c :: (u2 ++ [a]) := by rw [hu, eu]; simp
        have ndu2 := ndu
        rw [hu', List.nodup_append, List.nodup_cons] at ndu2
        have nc1 : c ∉ u1 := fun q => ndu2.2.2 c q c (by simp) rfl
        have espot : s.upper.drop (s.upper.idxOf c + 1) = u2 ++ [a] := by rw [hu', idx_mid nc1, drop_mid]
        have lsm : ∀ x ∈ u2 ++ [a], x ∈ s.upper := fun x hx => by rw [hu']; simp at hx ⊢; rcases hx with q | q <;> simp [q]
        have lslen : (u2 ++ [a]).length + 1 ≤ s.upper.length := by
          rw [hu']
          simp only [List.length_append, List.length_cons, List.length_nil]
          omega
        have core : ∀ (s2 : St) (ls1 : List Nat) (k : Nat) (loss : Int), s2.nodes = s.nodes → s2.tales = s.tales → s2.upper.length = s.upper.length → s2.recs.length = s.recs.length + 1 → ls1.Nodup → (∀ x ∈ ls1, x ∈ s.upper) → ls1.length + 1 ≤ s.upper.length → 0 < k → k ≤ 10 ^ 12 →
            Bd m ((ls1.foldl (St.ahead (s2.timI (s.tale c) k)) (s2.tim (s.tale c) k)).cut c loss) ∧ ((ls1.foldl (St.ahead (s2.timI (s.tale c) k)) (s2.tim (s.tale c) k)).cut c loss).recs.length = s.recs.length + 1 := fun s2 ls1 k loss e1 e2 e3 e4 nd1 mem1 len1 k0 k1 => by
          have tt := tales_tim s2 (s.tale c) k
          obtain ⟨q1, q2⟩ := tim_bs (s := s2) (B := 2 ^ (41 * s.recs.length)) (k := k) (w := s.tale c) (ls := ls1) k0 (by rw [e1]; exact b.sz) (by rw [e1]; exact tale_lt g hc) (fun x hx => by
            rw [e1]; show s2.tales.getD x 0 < _; rw [e2]; exact tale_lt g (mem1 x hx))
          have lt2 : ∀ x ∈ ls1, x < (s2.tim (s.tale c) k).tales.length := fun x hx => by rw [tt, e2]; exact tlt x (mem1 x hx)
          obtain ⟨q3, q4⟩ := bs_ahead ls1 _ nd1 lt2 q1
          have hkept := (grow_ahead (b := s2.timI (s.tale c) k) ls1 (s2.tim (s.tale c) k) nd1 lt2 (tb := timT (g.word c hc).choose k) (IsT.mkTim (by rw [e1]; exact (g.word c hc).choose_spec.1))).1
          have kk := (kept_tim s2 (s.tale c) k).trans hkept
          have rl : ((ls1.foldl (St.ahead (s2.timI (s.tale c) k)) (s2.tim (s.tale c) k)).cut c loss).recs.length = s.recs.length + 1 := by
            show (ls1.foldl (St.ahead (s2.timI (s.tale c) k)) (s2.tim (s.tale c) k)).recs.length = _
            rw [kk.recs, e4]
          refine ⟨⟨?_, ?_, fun d hd => ?_⟩, rl⟩
          · show (ls1.foldl (St.ahead (s2.timI (s.tale c) k)) (s2.tim (s.tale c) k)).upper.length ≤ m
            rw [kk.upper, e3]; exact b.up
          · rw [rl]
            show (ls1.foldl (St.ahead (s2.timI (s.tale c) k)) (s2.tim (s.tale c) k)).nodes.length ≤ _
            rw [e1] at q2
            rw [q4]; omega
          · rw [rl]
            exact Nat.le_trans (q3 d hd) (pow_step _ _ k1)
        unfold loW
        dsimp only
        rw [espot]
        have mk := many_le g (x := c) (ls := u2 ++ [a]) hc (fun y hy => g.pos y (lsm y hy)) (by simp)
        by_cases c4 : (s.L c - 1) / tot s.L (u2 ++ [a]) = 0
        · rw [c4, if_pos rfl, if_pos rfl, if_pos rfl, drop_last]
          refine core _ [a] 1 _ rfl rfl ?_ ?_ (by simp) (fun x hx => by rw [List.mem_singleton.mp hx]; exact ha) ?_ Nat.one_pos (by decide)
          · show (s.upper.dropLast.insertIdx (s.upper.idxOf c + 1) _).length = _
            rw [hu', idx_mid nc1, dropLast_mid, ins_mid]
            simp
          · show (s.recs ++ [_]).length = _
            rw [List.length_append, List.length_singleton]
          · have e9 : (u2 ++ [a]).length = u2.length + 1 := by simp
            show 0 + 1 + 1 ≤ _
            omega
        · rw [if_neg c4, if_neg c4, if_neg c4]
          have d0 : 0 ≤ (s.L c - 1) / tot s.L (u2 ++ [a]) := Int.ediv_nonneg (by have := g.pos c hc; omega) (tot_nn _ fun y hy => g.pos y (lsm y hy))
          refine core _ (u2 ++ [a]) _ _ rfl rfl rfl ?_ ndu2.2.1.2 lsm lslen (by omega) (by omega)
          show (s.recs ++ [_]).length = _
          rw [List.length_append, List.length_singleton]
end Rz
end
section
namespace Rz

/-! ### the exchange itself -/
def exL (ls : List Int) (x : Nat) : Int := ls.getD x 0
def exSh (ls : List Int) (od : List Nat) (x : Nat) : Int := pre (exL ls) od x - pre (exL ls) (List.range ls.length) x
def exN (ls : List Int) : Int := tot (exL ls) (List.range ls.length)
/-- one step -/
def mv (ls : List Int) (od : List Nat) (p : Int) : Int :=
  match (List.range ls.length).find? fun x => decide (pre (exL ls) (List.range ls.length) x ≤ p) && decide (p < pre (exL ls) (List.range ls.length) x + exL ls x) with
  | some x => p + exSh ls od x
  | none => p
structure Ex (ls : List Int) (od : List Nat) : Prop where
  pos : ∀ x, x < ls.length → 1 ≤ exL ls x
  perm : (List.range ls.length).Perm od
section
variable {ls : List Int} {od : List Nat}
theorem Ex.posR (e : Ex ls od) : ∀ y ∈ List.range ls.length, 1 ≤ exL ls y := fun y hy => e.pos y (List.mem_range.mp hy)
theorem Ex.posO (e : Ex ls od) : ∀ y ∈ od, 1 ≤ exL ls y := fun y hy => e.posR y (e.perm.mem_iff.mpr hy)
theorem mv_in (e : Ex ls od) {x : Nat} {p : Int} (hx : x < ls.length) (h0 : pre (exL ls) (List.range ls.length) x ≤ p) (h1 : p < pre (exL ls) (List.range ls.length) x + exL ls x) : mv ls od p = p + exSh ls od x := by
  unfold mv
  cases h : (List.range ls.length).find? fun x => decide (pre (exL ls) (List.range ls.length) x ≤ p) && decide (p < pre (exL ls) (List.range ls.length) x + exL ls x) with
  | none =>
    rw [List.find?_eq_none] at h
    have := h x (List.mem_range.mpr hx)
    simp [h0, h1] at this
  | some y =>
    have hy := List.find?_some h
    have hym := List.mem_of_find?_eq_some h
    simp only [Bool.and_eq_true, decide_eq_true_eq] at hy
    by_cases exy : x = y
    · rw [exy]
    · rcases pre_apart (List.range ls.length) x y e.posR (List.mem_range.mpr hx) hym exy with q | q <;> omega
theorem mv_find (e : Ex ls od) {p : Int} (h0 : 0 ≤ p) (h1 : p < exN ls) : ∃ x, x < ls.length ∧ pre (exL ls) (List.range ls.length) x ≤ p ∧ p < pre (exL ls) (List.range ls.length) x + exL ls x ∧ mv ls od p = p + exSh ls od x := by
  obtain ⟨x, hx, a, b⟩ := pre_find (List.range ls.length) p List.nodup_range e.posR h0 h1
  exact ⟨x, List.mem_range.mp hx, a, b, mv_in e (List.mem_range.mp hx) a b⟩
theorem mv_range (e : Ex ls od) {p : Int} (h0 : 0 ≤ p) (h1 : p < exN ls) : 0 ≤ mv ls od p ∧ mv ls od p < exN ls := by
  obtain ⟨x, hx, a, b, c⟩ := mv_find e h0 h1
  have hxo : x ∈ od := e.perm.mem_iff.mp (List.mem_range.mpr hx)
  have d1 := pre_nn od x e.posO
  have d2 := pre_le od x e.posO hxo
  have d3 : exN ls = tot (exL ls) od := tot_perm _ e.perm
  rw [c]
  unfold exSh
  omega
theorem mv_inj (e : Ex ls od) {p q : Int} (h0 : 0 ≤ p) (h1 : p < exN ls) (g0 : 0 ≤ q) (g1 : q < exN ls) (h : mv ls od p = mv ls od q) : p = q := by
  obtain ⟨x, hx, a, b, c⟩ := mv_find e h0 h1
  obtain ⟨y, hy, a', b', c'⟩ := mv_find e g0 g1
  rw [c, c'] at h
  unfold exSh at h
  by_cases exy : x = y
  · subst exy; omega
  · rcases pre_apart od x y e.posO (e.perm.mem_iff.mp (List.mem_range.mpr hx)) (e.perm.mem_iff.mp (List.mem_range.mpr hy)) exy with z | z <;> omega
end
theorem it_range {T : Int → Int} {n : Int} (hr : ∀ p, 0 ≤ p → p < n → 0 ≤ T p ∧ T p < n) : ∀ (k : Nat) (p : Int), 0 ≤ p → p < n → 0 ≤ it T k p ∧ it T k p < n
  | 0, _, a, b => ⟨a, b⟩
  | k + 1, p, a, b => it_range hr k (T p) (hr p a b).1 (hr p a b).2
theorem it_inj {T : Int → Int} {n : Int} (hr : ∀ p, 0 ≤ p → p < n → 0 ≤ T p ∧ T p < n) (hi : ∀ p q, 0 ≤ p → p < n → 0 ≤ q → q < n → T p = T q → p = q) : ∀ (k : Nat) (p q : Int), 0 ≤ p → p < n → 0 ≤ q → q < n → it T k p = it T k q → p = q
  | 0, _, _, _, _, _, _, h => h
  | k + 1, p, q, a, b, c, d, h => hi p q a b c d (it_inj hr hi k (T p) (T q) (hr p a b).1 (hr p a b).2 (hr q c d).1 (hr q c d).2 h)

/-! ### the beginning -/
def st0 (ls : List Int) (od : List Nat) : St :=
  { nodes := (List.range ls.length).map fun x => ⟨0, x, 0, 1, exSh ls od x⟩, recs := [], left := ls, upper := List.range ls.length, lower := od, fin := exN ls, tales := List.range ls.length }
theorem good0 {ls : List Int} {od : List Nat} (e : Ex ls od) : Good (exN ls) (mv ls od) ls.length (st0 ls od) := by
  have tale0 : ∀ x, x < ls.length → (st0 ls od).tale x = x := fun x hx => by
    show (List.range ls.length).getD x 0 = x
    rw [List.getD_eq_getElem?_getD, List.getElem?_range hx]; rfl
  refine ⟨List.nodup_range, e.perm, fun x hx => List.mem_range.mp hx, rfl, List.length_range, e.posR, rfl, Int.le_refl _, fun x hx => ?_, fun p p0 p1 => ?_, fun z hz => ?_⟩
  · have hx' : x < ls.length := List.mem_range.mp hx
    rw [tale0 x hx']
    refine ⟨.blk (exSh ls od x), .blk (b := x) ?_, rfl, fun q q0 q1 => Wd.blk (mv_in e hx' q0 q1)⟩
    show ((List.range ls.length).map _)[x]? = _
    rw [List.getElem?_map, List.getElem?_range hx']; rfl
  · exact ⟨p0, p1, rfl, rfl⟩
  · exact absurd hz (by simp [st0, bands])
theorem bd0 (ls : List Int) (od : List Nat) : Bd ls.length (st0 ls od) := by
  refine ⟨Nat.le_of_eq List.length_range, ?_, fun d hd => ?_⟩
  · show ((List.range ls.length).map _).length ≤ _
    rw [List.length_map, List.length_range]; exact Nat.le_add_right _ _
  · obtain ⟨x, _, rfl⟩ := List.mem_map.mp hd
    exact Nat.le_refl _

/-! ### the end -/
structure Spot (T : Int → Int) (s : St) (p : Int) (c : Nat) (b w : Int) (i : Nat) (q : Int) (k : Nat) (t : Tr) : Prop where
  pos : posAll s.recs p = .done c b w i q k
  bd : (bands s.recs)[c]? = some (b, w, i)
  isT : IsT s.nodes i t
  lo : b ≤ q
  hi : q < b + w
  b0 : 0 ≤ b
  wd : Wd T (b + w) t q
  dr : t.drift = 0
  way : it T k p = q
theorem spot_of {n : Int} {T : Int → Int} {m : Nat} {s : St} (g : Good n T m s) (h : s.upper = []) {p : Int} (p0 : 0 ≤ p) (p1 : p < n) : ∃ c b w i q k t, Spot T s p c b w i q k t := by
  have hc := g.cov p p0 p1
  have f0 : s.fin = 0 := by rw [g.fin, h]; rfl
  unfold Cov at hc
  cases e : posAll s.recs p with
  | mid q k c =>
    rw [e] at hc
    obtain ⟨h0, h1, _⟩ := hc
    omega
  | done c b w i q k =>
    rw [e] at hc
    obtain ⟨h0, h1, h2, h3⟩ := hc
    obtain ⟨b0, _, _, t, ht, hd, hw⟩ := g.bds _ (List.mem_of_getElem? h0)
    exact ⟨c, b, w, i, q, k, t, e, h0, ht, h1, h2, b0, hw q h1 h2, hd, h3⟩

/-- how long until p is back -/
structure Per (T : Int → Int) (p : Int) (z : Nat) : Prop where
  pos : 0 < z
  back : it T z p = p
  min : ∀ j, 0 < j → j < z → it T j p ≠ p
theorem Per.mul {T : Int → Int} {p : Int} {z : Nat} (h : it T z p = p) : ∀ k : Nat, it T (z * k) p = p
  | 0 => rfl
  | k + 1 => by rw [Nat.mul_succ, it_add, Per.mul h k, h]
theorem Per.mod {T : Int → Int} {p : Int} {z : Nat} (h : it T z p = p) (j : Nat) : it T j p = it T (j % z) p := by
  have e : j = z * (j / z) + j % z := (Nat.div_add_mod j z).symm
  conv => lhs; rw [e, it_add, Per.mul h]
theorem Per.iff {T : Int → Int} {p : Int} {z : Nat} (h : Per T p z) (j : Nat) : it T j p = p ↔ j % z = 0 := by
  rw [Per.mod h.back j]
  refine ⟨fun e => ?_, fun e => by rw [e]; rfl⟩
  rcases Nat.eq_zero_or_pos (j % z) with c | c
  · exact c
  · exact absurd e (h.min _ c (Nat.mod_lt _ h.pos))

section
variable {T : Int → Int} {n : Int} {s : St} {p : Int} {c : Nat} {b w : Int} {i : Nat} {q : Int} {k : Nat} {t : Tr}
theorem Spot.period (h : Spot T s p c b w i q k t) : it T t.size q = q := by
  rw [h.wd.land, h.dr]; omega
theorem Spot.qper (h : Spot T s p c b w i q k t) : Per T q t.size :=
  ⟨h.wd.pos, h.period, fun j j0 j1 e => by
    have := h.wd.up j j0 j1
    have := h.hi
    omega⟩
variable (hr : ∀ p, 0 ≤ p → p < n → 0 ≤ T p ∧ T p < n) (hi : ∀ p q, 0 ≤ p → p < n → 0 ≤ q → q < n → T p = T q → p = q)
include hr hi
theorem Spot.per (h : Spot T s p c b w i q k t) (p0 : 0 ≤ p) (p1 : p < n) : Per T p t.size := by
  have back : it T t.size p = p := by
    refine it_inj hr hi k _ p (it_range hr _ p p0 p1).1 (it_range hr _ p p0 p1).2 p0 p1 ?_
    rw [← it_add, Nat.add_comm, it_add, h.way, h.period]
  refine ⟨h.wd.pos, back, fun j j0 j1 e => h.qper.min j j0 j1 ?_⟩
  have e2 : it T j (it T k p) = it T k p := by
    rw [← it_add, Nat.add_comm, it_add, e]
  rw [h.way] at e2
  exact e2
/-- the place after so many steps, as the program reckons it -/
theorem Spot.go (h : Spot T s p c b w i q k t) (p0 : 0 ≤ p) (p1 : p < n) {st : Int} (hst : 0 ≤ st) :
    0 ≤ (((t.size : Int) - (k : Int)) % (t.size : Int) + st) % (t.size : Int) ∧ (((t.size : Int) - (k : Int)) % (t.size : Int) + st) % (t.size : Int) < (t.size : Int) ∧
    q + t.off ((((t.size : Int) - (k : Int)) % (t.size : Int) + st) % (t.size : Int)).toNat = it T st.toNat p := by
  have zp : (0 : Int) < (t.size : Int) := by have := h.wd.pos; omega
  obtain ⟨r, hr1⟩ : ∃ r : Nat, ((t.size : Int) - (k : Int)) % (t.size : Int) = (r : Int) := ⟨(((t.size : Int) - (k : Int)) % (t.size : Int)).toNat, by have := Int.emod_nonneg ((t.size : Int) - (k : Int)) (show (t.size : Int) ≠ 0 by omega); omega⟩
  obtain ⟨u, hu⟩ : ∃ u : Nat, st = (u : Int) := ⟨st.toNat, by omega⟩
  subst hu
  rw [hr1]
  have e1 : ((r : Int) + (u : Int)) % (t.size : Int) = (((r + u) % t.size : Nat) : Int) := by rw [Int.natCast_emod, Int.natCast_add]
  rw [e1]
  refine ⟨by omega, by have := Nat.mod_lt (r + u) h.wd.pos; omega, ?_⟩
  have e2 : (((r + u) % t.size : Nat) : Int).toNat = (r + u) % t.size := by omega
  have e3 : ((u : Int)).toNat = u := by omega
  rw [e2, e3, ← h.wd.at_ _ (Nat.mod_lt _ h.wd.pos), ← Per.mod h.period, it_add]
  -- p is r steps behind q
  have e4 : (r + k) % t.size = 0 := by
    have h5 : ((r : Int) + (k : Int)) % (t.size : Int) = 0 := by
      rw [← hr1, Int.emod_add_emod]
      rw [show (t.size : Int) - (k : Int) + (k : Int) = (t.size : Int) by omega, Int.emod_self]
    have h6 : (((r + k) % t.size : Nat) : Int) = 0 := by rw [Int.natCast_emod, Int.natCast_add]; exact h5
    omega
  have e5 : it T r q = p := by
    rw [← h.way, ← it_add]
    rw [Per.mod (h.per hr hi p0 p1).back, Nat.add_comm, e4]; rfl
  rw [e5]
end
end Rz
end
section
namespace Rz
/-- the place fits the stage: what is reckoned there is defined and small -/
def Fit (g : Stg) (p : Int) : Prop :=
  p < g.stop ∨ (1 ≤ g.total ∧ g.total ≤ 1000000000000 ∧ 0 ≤ p - g.stop ∧ p - g.stop ≤ 1000000000000 ∧ 0 ≤ g.fin - 1 - p ∧ g.fin - 1 - p ≤ 1000000000000 ∧
    (g.pieces ≠ [] → ∃ z, lastLe (p + (g.fin - 1 - p) / g.total * g.total) g.pieces = some z))
def Fits (n : Int) (rs : List Rc) : Prop := ∀ p, 0 ≤ p → p < n → ∀ (i : Nat) (g : Stg) (q : Int) (k c : Nat), rs[i]? = some (.st g) → posAll (rs.take i) p = .mid q k c → Fit g q
theorem fits0 (n : Int) : Fits n [] := fun p _ _ i g q k c h => by simp at h
theorem Fits.snoc {n : Int} {rs : List Rc} {r : Rc} (h : Fits n rs) (hr : ∀ g, r = .st g → ∀ p, 0 ≤ p → p < n → ∀ q k c, posAll rs p = .mid q k c → Fit g q) : Fits n (rs ++ [r]) := by
  intro p p0 p1 i g q k c hi hp
  rcases Nat.lt_trichotomy i rs.length with z | z | z
  · rw [List.getElem?_append_left z] at hi
    rw [List.take_append_of_le_length (Nat.le_of_lt z)] at hp
    exact h p p0 p1 i g q k c hi hp
  · subst z
    rw [List.getElem?_append_right (Nat.le_refl _), Nat.sub_self] at hi
    cases hi
    rw [List.take_left'] at hp
    · exact hr g rfl p p0 p1 q k c hp
    · rfl
  · rw [List.getElem?_eq_none (by rw [List.length_append]; exact z)] at hi; cases hi
theorem fit_nil {fin stop total : Int} {sz : Nat} {p : Int} (hs : 0 ≤ stop) (hf : fin ≤ 1000000000000) (ht : 1 ≤ total) (ht2 : total ≤ fin) (p1 : p < fin) : Fit ⟨fin, stop, total, sz, []⟩ p := by
  by_cases h : p < stop
  · exact .inl h
  · refine .inr ⟨ht, ?_, ?_, ?_, ?_, ?_, fun z => absurd rfl z⟩ <;> show _ ≤ _ <;> dsimp only <;> omega
theorem fit_row {L : Nat → Int} {us : List Nat} {g : Nat → Int × Nat} {fin stop b0 : Int} {sz : Nat} {p : Int} {ps : List (Int × Int × Nat)} (hs : 0 ≤ stop) (hf : fin ≤ 1000000000000) (hne : us ≠ []) (nd : us.Nodup) (hL : ∀ y ∈ us, 1 ≤ L y)
    (hb : b0 = fin - tot L us) (hb0 : 0 ≤ b0) (hps : ps = us.map fun y => (b0 + pre L us y, g y)) (p1 : p < fin) : Fit ⟨fin, stop, tot L us, sz, ps⟩ p := by
  have hZ : 0 < tot L us := by
    cases us with
    | nil => exact absurd rfl hne
    | cons y r =>
      have a1 := hL y List.mem_cons_self
      have a2 := tot_nn r fun z hz => hL z (List.mem_cons_of_mem y hz)
      show 0 < L y + tot L r
      omega
  by_cases h : p < stop
  · exact .inl h
  · have d0 : 0 ≤ (fin - 1 - p) / tot L us := Int.ediv_nonneg (by omega) (by omega)
    have d1 : tot L us * ((fin - 1 - p) / tot L us) ≤ fin - 1 - p := Int.mul_ediv_self_le (by omega)
    have d2 : fin - 1 - p < tot L us * ((fin - 1 - p) / tot L us) + tot L us := Int.lt_mul_ediv_self_add hZ
    refine .inr ⟨?_, ?_, ?_, ?_, ?_, ?_, fun _ => ?_⟩
    any_goals (show _ ≤ _; dsimp only; omega)
    show ∃ z, lastLe (p + (fin - 1 - p) / tot L us * tot L us) ps = some z
    rw [Int.mul_comm ((fin - 1 - p) / tot L us)]
    obtain ⟨x, hx, x0, x1⟩ := pre_find us (p + tot L us * ((fin - 1 - p) / tot L us) - b0) nd hL (by omega) (by omega)
    exact ⟨_, by rw [hps]; exact lastLe_row us b0 nd hL hx (by omega) (by omega)⟩
theorem tot_app (L : Nat → Int) (a b : List Nat) : tot L (a ++ b) = tot L a + tot L b := by
  induction a with
  | nil => show tot L b = 0 + tot L b; omega
  | cons x r ih => show L x + tot L (r ++ b) = L x + tot L r + tot L b; rw [ih]; omega
theorem pre_app_right (L : Nat → Int) : ∀ (a b : List Nat) (y : Nat), y ∉ a → pre L (a ++ b) y = tot L a + pre L b y
  | [], b, y, _ => by show pre L b y = 0 + pre L b y; omega
  | x :: r, b, y, h => by
    have h1 : x ≠ y := fun e => h (by rw [e]; exact List.mem_cons_self)
    have h2 : y ∉ r := fun e => h (List.mem_cons_of_mem _ e)
    show pre L (x :: (r ++ b)) y = _
    rw [pre_other L _ h1, pre_app_right L r b y h2]
    show L x + (tot L r + pre L b y) = L x + tot L r + pre L b y
    omega
/-- the record that a shortening adds fits -/
theorem shorten_rec {n : Int} {T : Int → Int} {m : Nat} {s : St} (g : Good n T m s) (hn : n ≤ 1000000000000) (h : s.upper ≠ []) :
    ∃ r, (shorten s).recs = s.recs ++ [r] ∧ ∀ gg, r = .st gg → ∀ p, 0 ≤ p → p < s.fin → Fit gg p := by
  obtain ⟨g2, flt⟩ := good_shorten g h
  have hlo : s.lower ≠ [] := fun z => by
    have := g.perm.length_eq
    rw [z] at this
    exact h (List.eq_nil_of_length_eq_zero this)
  obtain ⟨us, a, hu⟩ := snoc_of s.upper h
  obtain ⟨ls, b, hl⟩ := snoc_of s.lower hlo
  have ea : s.lastU = a := by unfold St.lastU; rw [hu]; exact last_at _ _
  have eb : s.lastL = b := by unfold St.lastL; rw [hl]; exact last_at _ _
  have ha : a ∈ s.upper := by rw [hu]; simp
  have hb : b ∈ s.upper := g.perm.mem_iff.mpr (by rw [hl]; simp)
  have f2 : 0 ≤ (shorten s).fin := by rw [g2.fin]; exact tot_nn _ g2.pos
  have fle := g.le
  have ndl := g.perm.nodup_iff.mp g.nu
  have memL : ∀ x ∈ s.lower, x ∈ s.upper := fun x hx => g.perm.mem_iff.mpr hx
  have finL : s.fin = tot s.L s.lower := by rw [g.fin, tot_perm _ g.perm]
  unfold shorten at f2 ⊢
  dsimp only at f2 ⊢
  rw [ea, eb] at f2 ⊢
  by_cases c1 : a = b
  · rw [if_pos c1]
    exact ⟨_, rfl, fun gg e => nomatch e⟩
  · rw [if_neg c1] at f2 ⊢
    by_cases c2 : s.L a = s.L b
    · rw [if_pos c2] at f2 ⊢
      refine ⟨_, rfl, fun gg e p p0 p1 => ?_⟩
      cases e
      have nau : a ∉ us := fun z => by
        have nu := g.nu
        rw [hu, List.nodup_append] at nu
        exact nu.2.2 a z a (by simp) rfl
      have e1 : s.fin = tot s.L us + s.L a := by rw [g.fin, hu, tot_app]; show _ + (s.L a + 0) = _; omega
      have e2 : pre s.L s.upper a = tot s.L us := by rw [hu, pre_app_right _ _ _ _ nau, pre_self]; omega
      have e3 : tot s.L [a] = s.L a := by show s.L a + 0 = _; omega
      have f3 : 0 ≤ s.fin - s.L a := f2
      have hL : ∀ y ∈ [a], 1 ≤ s.L y := fun y hy => by rw [List.mem_singleton.mp hy]; exact g.pos a ha
      have key := fit_row (L := s.L) (us := [a]) (g := fun y => (pre s.L s.lower y - pre s.L s.upper y, s.sz (s.tale y))) (fin := s.fin) (stop := s.fin - s.L a) (b0 := s.fin - tot s.L [a]) (sz := 0) (p := p)
        (ps := s.shown [a]) f3 (by omega) (by simp) (by simp) hL rfl (by rw [e3]; exact f3) (by
          unfold St.shown
          rw [List.map_singleton, List.map_singleton, pre_self, e2, e3]
          have : s.fin - s.L a + 0 = tot s.L us := by omega
          rw [this]) p1
      rw [e3] at key
      exact key
    · rw [if_neg c2] at f2 ⊢
      by_cases c3 : s.L b < s.L a
      · rw [if_pos c3] at f2 ⊢
        have hal : a ∈ ls := by
          have := g.perm.mem_iff.mp ha
          rw [hl] at this
          rcases List.mem_append.mp this with z | z
          · exact z
          · exact absurd (by simpa using z) c1
        obtain ⟨l1, l2, el⟩ := List.append_of_mem hal
        have hl' : s.lower = l1 ++ a :: (l2 ++ [b]) := by rw [hl, el]; simp
        have na1 : a ∉ l1 := fun q => by
          have := ndl
          rw [hl', List.nodup_append] at this
          exact this.2.2 a q a (by simp) rfl
        have espot : s.lower.drop (s.lower.idxOf a + 1) = l2 ++ [b] := by rw [hl', idx_mid na1, drop_mid]
        have lsm : ∀ x ∈ l2 ++ [b], 1 ≤ s.L x := fun x hx => g.pos x (memL x (by rw [hl']; simp at hx ⊢; rcases hx with q | q <;> simp [q]))
        have tb : s.L b ≤ tot s.L (l2 ++ [b]) := by
          rw [tot_app]
          have := tot_nn l2 fun z hz => lsm z (by simp [hz])
          show s.L b ≤ _ + (s.L b + 0)
          omega
        have hbp := g.pos b hb
        have tle : tot s.L (l2 ++ [b]) ≤ s.fin := by
          rw [finL, hl', tot_app s.L l1]
          have h1 := tot_nn l1 fun z hz => g.pos z (memL z (by rw [hl']; simp [hz]))
          have h2 := g.pos a ha
          show _ ≤ tot s.L l1 + (s.L a + tot s.L (l2 ++ [b]))
          omega
        unfold upW at f2 ⊢
        dsimp only at f2 ⊢
        rw [espot] at f2 ⊢
        have kk : ∀ (s4 : St) (x : Nat) (d : Int), (s4.cut x d).recs = s4.recs := fun _ _ _ => rfl
        have kf : ∀ (s4 : St) (x : Nat) (d : Int), (s4.cut x d).fin = s4.fin := fun _ _ _ => rfl
        have fr : ∀ (b : Nat) (l : List Nat) (s4 : St), (l.foldl (St.after b) s4).recs = s4.recs ∧ (l.foldl (St.after b) s4).fin = s4.fin := fun b l => by
          induction l with
          | nil => exact fun _ => ⟨rfl, rfl⟩
          | cons x r ih => exact fun s4 => ih (St.after b s4 x)
        rw [kk, (fr _ _ _).1, (kept_tim _ _ _).recs]
        rw [kf, (fr _ _ _).2, (kept_tim _ _ _).fin] at f2
        by_cases c : (s.L a - 1) / tot s.L (l2 ++ [b]) = 0
        · simp only [c, if_true] at f2 ⊢
          refine ⟨_, rfl, fun gg e p p0 p1 => ?_⟩
          cases e
          exact fit_nil f2 (by show s.fin ≤ _; omega) (by omega) tle p1
        · simp only [c, if_false] at f2 ⊢
          refine ⟨_, rfl, fun gg e p p0 p1 => ?_⟩
          cases e
          exact fit_nil f2 (by show s.fin ≤ _; omega) (by omega) tle p1
      · rw [if_neg c3] at f2 ⊢
        have hbu : b ∈ us := by
          rw [hu] at hb
          rcases List.mem_append.mp hb with z | z
          · exact z
          · exact absurd (by simpa using z : b = a).symm c1
        obtain ⟨u1, u2, eu⟩ := List.append_of_mem hbu
        have hu' : s.upper = u1 ++ b :: (u2 ++ [a]) := by rw [hu, eu]; simp
        have nu := g.nu
        have nb1 : b ∉ u1 := fun q => by
          have := nu
          rw [hu', List.nodup_append] at this
          exact this.2.2 b q b (by simp) rfl
        have espot : s.upper.drop (s.upper.idxOf b + 1) = u2 ++ [a] := by rw [hu', idx_mid nb1, drop_mid]
        have eapp : s.upper = (u1 ++ [b]) ++ (u2 ++ [a]) := by rw [hu']; simp
        have ndu := nu
        rw [eapp, List.nodup_append] at ndu
        have lsm : ∀ x ∈ u2 ++ [a], 1 ≤ s.L x := fun x hx => g.pos x (by rw [eapp]; exact List.mem_append_right _ hx)
        have fe : s.fin = tot s.L (u1 ++ [b]) + tot s.L (u2 ++ [a]) := by rw [g.fin, eapp, tot_app]
        have f1 := tot_nn (u1 ++ [b]) fun z hz => g.pos z (by rw [eapp]; exact List.mem_append_left _ hz)
        unfold loW at f2 ⊢
        dsimp only at f2 ⊢
        rw [espot] at f2 ⊢
        have kk : ∀ (s4 : St) (x : Nat) (d : Int), (s4.cut x d).recs = s4.recs := fun _ _ _ => rfl
        have kf : ∀ (s4 : St) (x : Nat) (d : Int), (s4.cut x d).fin = s4.fin := fun _ _ _ => rfl
        have fr : ∀ (b : Nat) (l : List Nat) (s4 : St), (l.foldl (St.ahead b) s4).recs = s4.recs ∧ (l.foldl (St.ahead b) s4).fin = s4.fin := fun b l => by
          induction l with
          | nil => exact fun _ => ⟨rfl, rfl⟩
          | cons x r ih => exact fun s4 => ih (St.ahead b s4 x)
        rw [kk, (fr _ _ _).1, (kept_tim _ _ _).recs]
        rw [kf, (fr _ _ _).2, (kept_tim _ _ _).fin] at f2
        have hsh : s.shown (u2 ++ [a]) = (u2 ++ [a]).map fun y => ((s.fin - tot s.L (u2 ++ [a])) + pre s.L (u2 ++ [a]) y, (pre s.L s.lower y - pre s.L s.upper y, s.sz (s.tale y))) := by
          unfold St.shown
          refine List.map_congr_left fun y hy => ?_
          have hny : y ∉ u1 ++ [b] := fun z => ndu.2.2 y z y hy rfl
          have e5 : pre s.L s.upper y = s.fin - tot s.L (u2 ++ [a]) + pre s.L (u2 ++ [a]) y := by rw [eapp, pre_app_right _ _ _ _ hny]; omega
          rw [← e5]
        by_cases c : (s.L b - 1) / tot s.L (u2 ++ [a]) = 0
        · simp only [c, if_true] at f2 ⊢
          refine ⟨_, rfl, fun gg e p p0 p1 => ?_⟩
          cases e
          exact fit_row (L := s.L) (us := u2 ++ [a]) (g := fun y => (pre s.L s.lower y - pre s.L s.upper y, s.sz (s.tale y))) f2 (by omega) (by simp) ndu.2.1 lsm rfl (by omega) hsh p1
        · simp only [c, if_false] at f2 ⊢
          refine ⟨_, rfl, fun gg e p p0 p1 => ?_⟩
          cases e
          exact fit_row (L := s.L) (us := u2 ++ [a]) (g := fun y => (pre s.L s.lower y - pre s.L s.upper y, s.sz (s.tale y))) f2 (by omega) (by simp) ndu.2.1 lsm rfl (by omega) hsh p1
theorem fits_shorten {n : Int} {T : Int → Int} {m : Nat} {s : St} (g : Good n T m s) (hn : n ≤ 1000000000000) (h : s.upper ≠ []) (f : Fits n s.recs) : Fits n (shorten s).recs := by
  obtain ⟨r, e, hr⟩ := shorten_rec g hn h
  rw [e]
  refine f.snoc fun gg eg p p0 p1 q k c hp => ?_
  have hc := g.cov p p0 p1
  unfold Cov at hc
  rw [hp] at hc
  exact hr gg eg q hc.1 hc.2.1
end Rz
end
section
namespace Rz
/-! ### the parts of a winning, as the program takes them -/
def upD (s : St) (w : Nat) : List Nat := s.lower.drop (s.lower.idxOf w + 1)
def upM (s : St) (w : Nat) : Int := (s.L w - 1) / tot s.L (upD s w)
def upS (s : St) (w : Nat) : St := if upM s w = 0 then { s with lower := s.lower.dropLast.insertIdx (s.lower.idxOf w + 1) s.lastL } else s
def upLs (s : St) (w : Nat) : List Nat := if upM s w = 0 then (upD s w).drop ((upD s w).length - 1) else upD s w
def upK (s : St) (w : Nat) : Nat := if upM s w = 0 then 1 else (upM s w).toNat
def upX (s : St) (w : Nat) : Int := tot s.L (upLs s w) * (upK s w : Int)
def upS2 (s : St) (w : Nat) : St := (upS s w).stage ((upS s w).fin - upX s w) (tot s.L (upD s w)) ((upS s w).sz (s.tale w)) []
theorem upW_eq (s : St) (w : Nat) : upW s w = ((upLs s w).foldl (St.after ((upS2 s w).timI (s.tale w) (upK s w))) ((upS2 s w).tim (s.tale w) (upK s w))).cut w (upX s w) := rfl
def loD (s : St) (w : Nat) : List Nat := s.upper.drop (s.upper.idxOf w + 1)
def loM (s : St) (w : Nat) : Int := (s.L w - 1) / tot s.L (loD s w)
def loLs (s : St) (w : Nat) : List Nat := if loM s w = 0 then (loD s w).drop ((loD s w).length - 1) else loD s w
def loK (s : St) (w : Nat) : Nat := if loM s w = 0 then 1 else (loM s w).toNat
def loX (s : St) (w : Nat) : Int := tot s.L (loLs s w) * (loK s w : Int)
def loS1 (s : St) (w : Nat) : St := s.stage (s.fin - loX s w) (tot s.L (loD s w)) (s.sz (s.tale w)) (loD s w)
def loS2 (s : St) (w : Nat) : St := if loM s w = 0 then { loS1 s w with upper := s.upper.dropLast.insertIdx (s.upper.idxOf w + 1) s.lastU } else loS1 s w
theorem loW_eq (s : St) (w : Nat) : loW s w = ((loLs s w).foldl (St.ahead ((loS2 s w).timI (s.tale w) (loK s w))) ((loS2 s w).tim (s.tale w) (loK s w))).cut w (loX s w) := rfl

theorem max_k {m : Int} {k : Nat} (h : 0 ≤ m) (e : k = if m = 0 then 1 else m.toNat) : (if (1 : Int) > m then (1 : Int) else m) = (k : Int) := by
  subst e
  by_cases c : m = 0
  · rw [if_pos c, if_pos (by omega)]; rfl
  · rw [if_neg c, if_neg (by omega)]; omega
theorem perm_ins (l1 l2 : List Nat) (w z : Nat) : (l1 ++ w :: z :: l2).Perm (l1 ++ w :: (l2 ++ [z])) := by
  refine List.Perm.append_left l1 (List.Perm.cons w ?_)
  exact (List.perm_append_comm (l₁ := [z]) (l₂ := l2))
theorem map_sum (L : Nat → Int) : ∀ ls : List Nat, (ls.map L).sum = tot L ls
  | [] => rfl
  | x :: r => by rw [List.map_cons, List.sum_cons, map_sum L r]; rfl
/-- what holds where the one at the upper end wins -/
structure UpF (s : St) (w : Nat) : Prop where
  mem : w ∈ s.lower
  ne : upD s w ≠ []
  t1 : 1 ≤ tot s.L (upD s w)
  t2 : tot s.L (upD s w) ≤ s.fin
  lw : s.L w ≤ s.fin
  m0 : 0 ≤ upM s w
  m1 : upM s w ≤ s.L w
  sub : ∀ x ∈ upD s w, x ∈ s.lower
  subL : ∀ x ∈ upLs s w, x ∈ s.lower
  nd : (upLs s w).Nodup
  perm : (upS s w).lower.Perm s.lower
  spot : s.lower.idxOf w + 1 ≤ s.lower.dropLast.length
theorem tot_ge {L : Nat → Int} : ∀ {ls : List Nat} {x : Nat}, (∀ y ∈ ls, 1 ≤ L y) → x ∈ ls → L x ≤ tot L ls
  | [], x, _, h => by simp at h
  | y :: r, x, hp, h => by
    have h1 := hp y List.mem_cons_self
    have h2 := tot_nn r fun z hz => hp z (List.mem_cons_of_mem _ hz)
    show L x ≤ L y + tot L r
    rcases List.mem_cons.mp h with e | e
    · subst e; omega
    · have := tot_ge (fun z hz => hp z (List.mem_cons_of_mem _ hz)) e
      omega
theorem mid_of {l : List Nat} {ls : List Nat} {w b : Nat} (hl : l = ls ++ [b]) (hw : w ∈ l) (ne : w ≠ b) : ∃ l1 l2, l = l1 ++ w :: (l2 ++ [b]) := by
  rw [hl] at hw
  rcases List.mem_append.mp hw with z | z
  · obtain ⟨l1, l2, e⟩ := List.append_of_mem z
    exact ⟨l1, l2, by rw [hl, e]; simp⟩
  · exact absurd (by simpa using z) ne
theorem up_facts {n : Int} {T : Int → Int} {m : Nat} {s : St} (g : Good n T m s) {us ls : List Nat} {w b : Nat} (hu : s.upper = us ++ [w]) (hl : s.lower = ls ++ [b]) (ne : w ≠ b) : UpF s w := by
  have hw : w ∈ s.upper := by rw [hu]; simp
  have hwl : w ∈ s.lower := g.perm.mem_iff.mp hw
  obtain ⟨l1, l2, hl'⟩ := mid_of hl hwl ne
  have memL : ∀ x ∈ s.lower, x ∈ s.upper := fun x hx => g.perm.mem_iff.mpr hx
  have ndl := g.perm.nodup_iff.mp g.nu
  have posl : ∀ x ∈ s.lower, 1 ≤ s.L x := fun x hx => g.pos x (memL x hx)
  have ndl2 := ndl
  rw [hl', List.nodup_append, List.nodup_cons] at ndl2
  have nw : w ∉ l1 := fun z => ndl2.2.2 w z w (by simp) rfl
  have hi : s.lower.idxOf w = l1.length := by rw [hl', idx_mid nw]
  have eD : upD s w = l2 ++ [b] := by unfold upD; rw [hi]; conv => lhs; rw [hl']
                                      exact drop_mid _ _ _
  have sub : ∀ x ∈ upD s w, x ∈ s.lower := fun x hx => by rw [eD] at hx; rw [hl']; simp at hx ⊢; rcases hx with q | q <;> simp [q]
  have hZ : 1 ≤ tot s.L (upD s w) := by
    have h1 := tot_ge (L := s.L) (ls := upD s w) (x := b) (fun y hy => posl y (sub y hy)) (by rw [eD]; simp)
    have := posl b (by rw [hl]; simp)
    omega
  have finL : s.fin = tot s.L s.lower := by rw [g.fin, tot_perm _ g.perm]
  have hZ2 : tot s.L (upD s w) ≤ s.fin := by
    rw [finL, eD, hl', tot_app s.L l1]
    have h1 := tot_nn l1 fun z hz => posl z (by rw [hl']; simp [hz])
    have h2 := posl w hwl
    show _ ≤ tot s.L l1 + (s.L w + tot s.L (l2 ++ [b]))
    omega
  have hlw : s.L w ≤ s.fin := by rw [finL]; exact tot_ge posl hwl
  have pw := g.pos w hw
  have m0 : 0 ≤ upM s w := Int.ediv_nonneg (by omega) (by omega)
  have m1 : upM s w ≤ s.L w - 1 := Int.ediv_le_self _ (by omega)
  refine ⟨hwl, by rw [eD]; simp, hZ, hZ2, hlw, m0, by omega, sub, ?_, ?_, ?_, ?_⟩
  · intro x hx
    unfold upLs at hx
    split at hx
    · exact sub x (List.mem_of_mem_drop hx)
    · exact sub x hx
  · unfold upLs
    have ndD : (upD s w).Nodup := by rw [eD]; exact ndl2.2.1.2
    split
    · exact ndD.sublist (List.drop_sublist _ _)
    · exact ndD
  · unfold upS
    split
    · show (s.lower.dropLast.insertIdx (s.lower.idxOf w + 1) s.lastL).Perm s.lower
      have elast : s.lastL = b := by unfold St.lastL; rw [hl]; exact last_at _ _
      rw [hi, elast, hl', dropLast_mid, ins_mid]
      exact perm_ins _ _ _ _
    · exact .refl _
  · rw [hi, hl', dropLast_mid, List.length_append, List.length_cons]
    omega
structure LoF (s : St) (w : Nat) : Prop where
  mem : w ∈ s.upper
  ne : loD s w ≠ []
  t1 : 1 ≤ tot s.L (loD s w)
  t2 : tot s.L (loD s w) ≤ s.fin
  lw : s.L w ≤ s.fin
  m0 : 0 ≤ loM s w
  m1 : loM s w ≤ s.L w
  sub : ∀ x ∈ loD s w, x ∈ s.upper
  subL : ∀ x ∈ loLs s w, x ∈ s.upper
  nd : (loLs s w).Nodup
  spot : s.upper.idxOf w + 1 ≤ s.upper.dropLast.length
theorem lo_facts {n : Int} {T : Int → Int} {m : Nat} {s : St} (g : Good n T m s) {us ls : List Nat} {w a : Nat} (hl : s.lower = ls ++ [w]) (hu : s.upper = us ++ [a]) (ne : w ≠ a) : LoF s w := by
  have hwl : w ∈ s.lower := by rw [hl]; simp
  have hw : w ∈ s.upper := g.perm.mem_iff.mpr hwl
  obtain ⟨l1, l2, hu'⟩ := mid_of hu hw ne
  have ndu2 := g.nu
  rw [hu', List.nodup_append, List.nodup_cons] at ndu2
  have nw : w ∉ l1 := fun z => ndu2.2.2 w z w (by simp) rfl
  have hi : s.upper.idxOf w = l1.length := by rw [hu', idx_mid nw]
  have eD : loD s w = l2 ++ [a] := by unfold loD; rw [hi]; conv => lhs; rw [hu']
                                      exact drop_mid _ _ _
  have sub : ∀ x ∈ loD s w, x ∈ s.upper := fun x hx => by rw [eD] at hx; rw [hu']; simp at hx ⊢; rcases hx with q | q <;> simp [q]
  have hZ : 1 ≤ tot s.L (loD s w) := by
    have h1 := tot_ge (L := s.L) (ls := loD s w) (x := a) (fun y hy => g.pos y (sub y hy)) (by rw [eD]; simp)
    have := g.pos a (by rw [hu]; simp)
    omega
  have hZ2 : tot s.L (loD s w) ≤ s.fin := by
    rw [g.fin, eD, hu', tot_app s.L l1]
    have h1 := tot_nn l1 fun z hz => g.pos z (by rw [hu']; simp [hz])
    have h2 := g.pos w hw
    show _ ≤ tot s.L l1 + (s.L w + tot s.L (l2 ++ [a]))
    omega
  have hlw : s.L w ≤ s.fin := by rw [g.fin]; exact tot_ge g.pos hw
  have pw := g.pos w hw
  have m0 : 0 ≤ loM s w := Int.ediv_nonneg (by omega) (by omega)
  have m1 : loM s w ≤ s.L w - 1 := Int.ediv_le_self _ (by omega)
  refine ⟨hw, by rw [eD]; simp, hZ, hZ2, hlw, m0, by omega, sub, ?_, ?_, ?_⟩
  · intro x hx
    unfold loLs at hx
    split at hx
    · exact sub x (List.mem_of_mem_drop hx)
    · exact sub x hx
  · unfold loLs
    have ndD : (loD s w).Nodup := by rw [eD]; exact ndu2.2.1.2
    split
    · exact ndD.sublist (List.drop_sublist _ _)
    · exact ndD
  · rw [hi, hu', dropLast_mid, List.length_append, List.length_cons]
    omega
structure SameBut (a b : St) : Prop where
  left : a.left = b.left
  tales : a.tales = b.tales
  nodes : a.nodes = b.nodes
  recs : a.recs = b.recs
  fin : a.fin = b.fin
theorem upS_same (s : St) (w : Nat) : SameBut (upS s w) s ∧ (upS s w).upper = s.upper := by
  unfold upS
  split
  · exact ⟨⟨rfl, rfl, rfl, rfl, rfl⟩, rfl⟩
  · exact ⟨⟨rfl, rfl, rfl, rfl, rfl⟩, rfl⟩
theorem SameBut.L {a b : St} (h : SameBut a b) : a.L = b.L := by funext x; unfold St.L; rw [h.left]
theorem SameBut.tale {a b : St} (h : SameBut a b) (x : Nat) : a.tale x = b.tale x := by unfold St.tale; rw [h.tales]
theorem SameBut.sz {a b : St} (h : SameBut a b) (x : Nat) : a.sz x = b.sz x := by unfold St.sz; rw [h.nodes]
theorem tim_same (s : St) (a k : Nat) : (s.tim a k).left = s.left ∧ (s.tim a k).tales = s.tales := by
  unfold St.tim
  split <;> exact ⟨rfl, rfl⟩
/-- growing tales, turn by turn -/
structure FoldK (s s' : St) (k : Nat) : Prop where
  nodes : s'.nodes.length = s.nodes.length + k
  tl : s'.tales.length = s.tales.length
  left : s'.left = s.left
  tale : ∀ x, s.tale x < s.nodes.length → s'.tale x < s'.nodes.length
theorem foldk_after (b : Nat) : ∀ (ls : List Nat) (s : St), (∀ x ∈ ls, x < s.tales.length) → FoldK s (ls.foldl (St.after b) s) ls.length
  | [], s, _ => ⟨rfl, rfl, rfl, fun _ h => h⟩
  | y :: r, s, h => by
    have ih := foldk_after b r (St.after b s y) fun x hx => by
      show x < (s.tales.set y _).length
      rw [List.length_set]; exact h x (List.mem_cons_of_mem _ hx)
    have l1 : (St.after b s y).nodes.length = s.nodes.length + 1 := by
      show (s.nodes ++ [_]).length = _
      rw [List.length_append]; rfl
    refine ⟨by rw [List.foldl_cons, ih.nodes, l1, List.length_cons]; omega, ?_, ih.left, fun x hx => ih.tale x ?_⟩
    · rw [List.foldl_cons, ih.tl]; exact List.length_set
    · rw [l1]
      have e : (St.after b s y).tale x = if x = y then s.nodes.length else s.tale x := getD_set s.tales y x _ _ (h y List.mem_cons_self)
      rw [e]
      split <;> omega
theorem foldk_ahead (b : Nat) : ∀ (ls : List Nat) (s : St), (∀ x ∈ ls, x < s.tales.length) → FoldK s (ls.foldl (St.ahead b) s) ls.length
  | [], s, _ => ⟨rfl, rfl, rfl, fun _ h => h⟩
  | y :: r, s, h => by
    have ih := foldk_ahead b r (St.ahead b s y) fun x hx => by
      show x < (s.tales.set y _).length
      rw [List.length_set]; exact h x (List.mem_cons_of_mem _ hx)
    have l1 : (St.ahead b s y).nodes.length = s.nodes.length + 1 := by
      show (s.nodes ++ [_]).length = _
      rw [List.length_append]; rfl
    refine ⟨by rw [List.foldl_cons, ih.nodes, l1, List.length_cons]; omega, ?_, ih.left, fun x hx => ih.tale x ?_⟩
    · rw [List.foldl_cons, ih.tl]; exact List.length_set
    · rw [l1]
      have e : (St.ahead b s y).tale x = if x = y then s.nodes.length else s.tale x := getD_set s.tales y x _ _ (h y List.mem_cons_self)
      rw [e]
      split <;> omega
theorem tim_len (s : St) (a k : Nat) : s.nodes.length ≤ (s.tim a k).nodes.length ∧ (s.tim a k).nodes.length ≤ s.nodes.length + 1 := by
  unfold St.tim
  split
  · omega
  · show s.nodes.length ≤ (s.nodes ++ [_]).length ∧ (s.nodes ++ [_]).length ≤ _
    rw [List.length_append, List.length_singleton]; omega
theorem timI_lt {s : St} {a k : Nat} (h : a < s.nodes.length) : s.timI a k < (s.tim a k).nodes.length := by
  unfold St.timI St.tim
  split
  · exact h
  · show s.nodes.length < (s.nodes ++ [_]).length
    rw [List.length_append, List.length_singleton]; omega
theorem insert_at (xs : List Nat) (k y : Nat) (h : k ≤ xs.length) : xs.insertIdx k y = xs.take k ++ [y] ++ xs.drop k := by
  induction xs generalizing k with
  | nil =>
    have : k = 0 := by simpa using h
    subst this; rfl
  | cons a r ih =>
    cases k with
    | zero => rfl
    | succ k =>
      rw [List.insertIdx_succ_cons, ih k (by simpa using h)]; rfl
end Rz
end
section
namespace Rz
/-- a word is taken at least once -/
def Mp (ns : List Nd) : Prop := ∀ d ∈ ns, d.kind = 2 → 0 < d.other ∧ d.other ≤ 1000000000000
theorem Mp.snoc {ns : List Nd} {d : Nd} (h : Mp ns) (hd : d.kind = 2 → 0 < d.other ∧ d.other ≤ 1000000000000) : Mp (ns ++ [d]) := fun x hx => by
  rcases List.mem_append.mp hx with z | z
  · exact h x z
  · rw [List.mem_singleton.mp z]; exact hd
theorem mp_tim {s : St} {a k : Nat} (h : Mp s.nodes) (hk : 0 < k ∧ k ≤ 1000000000000) : Mp (s.tim a k).nodes := by
  unfold St.tim
  split
  · exact h
  · exact h.snoc fun _ => hk
theorem mp_after (b : Nat) : ∀ (ls : List Nat) (s : St), Mp s.nodes → Mp (ls.foldl (St.after b) s).nodes
  | [], _, h => h
  | y :: r, s, h => mp_after b r (St.after b s y) (h.snoc (d := ⟨1, s.tale y, b, s.sz (s.tale y) + s.sz b, s.dr (s.tale y) + s.dr b⟩) fun z => absurd (show (1 : Nat) = 2 from z) (by decide))
theorem mp_ahead (b : Nat) : ∀ (ls : List Nat) (s : St), Mp s.nodes → Mp (ls.foldl (St.ahead b) s).nodes
  | [], _, h => h
  | y :: r, s, h => mp_ahead b r (St.ahead b s y) (h.snoc (d := ⟨1, b, s.tale y, s.sz b + s.sz (s.tale y), s.dr b + s.dr (s.tale y)⟩) fun z => absurd (show (1 : Nat) = 2 from z) (by decide))
theorem mp0 (ls : List Int) (od : List Nat) : Mp (st0 ls od).nodes := fun d hd => by
  obtain ⟨x, _, rfl⟩ := List.mem_map.mp hd
  intro z
  exact absurd (show (0 : Nat) = 2 from z) (by decide)
theorem mp_shorten {n : Int} {T : Int → Int} {m : Nat} {s : St} (g : Good n T m s) (hn : n ≤ 1000000000000) (h : s.upper ≠ []) (p : Mp s.nodes) : Mp (shorten s).nodes := by
  have hlo : s.lower ≠ [] := fun z => by
    have := g.perm.length_eq
    rw [z] at this
    exact h (List.eq_nil_of_length_eq_zero this)
  obtain ⟨us, a, hu⟩ := snoc_of s.upper h
  obtain ⟨ls, b, hl⟩ := snoc_of s.lower hlo
  have ea : s.lastU = a := by unfold St.lastU; rw [hu]; exact last_at _ _
  have eb : s.lastL = b := by unfold St.lastL; rw [hl]; exact last_at _ _
  unfold shorten
  dsimp only
  rw [ea, eb]
  by_cases c1 : a = b
  · rw [if_pos c1]; exact p
  · rw [if_neg c1]
    by_cases c2 : s.L a = s.L b
    · rw [if_pos c2]
      exact p.snoc (d := ⟨1, s.tale b, s.tale a, s.sz (s.tale b) + s.sz (s.tale a), s.dr (s.tale b) + s.dr (s.tale a)⟩) fun z => absurd (show (1 : Nat) = 2 from z) (by decide)
    · rw [if_neg c2]
      by_cases c3 : s.L b < s.L a
      · rw [if_pos c3, upW_eq]
        have F := up_facts g hu hl c1
        have k0 : 0 < upK s a ∧ upK s a ≤ 1000000000000 := by
          unfold upK
          have := F.m0
          have := F.m1
          have := F.lw
          have := g.le
          split <;> omega
        have p2 : Mp (upS2 s a).nodes := by
          have e : (upS2 s a).nodes = (upS s a).nodes := rfl
          rw [e, (upS_same s a).1.nodes]; exact p
        exact mp_after _ _ _ (mp_tim p2 k0)
      · rw [if_neg c3, loW_eq]
        have F := lo_facts g hl hu (fun e => c1 e.symm)
        have k0 : 0 < loK s b ∧ loK s b ≤ 1000000000000 := by
          unfold loK
          have := F.m0
          have := F.m1
          have := F.lw
          have := g.le
          split <;> omega
        have p2 : Mp (loS2 s b).nodes := by
          unfold loS2
          split <;> exact p
        exact mp_ahead _ _ _ (mp_tim p2 k0)
theorem size_pos {ns : List Nd} (p : Mp ns) {i : Nat} {t : Tr} (h : IsT ns i t) : 0 < t.size := by
  induction h with
  | blk _ => exact Nat.one_pos
  | two _ _ _ h1 h2 => exact Nat.add_pos_left h1 _
  | tim e _ h1 =>
    have := (p _ (List.mem_of_getElem? e) rfl).1
    exact Nat.mul_pos h1 this
theorem off_zero {ns : List Nd} (p : Mp ns) {i : Nat} {t : Tr} (h : IsT ns i t) : t.off 0 = 0 := by
  induction h with
  | blk _ => rfl
  | @two i a b x y e hx hy h1 h2 =>
    show (if x.size ≤ 0 then _ else x.off 0) = 0
    rw [if_neg (by have := size_pos p hx; omega)]; exact h1
  | @tim i a m x e hx h1 =>
    show ((0 / x.size : Nat) : Int) * x.drift + x.off (0 % x.size) = 0
    rw [Nat.zero_div, Nat.zero_mod, h1]
    simp
/-- what stands in front, after so many steps (more than none, fewer than all) -/
structure Front (ns : List Nd) (t : Tr) (j : Nat) (one many nxt : Nat) : Prop where
  ex : ∃ (a c : Tr), IsT ns one a ∧ IsT ns nxt c ∧ (many : Int) * a.drift + c.off (j - many * a.size) = t.off j ∧ many * a.size ≤ j ∧ j - many * a.size < c.size ∧ sizeOf c < sizeOf t ∧ many ≤ 1000000000000
theorem front_two {ns : List Nd} {a b : Nat} {x y : Tr} {j : Nat} (ha : IsT ns a x) (hb : IsT ns b y) (hj : j < x.size + y.size) : (x.size ≤ j → Front ns (.two x y) j a 1 b) ∧ (¬ x.size ≤ j → Front ns (.two x y) j a 0 a) := by
  refine ⟨fun h => ⟨x, y, ha, hb, ?_, ?_, ?_, ?_, by decide⟩, fun h => ⟨x, x, ha, ha, ?_, ?_, ?_, ?_, by decide⟩⟩
  · show ((1 : Nat) : Int) * x.drift + y.off (j - 1 * x.size) = if x.size ≤ j then _ else _
    rw [if_pos h, Nat.one_mul]; simp
  · omega
  · omega
  · simp; omega
  · show ((0 : Nat) : Int) * x.drift + x.off (j - 0 * x.size) = if x.size ≤ j then _ else _
    rw [if_neg h, Nat.zero_mul]; simp
  · omega
  · omega
  · simp; omega
theorem front_tim {ns : List Nd} (p : Mp ns) {a m : Nat} {x : Tr} {j : Nat} (ha : IsT ns a x) (hm : m ≤ 1000000000000) (hj : j < x.size * m) : Front ns (.tim x m) j a (j / x.size) a := by
  have hx := size_pos p ha
  have e : j - j / x.size * x.size = j % x.size := by
    have := Nat.div_add_mod j x.size
    rw [Nat.mul_comm] at this
    omega
  refine ⟨x, x, ha, ha, ?_, Nat.div_mul_le_self _ _, ?_, ?_, Nat.le_trans (Nat.le_of_lt (Nat.div_lt_of_lt_mul hj)) hm⟩
  · show _ = ((j / x.size : Nat) : Int) * x.drift + x.off (j % x.size)
    rw [e]
  · rw [e]; exact Nat.mod_lt _ hx
  · simp; omega
theorem posAll_cnt : ∀ (rs : List Rc) (p0 : Int) (k0 c0 : Nat) (q : Int) (k c : Nat), rs.foldl PR.step (.mid p0 k0 c0) = .mid q k c → c = c0 + (bands rs).length
  | [], p0, k0, c0, q, k, c, h => by
    have : PR.mid p0 k0 c0 = PR.mid q k c := h
    injection this with _ _ h3
    rw [← h3]; rfl
  | .st g :: r, p0, k0, c0, q, k, c, h => posAll_cnt r _ _ c0 q k c h
  | .bd b w i :: r, p0, k0, c0, q, k, c, h => by
    have h' : r.foldl PR.step (if b ≤ p0 then .done c0 b w i p0 k0 else .mid p0 k0 (c0 + 1)) = .mid q k c := h
    by_cases z : b ≤ p0
    · rw [if_pos z] at h'
      exact absurd h' (by
        have : ∀ (r : List Rc), r.foldl PR.step (.done c0 b w i p0 k0) = .done c0 b w i p0 k0 := fun r => by
          induction r with
          | nil => rfl
          | cons x t ih => exact ih
        rw [this]; intro e; cases e)
    · rw [if_neg z] at h'
      have := posAll_cnt r p0 k0 (c0 + 1) q k c h'
      show c = c0 + (bands r).length.succ
      omega
theorem done_stays (c : Nat) (b w : Int) (i : Nat) (p : Int) (k : Nat) : ∀ r : List Rc, r.foldl PR.step (.done c b w i p k) = .done c b w i p k
  | [] => rfl
  | _ :: r => done_stays c b w i p k r
theorem posAll_take {rs : List Rc} {p : Int} {i : Nat} : posAll rs p = (rs.drop i).foldl PR.step (posAll (rs.take i) p) := by
  unfold posAll
  rw [← List.foldl_append, List.take_append_drop]
end Rz
end
section
set_option autoImplicit false
namespace Rz
/-! ### the table of one step -/
/-- blocks before the i-th of the order, and k places of it, are written -/
structure Tab (ls : List Int) (od : List Nat) (fs : List Int) (i k : Nat) : Prop where
  len : (fs.length : Int) = exN ls
  at_ : ∀ (j x off : Nat), od[j]? = some x → (off : Int) < exL ls x → (j < i ∨ (j = i ∧ off < k)) → fs[(pre (exL ls) (List.range ls.length) x + (off : Int)).toNat]? = some (mv ls od (pre (exL ls) (List.range ls.length) x + (off : Int)))
section
variable {ls : List Int} {od : List Nat} {fs : List Int} {i k x : Nat}
theorem pre_od (e : Ex ls od) (hx : od[i]? = some x) : pre (exL ls) od x = tot (exL ls) (od.take i) := by
  have nd : od.Nodup := e.perm.nodup_iff.mp List.nodup_range
  obtain ⟨hi, hv⟩ := List.getElem?_eq_some_iff.mp hx
  have e1 : od = od.take i ++ (x :: od.drop (i + 1)) := by
    rw [← hv, ← List.drop_eq_getElem_cons hi, List.take_append_drop]
  have hn : x ∉ od.take i := fun hm => by
    rw [e1] at nd
    have := (List.nodup_append.mp nd).2.2 x hm x List.mem_cons_self
    exact this rfl
  conv => lhs; rw [e1]
  rw [pre_not _ _ _ _ hn, pre_self]
  omega
theorem Tab.zero (n : Nat) (h : (n : Int) = exN ls) : Tab ls od (List.replicate n 0) 0 0 := ⟨by rw [List.length_replicate]; exact h, fun j x off _ _ h => by omega⟩
theorem Tab.pos_lt (e : Ex ls od) (hx : x < ls.length) (hk : (k : Int) < exL ls x) : 0 ≤ pre (exL ls) (List.range ls.length) x + (k : Int) ∧ pre (exL ls) (List.range ls.length) x + (k : Int) < exN ls := by
  have h0 := pre_nn (List.range ls.length) x e.posR
  have h1 := pre_le (List.range ls.length) x e.posR (List.mem_range.mpr hx)
  unfold exN
  omega
theorem Tab.step (e : Ex ls od) (t : Tab ls od fs i k) (hx : od[i]? = some x) (hk : (k : Int) < exL ls x) :
    Tab ls od (fs.set (pre (exL ls) (List.range ls.length) x + (k : Int)).toNat (tot (exL ls) (od.take i) + (k : Int))) i (k + 1) := by
  have hxl : x < ls.length := List.mem_range.mp (e.perm.mem_iff.mpr (List.mem_of_getElem? hx))
  obtain ⟨p0, p1⟩ := Tab.pos_lt e hxl hk
  refine ⟨by rw [List.length_set]; exact t.len, fun j y off hy ho h => ?_⟩
  have hyl : y < ls.length := List.mem_range.mp (e.perm.mem_iff.mpr (List.mem_of_getElem? hy))
  obtain ⟨q0, q1⟩ := Tab.pos_lt e hyl ho
  have nd : od.Nodup := e.perm.nodup_iff.mp List.nodup_range
  by_cases c : pre (exL ls) (List.range ls.length) y + (off : Int) = pre (exL ls) (List.range ls.length) x + (k : Int)
  · -- the same place
    rw [c, List.getElem?_set_self (by have := t.len; omega), mv_in e hxl (by omega) (by omega)]
    congr 1
    unfold exSh
    rw [pre_od e hx]
    omega
  · rw [List.getElem?_set_ne (by omega)]
    refine t.at_ j y off hy ho ?_
    rcases h with h | ⟨h1, h2⟩
    · exact .inl h
    · subst h1
      rw [hx] at hy
      cases hy
      refine .inr ⟨rfl, ?_⟩
      by_cases d : off = k
      · subst d; exact absurd rfl c
      · omega
theorem Tab.next (t : Tab ls od fs i k) (hx : od[i]? = some x) (hk : exL ls x ≤ (k : Int)) : Tab ls od fs (i + 1) 0 := by
  refine ⟨t.len, fun j y off hy ho h => t.at_ j y off hy ho ?_⟩
  rcases h with h | ⟨_, h⟩
  · rcases Nat.lt_or_ge j i with c | c
    · exact .inl c
    · have : j = i := by omega
      subst this
      rw [hx] at hy
      cases hy
      exact .inr ⟨rfl, by omega⟩
  · omega
theorem Tab.done (e : Ex ls od) (t : Tab ls od fs od.length 0) {p : Int} (p0 : 0 ≤ p) (p1 : p < exN ls) : fs[p.toNat]? = some (mv ls od p) := by
  obtain ⟨x, hx, a, b, _⟩ := mv_find e p0 p1
  obtain ⟨j, hj⟩ := List.getElem?_of_mem (e.perm.mem_iff.mp (List.mem_range.mpr hx))
  have hjl := (List.getElem?_eq_some_iff.mp hj).1
  have := t.at_ j x (p - pre (exL ls) (List.range ls.length) x).toNat hj (by omega) (.inl hjl)
  rw [show pre (exL ls) (List.range ls.length) x + (((p - pre (exL ls) (List.range ls.length) x).toNat : Nat) : Int) = p by omega] at this
  exact this
end
/-! ### rings -/
theorem itm (T : Int → Int) (a : Nat) : ∀ (k : Nat) (p : Int), it (fun q => it T a q) k p = it T (a * k) p
  | 0, p => rfl
  | k + 1, p => by
    show it (fun q => it T a q) k (it T a p) = _
    rw [itm T a k, Nat.mul_succ, Nat.add_comm, it_add]
/-- where one is back -/
theorem per_some (T : Int → Int) (p : Int) : ∀ (n z : Nat), z ≤ n → 0 < z → it T z p = p → ∃ y, Per T p y
  | 0, z, h, h0, _ => by omega
  | n + 1, z, h, h0, hz => by
    by_cases c : ∃ j, 0 < j ∧ j < z ∧ it T j p = p
    · obtain ⟨j, j0, j1, hj⟩ := c
      exact per_some T p n j (by omega) j0 hj
    · exact ⟨z, h0, hz, fun j j0 j1 e => c ⟨j, j0, j1, e⟩⟩
theorem Per.uniq {T : Int → Int} {p : Int} {y z : Nat} (a : Per T p y) (b : Per T p z) : y = z := by
  rcases Nat.lt_trichotomy y z with c | c | c
  · exact absurd a.back (b.min y a.pos c)
  · exact c
  · exact absurd b.back (a.min z b.pos c)
/-- with strides -/
theorem per_stride {T : Int → Int} {p : Int} {z : Nat} (h : Per T p z) (a : Nat) : ∃ y, Per (fun q => it T a q) p y :=
  per_some _ p z z (Nat.le_refl _) h.pos (by rw [itm, Nat.mul_comm]; exact Per.mul h.back a)
theorem per_mod {T : Int → Int} {p : Int} {z : Nat} (h : Per T p z) (a k : Nat) : it (fun q => it T a q) k p = p ↔ (k * a) % z = 0 := by
  rw [itm, Nat.mul_comm]
  exact h.iff _
/-- the first n places -/
def orb (T : Int → Int) (p : Int) (n : Nat) : List Int := (List.range n).map fun k => it T k p
theorem orb_len (T : Int → Int) (p : Int) (n : Nat) : (orb T p n).length = n := by unfold orb; rw [List.length_map, List.length_range]
theorem orb_get {T : Int → Int} {p : Int} {n k : Nat} (h : k < n) : (orb T p n)[k]? = some (it T k p) := by unfold orb; rw [List.getElem?_map, List.getElem?_range h]; rfl
theorem orb_succ (T : Int → Int) (p : Int) (n : Nat) : orb T p (n + 1) = orb T p n ++ [it T n p] := by unfold orb; rw [List.range_succ, List.map_append]; rfl
theorem orb_take (T : Int → Int) (p : Int) (n m : Nat) : (orb T p n).take m = orb T p (min m n) := by unfold orb; rw [← List.map_take, List.take_range]
theorem orb_one (T : Int → Int) (p : Int) : orb T p 1 = [p] := rfl
/-- (k + 1) times the stride, as the law reckons it -/
theorem at_succ (a z k : Nat) : ((k * a) % z + a) % z = ((k + 1) * a) % z := by rw [Nat.mod_add_mod, Nat.succ_mul]
/-! ### two blocks -/
theorem mv_two {a b p : Int} (h : Ex [a, b] [1, 0]) (p0 : 0 ≤ p) (p1 : p < a + b) : mv [a, b] [1, 0] p = (p + b) % (a + b) := by
  have ha : 1 ≤ a := h.pos 0 (show 0 < 2 by decide)
  have hb : 1 ≤ b := h.pos 1 (show 1 < 2 by decide)
  have e0 : pre (exL [a, b]) (List.range 2) 0 = 0 := rfl
  have e1 : pre (exL [a, b]) (List.range 2) 1 = a := by
    show (if (0 : Nat) = 1 then (0 : Int) else exL [a, b] 0 + (if (1 : Nat) = 1 then 0 else _)) = a
    simp [exL]
  have f0 : pre (exL [a, b]) [1, 0] 0 = b := by
    show (if (1 : Nat) = 0 then (0 : Int) else exL [a, b] 1 + (if (0 : Nat) = 0 then 0 else _)) = b
    simp [exL]
  have f1 : pre (exL [a, b]) [1, 0] 1 = 0 := rfl
  rcases Int.lt_or_le p a with c | c
  · rw [mv_in h (x := 0) (show 0 < 2 by decide) (by show pre (exL [a, b]) (List.range 2) 0 ≤ p; rw [e0]; exact p0) (by show p < pre (exL [a, b]) (List.range 2) 0 + a; rw [e0]; omega)]
    show p + (pre (exL [a, b]) [1, 0] 0 - pre (exL [a, b]) (List.range 2) 0) = _
    rw [e0, f0, Int.emod_eq_of_lt (by omega) (by omega)]
    omega
  · rw [mv_in h (x := 1) (show 1 < 2 by decide) (by show pre (exL [a, b]) (List.range 2) 1 ≤ p; rw [e1]; exact c) (by show p < pre (exL [a, b]) (List.range 2) 1 + b; rw [e1]; omega)]
    show p + (pre (exL [a, b]) [1, 0] 1 - pre (exL [a, b]) (List.range 2) 1) = _
    rw [e1, f1]
    have e : p + b = (p - a) + (a + b) := by omega
    rw [e, Int.add_emod_right, Int.emod_eq_of_lt (by omega) (by omega)]
    omega
theorem ex_two {a b : Int} (ha : 1 ≤ a) (hb : 1 ≤ b) : Ex [a, b] [1, 0] := ⟨fun x hx => by
  match x, hx with
  | 0, _ => exact ha
  | 1, _ => exact hb, show (List.range 2).Perm [1, 0] by decide⟩
theorem exN_two (a b : Int) : exN [a, b] = a + b := by
  show exL [a, b] 0 + (exL [a, b] 1 + 0) = a + b
  simp [exL]
theorem it_two {a b p : Int} (h : Ex [a, b] [1, 0]) (p0 : 0 ≤ p) (p1 : p < a + b) : ∀ k : Nat, it (mv [a, b] [1, 0]) k p = (p + (k : Int) * b) % (a + b)
  | 0 => by
    show p = _
    rw [show p + ((0 : Nat) : Int) * b = p by omega, Int.emod_eq_of_lt p0 p1]
  | k + 1 => by
    have ha : 1 ≤ a := h.pos 0 (show 0 < 2 by decide)
    have hb : 1 ≤ b := h.pos 1 (show 1 < 2 by decide)
    rw [it_succ, it_two h p0 p1 k, mv_two h (Int.emod_nonneg _ (by omega)) (Int.emod_lt_of_pos _ (by omega)), Int.emod_add_emod]
    congr 1
    rw [Int.natCast_add, Int.add_mul]
    omega
end Rz
end
section
set_option autoImplicit false
namespace Rz
/-! ### periods are short -/
theorem nodup_lt : ∀ (n : Nat) (l : List Nat), l.Nodup → (∀ x ∈ l, x < n) → l.length ≤ n
  | 0, l, _, h => by
    cases l with
    | nil => exact Nat.le_refl _
    | cons x r => exact absurd (h x List.mem_cons_self) (Nat.not_lt_zero _)
  | n + 1, l, nd, h => by
    have ih := nodup_lt n (l.erase n) (nd.erase n) fun x hx => by
      have := (List.Nodup.mem_erase_iff nd).mp hx
      have := h x this.2
      omega
    by_cases c : n ∈ l
    · rw [List.length_erase_of_mem c] at ih
      omega
    · rw [List.erase_of_not_mem c] at ih
      omega
theorem nodup_pairs {α : Type} (f : Nat → α) (n : Nat) (h : ∀ i j, i < j → j < n → f i ≠ f j) : ((List.range n).map f).Nodup := by
  induction n with
  | zero => exact List.nodup_nil
  | succ n ih =>
    rw [List.range_succ, List.map_append]
    refine List.nodup_append.mpr ⟨ih fun i j a b => h i j a (by omega), by simp, fun x hx y hy => ?_⟩
    obtain ⟨i, hi, rfl⟩ := List.mem_map.mp hx
    have : y = f n := by simpa using hy
    rw [this]
    exact h i n (List.mem_range.mp hi) (Nat.lt_succ_self n)
theorem it_add' (T : Int → Int) : ∀ (i j : Nat) (p : Int), it T (i + j) p = it T j (it T i p)
  | 0, j, p => by rw [Nat.zero_add]; rfl
  | i + 1, j, p => by
    rw [show i + 1 + j = (i + j) + 1 by omega]
    show it T (i + j) (T p) = it T j (it T i (T p))
    exact it_add' T i j (T p)
theorem per_ex {T : Int → Int} {n : Int} (hr : ∀ p, 0 ≤ p → p < n → 0 ≤ T p ∧ T p < n) (hi : ∀ p q, 0 ≤ p → p < n → 0 ≤ q → q < n → T p = T q → p = q) {p : Int} (p0 : 0 ≤ p) (p1 : p < n) : ∃ z, Per T p z ∧ (z : Int) ≤ n := by
  have rng := fun k => it_range hr k p p0 p1
  have ex : ∃ z : Nat, 0 < z ∧ (z : Int) ≤ n ∧ it T z p = p := by
    refine Classical.byContradiction fun c => ?_
    have key : ∀ i j, i < j → j < n.toNat + 1 → (it T i p).toNat ≠ (it T j p).toNat := fun i j hij hj e => by
      have e2 : it T i p = it T j p := by
        have := rng i
        have := rng j
        omega
      refine c ⟨j - i, by omega, by omega, ?_⟩
      have e3 : it T j p = it T i (it T (j - i) p) := by
        rw [← it_add' T (j - i) i p]; congr 1; omega
      rw [e3] at e2
      have r := rng (j - i)
      exact (it_inj hr hi i p (it T (j - i) p) p0 p1 r.1 r.2 e2).symm
    have nd := nodup_pairs (fun k => (it T k p).toNat) (n.toNat + 1) key
    have := nodup_lt n.toNat _ nd fun x hx => by
      obtain ⟨k, _, rfl⟩ := List.mem_map.mp hx
      have := rng k
      show (it T k p).toNat < n.toNat
      omega
    rw [List.length_map, List.length_range] at this
    omega
  obtain ⟨z, z0, zn, hz⟩ := ex
  obtain ⟨y, hy⟩ := per_some T p z z (Nat.le_refl _) z0 hz
  refine ⟨y, hy, ?_⟩
  have : y ≤ z := Nat.le_of_not_lt fun q => hy.min z z0 q hz
  omega
theorem per_mv {ls : List Int} {od : List Nat} (e : Ex ls od) {p : Int} (p0 : 0 ≤ p) (p1 : p < exN ls) : ∃ z, Per (mv ls od) p z ∧ (z : Int) ≤ exN ls :=
  per_ex (fun p a b => mv_range e a b) (fun p q a b c d h => mv_inj e a b c d h) p0 p1
/-- a walk by strides is no longer than the round -/
theorem per_st {T : Int → Int} {p : Int} {z : Nat} (h : Per T p z) (a : Nat) : ∃ y, Per (fun q => it T a q) p y ∧ y ≤ z := by
  obtain ⟨y, hy⟩ := per_stride h a
  refine ⟨y, hy, Nat.le_of_not_lt fun q => hy.min z h.pos q ?_⟩
  rw [itm, Nat.mul_comm]
  exact Per.mul h.back a
/-- what stands in the ring at the k-th place of the walk -/
theorem ring_at {T : Int → Int} {p : Int} {z : Nat} (h : Per T p z) (a k : Nat) : (orb T p z)[(k * a) % z]? = some (it (fun q => it T a q) k p) := by
  rw [orb_get (Nat.mod_lt _ h.pos), itm, ← Per.mod h.back, Nat.mul_comm]
theorem stride_one (T : Int → Int) : (fun q => it T 1 q) = T := rfl
end Rz
end
section
set_option autoImplicit false
namespace Rz
/-! ### the far blocks -/
theorem ends_far {a b : Int} (ha : 1 ≤ a) (hb : 1 ≤ b) (a1 : a ≤ 500000000000) (b1 : b ≤ 500000000000) : Ends 200 (st0 [a, b] [1, 0]) := by
  have g := good0 (ex_two ha hb)
  refine Ends.mono (j := 98 + 2) (by decide) (ends_two 98 (a := 1) (b := 0) g rfl ?_)
  have e1 : (st0 [a, b] [1, 0]).L 1 = b := rfl
  have e0 : (st0 [a, b] [1, 0]).L 0 = a := rfl
  rw [e1, e0]
  have h1 : b * a ≤ 500000000000 * 500000000000 := by
    have k1 : b * a ≤ 500000000000 * a := Int.mul_le_mul_of_nonneg_right b1 (by omega)
    have k2 : (500000000000 : Int) * a ≤ 500000000000 * 500000000000 := Int.mul_le_mul_of_nonneg_left a1 (by decide)
    omega
  have h2 : (500000000000 : Int) * 500000000000 < 2 ^ 98 := by decide
  omega
/-- the places that are due -/
def dueF (p a b : Int) (s : Nat) (i : Nat) : Int := (p + (i : Int) * (s : Int) * b) % (a + b)
theorem due_it {a b p : Int} (ha : 1 ≤ a) (hb : 1 ≤ b) (p0 : 0 ≤ p) (p1 : p < a + b) (s i : Nat) : dueF p a b s i = it (fun q => it (mv [a, b] [1, 0]) s q) i p := by
  rw [itm, it_two (ex_two ha hb) p0 p1]
  unfold dueF
  rw [Nat.mul_comm, Int.natCast_mul]
theorem due_orb {a b p : Int} (ha : 1 ≤ a) (hb : 1 ≤ b) (p0 : 0 ≤ p) (p1 : p < a + b) (s n : Nat) : (List.range n).map (dueF p a b s) = orb (fun q => it (mv [a, b] [1, 0]) s q) p n := by
  unfold orb
  exact List.map_congr_left fun i _ => due_it ha hb p0 p1 s i
/-- the first place comes again: where -/
theorem again {T : Int → Int} {p : Int} {y : Nat} (h : Per T p y) : (y < 4 → ∃ j, y = 1 + j ∧ ((orb T p 4).drop 1)[j]? = some p ∧ ∀ (m : Nat) z, m < j → ((orb T p 4).drop 1)[m]? = some z → z ≠ p) ∧ (¬ y < 4 → ∀ z ∈ (orb T p 4).drop 1, z ≠ p) := by
  have y0 := h.pos
  have gt : ∀ m z, ((orb T p 4).drop 1)[m]? = some z → m < 3 ∧ z = it T (1 + m) p := fun m z hz => by
    rw [List.getElem?_drop] at hz
    have hl : 1 + m < 4 := by
      have := (List.getElem?_eq_some_iff.mp hz).1
      rw [orb_len] at this; exact this
    rw [orb_get hl] at hz
    exact ⟨by omega, (Option.some.inj hz).symm⟩
  refine ⟨fun y4 => ⟨y - 1, by omega, ?_, fun m z hm hz e => ?_⟩, fun y4 z hz e => ?_⟩
  · rw [List.getElem?_drop, show 1 + (y - 1) = y by omega, orb_get y4, h.back]
  · obtain ⟨_, hz⟩ := gt m z hz
    exact h.min (1 + m) (by omega) (by omega) (hz.symm.trans e)
  · obtain ⟨m, hm⟩ := List.getElem?_of_mem hz
    obtain ⟨m3, hm⟩ := gt m z hm
    exact h.min (1 + m) (by omega) (by omega) (hm.symm.trans e)
end Rz
end
section
set_option Elab.async false
set_option linter.all false
set_option maxRecDepth 100000
namespace Bt
open PySem PySem.Spec PyProof.Rows L2
/-! ### the text by places -/
def top (i : Nat) : Stmt := PySem.Challenge.pw_blockturns_k64_whole_walks.main.body.getD i (.Pass ⟨0, 0, 0, 0⟩)
abbrev s_is_integer : Stmt := top 16
abbrev s_lengths_error : Stmt := top 17
abbrev s_order_error : Stmt := top 18
abbrev s_exchange_error : Stmt := top 19
abbrev s_count_places : Stmt := top 20
abbrev s_place_in : Stmt := top 27
abbrev s_is_whole : Stmt := top 34
abbrev s_spot_of : Stmt := top 35
abbrev s_common_multiple : Stmt := top 37
abbrev s_law_jar : Stmt := top 40
abbrev s_law_sip : Stmt := top 41
abbrev s_law_mixed : Stmt := top 42
abbrev s_law_small : Stmt := top 43
abbrev s_law_moved : Stmt := top 44
abbrev s_law_ring : Stmt := top 45
abbrev s_law_seen : Stmt := top 50
abbrev s_law_begun : Stmt := top 51
abbrev s_law_taken : Stmt := top 52
abbrev s_law_followed : Stmt := top 53
abbrev s_law_small_right : Stmt := top 54
abbrev s_law_far_right : Stmt := top 55
abbrev s_law : Stmt := top 56
abbrev s_Stage_init : Stmt := inClass (top 25) 0
abbrev s_Stage_entered : Stmt := inClass (top 25) 1
abbrev s_Turning_init : Stmt := inClass (top 26) 0
abbrev s_Turning_node : Stmt := inClass (top 26) 1
abbrev s_Turning_two : Stmt := inClass (top 26) 2
abbrev s_Turning_times : Stmt := inClass (top 26) 3
abbrev s_Turning_fronts : Stmt := inClass (top 26) 4
abbrev s_Turning_moved : Stmt := inClass (top 26) 5
abbrev s_Turning_stage : Stmt := inClass (top 26) 6
abbrev s_Turning_shorten : Stmt := inClass (top 26) 7
abbrev s_Turning_upper_wins : Stmt := inClass (top 26) 8
abbrev s_Turning_lower_wins : Stmt := inClass (top 26) 9
abbrev s_Turning_all_bands : Stmt := inClass (top 26) 10
abbrev s_Turning_position : Stmt := inClass (top 26) 11
abbrev s_Turning_front : Stmt := inClass (top 26) 12
abbrev s_Turning_drift : Stmt := inClass (top 26) 13
abbrev s_Walker_init : Stmt := inClass (top 38) 1
abbrev s_Walker_of : Stmt := inClass (top 38) 2
abbrev s_Walker_time : Stmt := inClass (top 38) 4
abbrev s_Walker_many : Stmt := inClass (top 38) 5
abbrev s_Walker_exchange : Stmt := inClass (top 38) 6
abbrev s_Walker_require_idle : Stmt := inClass (top 38) 7
abbrev s_Walker_require_place : Stmt := inClass (top 38) 8
abbrev s_Walker_gained : Stmt := inClass (top 38) 9
abbrev s_Walker_scene_after : Stmt := inClass (top 38) 11
abbrev s_Walker_perform : Stmt := inClass (top 38) 12
abbrev s_Walker_go : Stmt := inClass (top 38) 15
abbrev s_Walker_marks : Stmt := inClass (top 38) 21
abbrev s_Walker_place_of : Stmt := inClass (top 38) 22
abbrev s_Walker_edits : Stmt := inClass (top 38) 23
abbrev s_Walker_length_in : Stmt := inClass (top 38) 25
abbrev s_Walker_back_in : Stmt := inClass (top 38) 26
abbrev s_Walker_walk : Stmt := inClass (top 38) 27
abbrev s_Walker_fresh : Stmt := inClass (top 38) 28
abbrev s_Walker_copy : Stmt := inClass (top 38) 30
abbrev s_Walker_told : Stmt := inClass (top 38) 31
abbrev s_Walker_len : Stmt := inClass (top 38) 32
abbrev s_Walker_str : Stmt := inClass (top 38) 34

end Bt
end
section
set_option Elab.async false
set_option linter.all false
set_option maxRecDepth 100000
set_option maxHeartbeats 0
namespace Bt
open PySem PySem.Spec PyProof.Rows L2
/-- a property's getter -/
def pgA (K : PySem.W.Frag) (C : Addr) (m : PySem.Str) : Addr := match PySem.W.recIn K (He.ma K C m) "property" with
  | some (.ref f :: _) => f
  | _ => 0
/-! ### facts by names -/
def d_is_integer : He5.DefA := ⟨fun K => He.ga K "is_integer", "is_integer", "is_integer", defArgs s_is_integer, defBody s_is_integer, defScope s_is_integer, [], []⟩
def d_lengths_error : He5.DefA := ⟨fun K => He.ga K "lengths_error", "lengths_error", "lengths_error", defArgs s_lengths_error, defBody s_lengths_error, defScope s_lengths_error, [], []⟩
def d_order_error : He5.DefA := ⟨fun K => He.ga K "order_error", "order_error", "order_error", defArgs s_order_error, defBody s_order_error, defScope s_order_error, [], []⟩
def d_exchange_error : He5.DefA := ⟨fun K => He.ga K "exchange_error", "exchange_error", "exchange_error", defArgs s_exchange_error, defBody s_exchange_error, defScope s_exchange_error, [], []⟩
def d_count_places : He5.DefA := ⟨fun K => He.ga K "count_places", "count_places", "count_places", defArgs s_count_places, defBody s_count_places, defScope s_count_places, [], []⟩
def d_place_in : He5.DefA := ⟨fun K => He.ga K "place_in", "place_in", "place_in", defArgs s_place_in, defBody s_place_in, defScope s_place_in, [], []⟩
def d_is_whole : He5.DefA := ⟨fun K => He.ga K "is_whole", "is_whole", "is_whole", defArgs s_is_whole, defBody s_is_whole, defScope s_is_whole, [], []⟩
def d_spot_of : He5.DefA := ⟨fun K => He.ga K "spot_of", "spot_of", "spot_of", defArgs s_spot_of, defBody s_spot_of, defScope s_spot_of, [], []⟩
def d_common_multiple : He5.DefA := ⟨fun K => He.ga K "common_multiple", "common_multiple", "common_multiple", defArgs s_common_multiple, defBody s_common_multiple, defScope s_common_multiple, [], []⟩
def d_law_jar : He5.DefA := ⟨fun K => He.ga K "_law_jar", "_law_jar", "_law_jar", defArgs s_law_jar, defBody s_law_jar, defScope s_law_jar, [], []⟩
def d_law_sip : He5.DefA := ⟨fun K => He.ga K "_law_sip", "_law_sip", "_law_sip", defArgs s_law_sip, defBody s_law_sip, defScope s_law_sip, [], []⟩
def d_law_mixed : He5.DefA := ⟨fun K => He.ga K "_law_mixed", "_law_mixed", "_law_mixed", defArgs s_law_mixed, defBody s_law_mixed, defScope s_law_mixed, [], []⟩
def d_law_small : He5.DefA := ⟨fun K => He.ga K "_law_small", "_law_small", "_law_small", defArgs s_law_small, defBody s_law_small, defScope s_law_small, [], []⟩
def d_law_moved : He5.DefA := ⟨fun K => He.ga K "_law_moved", "_law_moved", "_law_moved", defArgs s_law_moved, defBody s_law_moved, defScope s_law_moved, [], []⟩
def d_law_ring : He5.DefA := ⟨fun K => He.ga K "_law_ring", "_law_ring", "_law_ring", defArgs s_law_ring, defBody s_law_ring, defScope s_law_ring, [], []⟩
def d_law_seen : He5.DefA := ⟨fun K => He.ga K "_law_seen", "_law_seen", "_law_seen", defArgs s_law_seen, defBody s_law_seen, defScope s_law_seen, [], []⟩
def d_law_begun : He5.DefA := ⟨fun K => He.ga K "_law_begun", "_law_begun", "_law_begun", defArgs s_law_begun, defBody s_law_begun, defScope s_law_begun, [], []⟩
def d_law_taken : He5.DefA := ⟨fun K => He.ga K "_law_taken", "_law_taken", "_law_taken", defArgs s_law_taken, defBody s_law_taken, defScope s_law_taken, [], []⟩
def d_law_followed : He5.DefA := ⟨fun K => He.ga K "_law_followed", "_law_followed", "_law_followed", defArgs s_law_followed, defBody s_law_followed, defScope s_law_followed, [], []⟩
def d_law_small_right : He5.DefA := ⟨fun K => He.ga K "_law_small_right", "_law_small_right", "_law_small_right", defArgs s_law_small_right, defBody s_law_small_right, defScope s_law_small_right, [], []⟩
def d_law_far_right : He5.DefA := ⟨fun K => He.ga K "_law_far_right", "_law_far_right", "_law_far_right", defArgs s_law_far_right, defBody s_law_far_right, defScope s_law_far_right, [], []⟩
def d_law : He5.DefA := ⟨fun K => He.ga K "law", "law", "law", defArgs s_law, defBody s_law, defScope s_law, [], []⟩
def d_Stage_init : He5.DefA := ⟨fun K => He.ma K (He.ga K "Stage") "__init__", "__init__", "Stage.__init__", defArgs s_Stage_init, defBody s_Stage_init, defScope s_Stage_init, [], []⟩
def d_Stage_entered : He5.DefA := ⟨fun K => He.ma K (He.ga K "Stage") "entered", "entered", "Stage.entered", defArgs s_Stage_entered, defBody s_Stage_entered, defScope s_Stage_entered, [], []⟩
def d_Turning_init : He5.DefA := ⟨fun K => He.ma K (He.ga K "Turning") "__init__", "__init__", "Turning.__init__", defArgs s_Turning_init, defBody s_Turning_init, defScope s_Turning_init, [], []⟩
def d_Turning_node : He5.DefA := ⟨fun K => He.ma K (He.ga K "Turning") "node", "node", "Turning.node", defArgs s_Turning_node, defBody s_Turning_node, defScope s_Turning_node, [], []⟩
def d_Turning_two : He5.DefA := ⟨fun K => He.ma K (He.ga K "Turning") "two", "two", "Turning.two", defArgs s_Turning_two, defBody s_Turning_two, defScope s_Turning_two, [], []⟩
def d_Turning_times : He5.DefA := ⟨fun K => He.ma K (He.ga K "Turning") "times", "times", "Turning.times", defArgs s_Turning_times, defBody s_Turning_times, defScope s_Turning_times, [], []⟩
def d_Turning_fronts : He5.DefA := ⟨fun K => He.ma K (He.ga K "Turning") "fronts", "fronts", "Turning.fronts", defArgs s_Turning_fronts, defBody s_Turning_fronts, defScope s_Turning_fronts, [], []⟩
def d_Turning_moved : He5.DefA := ⟨fun K => He.ma K (He.ga K "Turning") "moved", "moved", "Turning.moved", defArgs s_Turning_moved, defBody s_Turning_moved, defScope s_Turning_moved, [], []⟩
def d_Turning_stage : He5.DefA := ⟨fun K => He.ma K (He.ga K "Turning") "stage", "stage", "Turning.stage", defArgs s_Turning_stage, defBody s_Turning_stage, defScope s_Turning_stage, [], []⟩
def d_Turning_shorten : He5.DefA := ⟨fun K => He.ma K (He.ga K "Turning") "shorten", "shorten", "Turning.shorten", defArgs s_Turning_shorten, defBody s_Turning_shorten, defScope s_Turning_shorten, [], []⟩
def d_Turning_upper_wins : He5.DefA := ⟨fun K => He.ma K (He.ga K "Turning") "upper_wins", "upper_wins", "Turning.upper_wins", defArgs s_Turning_upper_wins, defBody s_Turning_upper_wins, defScope s_Turning_upper_wins, [], []⟩
def d_Turning_lower_wins : He5.DefA := ⟨fun K => He.ma K (He.ga K "Turning") "lower_wins", "lower_wins", "Turning.lower_wins", defArgs s_Turning_lower_wins, defBody s_Turning_lower_wins, defScope s_Turning_lower_wins, [], []⟩
def d_Turning_all_bands : He5.DefA := ⟨fun K => He.ma K (He.ga K "Turning") "all_bands", "all_bands", "Turning.all_bands", defArgs s_Turning_all_bands, defBody s_Turning_all_bands, defScope s_Turning_all_bands, [], []⟩
def d_Turning_position : He5.DefA := ⟨fun K => He.ma K (He.ga K "Turning") "position", "position", "Turning.position", defArgs s_Turning_position, defBody s_Turning_position, defScope s_Turning_position, [], []⟩
def d_Turning_front : He5.DefA := ⟨fun K => He.ma K (He.ga K "Turning") "front", "front", "Turning.front", defArgs s_Turning_front, defBody s_Turning_front, defScope s_Turning_front, [], []⟩
def d_Turning_drift : He5.DefA := ⟨fun K => He.ma K (He.ga K "Turning") "drift", "drift", "Turning.drift", defArgs s_Turning_drift, defBody s_Turning_drift, defScope s_Turning_drift, [], []⟩
def d_Walker_init : He5.DefA := ⟨fun K => He.ma K (He.ga K "Walker") "__init__", "__init__", "Walker.__init__", defArgs s_Walker_init, defBody s_Walker_init, defScope s_Walker_init, [], []⟩
def d_Walker_of : He5.DefA := ⟨fun K => He5.wf K (He.ga K "Walker") "classmethod" "of", "of", "Walker.of", defArgs s_Walker_of, defBody s_Walker_of, defScope s_Walker_of, [], []⟩
def d_Walker_time : He5.DefA := ⟨fun K => pgA K (He.ga K "Walker") "time", "time", "Walker.time", defArgs s_Walker_time, defBody s_Walker_time, defScope s_Walker_time, [], []⟩
def d_Walker_many : He5.DefA := ⟨fun K => pgA K (He.ga K "Walker") "many", "many", "Walker.many", defArgs s_Walker_many, defBody s_Walker_many, defScope s_Walker_many, [], []⟩
def d_Walker_exchange : He5.DefA := ⟨fun K => pgA K (He.ga K "Walker") "exchange", "exchange", "Walker.exchange", defArgs s_Walker_exchange, defBody s_Walker_exchange, defScope s_Walker_exchange, [], []⟩
def d_Walker_require_idle : He5.DefA := ⟨fun K => He.ma K (He.ga K "Walker") "require_idle", "require_idle", "Walker.require_idle", defArgs s_Walker_require_idle, defBody s_Walker_require_idle, defScope s_Walker_require_idle, [], []⟩
def d_Walker_require_place : He5.DefA := ⟨fun K => He.ma K (He.ga K "Walker") "require_place", "require_place", "Walker.require_place", defArgs s_Walker_require_place, defBody s_Walker_require_place, defScope s_Walker_require_place, [], []⟩
def d_Walker_gained : He5.DefA := ⟨fun K => He.ma K (He.ga K "Walker") "gained", "gained", "Walker.gained", defArgs s_Walker_gained, defBody s_Walker_gained, defScope s_Walker_gained, [], []⟩
def d_Walker_scene_after : He5.DefA := ⟨fun K => He.ma K (He.ga K "Walker") "scene_after", "scene_after", "Walker.scene_after", defArgs s_Walker_scene_after, defBody s_Walker_scene_after, defScope s_Walker_scene_after, [], []⟩
def d_Walker_perform : He5.DefA := ⟨fun K => He.ma K (He.ga K "Walker") "perform", "perform", "Walker.perform", defArgs s_Walker_perform, defBody s_Walker_perform, defScope s_Walker_perform, [], []⟩
def d_Walker_go : He5.DefA := ⟨fun K => He.ma K (He.ga K "Walker") "go", "go", "Walker.go", defArgs s_Walker_go, defBody s_Walker_go, defScope s_Walker_go, [], []⟩
def d_Walker_marks : He5.DefA := ⟨fun K => He.ma K (He.ga K "Walker") "marks", "marks", "Walker.marks", defArgs s_Walker_marks, defBody s_Walker_marks, defScope s_Walker_marks, [], [("version", .non)]⟩
def d_Walker_place_of : He5.DefA := ⟨fun K => He.ma K (He.ga K "Walker") "place_of", "place_of", "Walker.place_of", defArgs s_Walker_place_of, defBody s_Walker_place_of, defScope s_Walker_place_of, [], [("version", .non)]⟩
def d_Walker_edits : He5.DefA := ⟨fun K => He.ma K (He.ga K "Walker") "edits", "edits", "Walker.edits", defArgs s_Walker_edits, defBody s_Walker_edits, defScope s_Walker_edits, [], []⟩
def d_Walker_length_in : He5.DefA := ⟨fun K => He.ma K (He.ga K "Walker") "length_in", "length_in", "Walker.length_in", defArgs s_Walker_length_in, defBody s_Walker_length_in, defScope s_Walker_length_in, [], []⟩
def d_Walker_back_in : He5.DefA := ⟨fun K => He.ma K (He.ga K "Walker") "back_in", "back_in", "Walker.back_in", defArgs s_Walker_back_in, defBody s_Walker_back_in, defScope s_Walker_back_in, [], []⟩
def d_Walker_walk : He5.DefA := ⟨fun K => He.ma K (He.ga K "Walker") "walk", "walk", "Walker.walk", defArgs s_Walker_walk, defBody s_Walker_walk, defScope s_Walker_walk, [], [("stride", .int 1)]⟩
def d_Walker_fresh : He5.DefA := ⟨fun K => He.ma K (He.ga K "Walker") "fresh", "fresh", "Walker.fresh", defArgs s_Walker_fresh, defBody s_Walker_fresh, defScope s_Walker_fresh, [], []⟩
def d_Walker_copy : He5.DefA := ⟨fun K => He.ma K (He.ga K "Walker") "copy", "copy", "Walker.copy", defArgs s_Walker_copy, defBody s_Walker_copy, defScope s_Walker_copy, [], []⟩
def d_Walker_told : He5.DefA := ⟨fun K => He.ma K (He.ga K "Walker") "told", "told", "Walker.told", defArgs s_Walker_told, defBody s_Walker_told, defScope s_Walker_told, [], []⟩
def d_Walker_len : He5.DefA := ⟨fun K => He.ma K (He.ga K "Walker") "__len__", "__len__", "Walker.__len__", defArgs s_Walker_len, defBody s_Walker_len, defScope s_Walker_len, [], []⟩
def d_Walker_str : He5.DefA := ⟨fun K => He.ma K (He.ga K "Walker") "__str__", "__str__", "Walker.__str__", defArgs s_Walker_str, defBody s_Walker_str, defScope s_Walker_str, [], []⟩
def fn0 : List He5.DefA := [d_is_integer, d_lengths_error, d_order_error, d_exchange_error, d_count_places, d_place_in, d_is_whole, d_spot_of, d_common_multiple, d_law_jar, d_law_sip, d_law_mixed, d_law_small, d_law_moved, d_law_ring, d_law_seen, d_law_begun, d_law_taken, d_law_followed, d_law_small_right, d_law_far_right, d_law, d_Stage_init, d_Stage_entered, d_Turning_init, d_Turning_node, d_Turning_two, d_Turning_times, d_Turning_fronts, d_Turning_moved]
def fn1 : List He5.DefA := [d_Turning_stage, d_Turning_shorten, d_Turning_upper_wins, d_Turning_lower_wins, d_Turning_all_bands, d_Turning_position, d_Turning_front, d_Turning_drift, d_Walker_init, d_Walker_of, d_Walker_time, d_Walker_many, d_Walker_exchange, d_Walker_require_idle, d_Walker_require_place, d_Walker_gained, d_Walker_scene_after, d_Walker_perform, d_Walker_go, d_Walker_marks, d_Walker_place_of, d_Walker_edits, d_Walker_length_in, d_Walker_back_in, d_Walker_walk, d_Walker_fresh, d_Walker_copy, d_Walker_told, d_Walker_len, d_Walker_str]
def fn : List He5.DefA := fn0 ++ fn1
def fa0 : List He.Fa := [.glo "is_integer", .glo "lengths_error", .glo "order_error", .glo "exchange_error", .glo "count_places", .glo "place_in", .glo "is_whole", .glo "spot_of", .glo "common_multiple", .glo "_law_jar", .glo "_law_sip", .glo "_law_mixed", .glo "_law_small", .glo "_law_moved", .glo "_law_ring", .glo "_law_seen", .glo "_law_begun", .glo "_law_taken", .glo "_law_followed", .glo "_law_small_right", .glo "_law_far_right", .glo "law", .glo "Stage", .cls "Stage", .mkr "Stage", .meth "Stage" "entered", .noat "Stage" "end", .noat "Stage" "stop", .noat "Stage" "total", .noat "Stage" "size"]
def fa1 : List He.Fa := [.noat "Stage" "pieces", .glo "Turning", .cls "Turning", .mkr "Turning", .meth "Turning" "node", .meth "Turning" "two", .meth "Turning" "times", .meth "Turning" "fronts", .meth "Turning" "moved", .meth "Turning" "stage", .meth "Turning" "shorten", .meth "Turning" "upper_wins", .meth "Turning" "lower_wins", .meth "Turning" "all_bands", .meth "Turning" "position", .meth "Turning" "front", .meth "Turning" "drift", .noat "Turning" "nodes", .noat "Turning" "sizes", .noat "Turning" "drifts", .noat "Turning" "records", .noat "Turning" "found", .noat "Turning" "left", .noat "Turning" "upper", .noat "Turning" "lower", .noat "Turning" "end", .noat "Turning" "tales", .glo "Walker", .cls "Walker", .mkr "Walker"]
def fa2 : List He.Fa := [.meth "Walker" "require_idle", .meth "Walker" "require_place", .meth "Walker" "gained", .meth "Walker" "scene_after", .meth "Walker" "perform", .meth "Walker" "go", .meth "Walker" "marks", .meth "Walker" "place_of", .meth "Walker" "edits", .meth "Walker" "length_in", .meth "Walker" "back_in", .meth "Walker" "walk", .meth "Walker" "fresh", .meth "Walker" "copy", .meth "Walker" "told", .meth "Walker" "__len__", .meth "Walker" "__str__", .noat "Walker" "own", .noat "Walker" "turning", .noat "Walker" "scenes", .noat "Walker" "kept", .noat "Walker" "is_busy", .int "MAX_BLOCKS" 6, .int "MAX_PLACES" 1000000000000, .int "MAX_STEPS" 1000000000000000000, .int "MAX_MARKS" 20, .int "BLOCK" 0, .int "TWO" 1, .int "TIMES" 2, .str "PUT" "put"]
def fa3 : List He.Fa := [.str "TAKE" "take", .str "GO" "go", .str "LETTERS" "abcdefghijklmnopqrstuvwxyz", .free "len", .free "isinstance", .free "enumerate", .free "sum", .free "all", .free "range", .free "list", .free "tuple", .free "zip", .free "max", .free "min", .free "abs", .free "repr", .free "str", .free "int", .free "bool"]
def fa : List He.Fa := fa0 ++ fa1 ++ fa2 ++ fa3
def loose0 : List PySem.Str := ["_wall", "MAX_BLOCKS", "MAX_PLACES", "MAX_STEPS", "MAX_MARKS", "TurnError", "NoPlace", "BadExchange", "BadSteps", "TooLarge", "TooManyEdits", "NoVersion", "Busy", "NoMark", "is_integer", "lengths_error", "order_error", "exchange_error", "count_places", "BLOCK", "TWO", "TIMES", "Stage", "Turning", "place_in", "LETTERS", "LONGEST", "PUT", "TAKE", "GO"]
def loose1 : List PySem.Str := ["is_whole", "spot_of", "without", "common_multiple", "Walker", "_law_jar", "_law_sip", "_law_mixed", "_law_small", "_law_moved", "_law_ring", "_law_steps", "_law_name", "_law_whole", "_law_is_mark", "_law_seen", "_law_begun", "_law_taken", "_law_followed", "_law_small_right", "_law_far_right"]
def loose : List PySem.Str := loose0 ++ loose1
def lawIx : Nat := 56

def propB (K : PySem.W.Frag) (C : Addr) (m : PySem.Str) : Bool := He.eqO (PySem.W.findIn K (.ref C) m) (some (some (.ref (He.ma K C m)))) && (He.eqO (PySem.W.specialIn K (.ref (He.ma K C m)) "__get__") (some (some (.builtin "property.__get__"))) && (decide (PySem.W.takesIn K (.ref (He.ma K C m)) = some true) && (match PySem.W.recIn K (He.ma K C m) "property" with
  | some (.ref _ :: _) => true
  | _ => false)))
/-- a class has a number as a constant -/
def conB (K : PySem.W.Frag) (C : Addr) (m : PySem.Str) (i : Int) : Bool := match PySem.W.findIn K (.ref C) m with
  | some (some (.int j t)) => decide (j = i) && He.eqO (PySem.W.specialIn K (.int j t) "__get__") (some none)
  | _ => false
def creadB (K : PySem.W.Frag) (C : Addr) : Bool := PySem.W.readsIn K C (.type "type") && He.eqO (PySem.W.specialIn K (.ref C) "__getattribute__") (some (some (.builtin "type.__getattribute__")))
def exB (K : PySem.W.Frag) : Bool := propB K (He.ga K "Walker") "time" && (propB K (He.ga K "Walker") "many" && (propB K (He.ga K "Walker") "exchange" && (He5.wrapB K (He.ga K "Walker") "classmethod" "classmethod.__get__" "of" && (conB K (He.ga K "Walker") "LIMIT" 60 && (creadB K (He.ga K "Walker") && PySem.W.fnIn K (He5.wf K (He.ga K "Walker") "classmethod" "of"))))))
/-! ### the Hook: a part of the heap, laid out address by address -/
def mkK {α : Type} (g : Addr → Option Obj) : List Addr → PySem.W.Frag → (PySem.W.Frag → α) → α
  | [], acc, k => k acc
  | a :: r, acc, k => match g a with
    | some o => mkK g r ((a, o) :: acc) k
    | none => mkK g r acc k
def theK (g : Addr → Option Obj) : List Addr → PySem.W.Frag → PySem.W.Frag
  | [], acc => acc
  | a :: r, acc => match g a with
    | some o => theK g r ((a, o) :: acc)
    | none => theK g r acc
theorem mkK_eq {α : Type} (g : Addr → Option Obj) : ∀ (as : List Addr) (acc : PySem.W.Frag) (k : PySem.W.Frag → α), mkK g as acc k = k (theK g as acc)
  | [], _, _ => rfl
  | a :: r, acc, k => by
    unfold mkK theK
    cases g a with
    | some o => exact mkK_eq g r _ k
    | none => exact mkK_eq g r _ k
theorem theK_mem (g : Addr → Option Obj) : ∀ (as : List Addr) (acc : PySem.W.Frag), (∀ p ∈ acc, g p.1 = some p.2) → ∀ p ∈ theK g as acc, g p.1 = some p.2
  | [], _, h => h
  | a :: r, acc, h => by
    unfold theK
    cases e : g a with
    | some o =>
      refine theK_mem g r _ fun p hp => ?_
      rcases List.mem_cons.mp hp with z | z
      · rw [z]; exact e
      · exact h p z
    | none => exact theK_mem g r _ h
theorem lk_mem {a : Addr} {o : Obj} : ∀ {l : List (Addr × Obj)}, l.lookup a = some o → (a, o) ∈ l
  | [], h => by cases h
  | (b, u) :: r, h => by
    rw [List.lookup_cons] at h
    cases q : (a == b) with
    | true =>
      rw [q] at h
      have e : u = o := Option.some.inj h
      rw [beq_iff_eq.mp q, e]
      exact List.mem_cons_self
    | false =>
      rw [q] at h
      exact List.mem_cons_of_mem _ (lk_mem h)
theorem theK_in {h : Heap} (as : List Addr) : (theK h.get? as []).In h := fun a o e => theK_mem h.get? as [] (fun _ z => nomatch z) (a, o) (lk_mem e)
abbrev AlZ : Type := He.AlD × Bool
def obsZ (fa : List He.Fa) (fn : List He5.DefA) (ex : PySem.W.Frag → Bool) (K : PySem.W.Frag) : AlZ := (He5.obsA fa fn K, ex K)
def valZ (fn : List He5.DefA) : AlZ := (He5.valA fn, true)
def obsZG (as : List Addr) (fa : List He.Fa) (fn : List He5.DefA) (ex : PySem.W.Frag → Bool) (g : Addr → Option Obj) : AlZ := mkK g as [] fun K => obsZ fa fn ex K
def hookZ (as : List Addr) (fa : List He.Fa) (fn : List He5.DefA) (ex : PySem.W.Frag → Bool) : PySem.W.Hook where
  α := AlZ
  obs := fun s => obsZG as fa fn ex s.heap.get?
  val := fun _ => valZ fn
  says := fun _ h => ∃ K : PySem.W.Frag, K.In h ∧ obsZ fa fn ex K = valZ fn
  of := fun _ s e => ⟨theK s.heap.get? as [], theK_in as, (mkK_eq s.heap.get? as [] _).symm.trans e⟩
  keeps := fun _ _ _ ⟨K, hK, c⟩ k => ⟨K, PySem.W.Frag.In.keeps hK k, c⟩
theorem obsZG_eq {as : List Addr} {fa : List He.Fa} {fn : List He5.DefA} {ex : PySem.W.Frag → Bool} {g : Addr → Option Obj} {s : Shared} (h : ∀ a, g a = s.heap.get? a) : obsZG as fa fn ex g = (hookZ as fa fn ex).obs s := by
  have e : g = s.heap.get? := funext h
  rw [e] <;> rfl
abbrev R : PySem.W.OpenRow := PySem.W.OpenLaw.row PySem.Challenge.rw_blockturns_k64_whole_walks
def as0 : List Addr := [2, 3, 179, 186, 193, 198, 205, 227, 341, 352, 359, 366, 378, 633, 642, 649, 656, 663, 670, 677, 706, 711, 718, 725, 732, 737, 744, 178, 185, 192, 197, 204, 226, 340, 351, 358]
def as1 : List Addr := [365, 377, 632, 641, 648, 655, 662, 669, 676, 705, 710, 717, 724, 731, 736, 743, 219, 224, 243, 250, 257, 264, 271, 276, 281, 288, 293, 298, 305, 312, 319, 326, 392, 401, 418]
def as2 : List Addr := [426, 434, 441, 448, 455, 467, 474, 495, 539, 547, 554, 568, 573, 581, 588, 602, 609, 616, 630, 218, 223, 242, 249, 256, 263, 270, 275, 280, 287, 292, 297, 304, 311, 318, 325]
def as3 : List Addr := [391, 399, 417, 425, 433, 440, 447, 454, 466, 473, 494, 538, 532, 546, 540, 553, 567, 572, 580, 574, 587, 601, 608, 615, 629, 398, 416, 424, 432]
def asAll : List Addr := as0 ++ (as1 ++ (as2 ++ (as3)))
abbrev hk : PySem.W.Hook := hookZ asAll fa fn exB
def ob (s : PySem.W.SharedT) : AlZ := obsZG asAll fa fn exB (HandSHeadRun.getT s)
theorem ob_eq (s : PySem.W.SharedT) : ob s = hk.obs s.abs := obsZG_eq (HandSHeadRun.getT_eq s)
theorem run (w : World) : HandSHeadRun.RunEq R (PySem.W.view R.prog [lawIx]) hk ob 6000 loose w := by
  intro os
  kernel_rfl
end Bt
end
section
set_option Elab.async false
set_option linter.all false
set_option maxRecDepth 100000
set_option maxHeartbeats 2000000
namespace Bt
open PySem PySem.Spec PyProof.Rows L2

/-! ### what stands behind the top -/
abbrev cS (K : PySem.W.Frag) : Addr := He.ga K "Stage"
abbrev cT (K : PySem.W.Frag) : Addr := He.ga K "Turning"
abbrev cW (K : PySem.W.Frag) : Addr := He.ga K "Walker"
structure Tx (K : PySem.W.Frag) (mg : PySem.Str → Option Value) : Prop where
  c : obsZ fa fn exB K = valZ fn
  g : ∃ h : Heap, K.In h ∧ h.Ns mainGlobals mg
section
variable {K : PySem.W.Frag} {mg : PySem.Str → Option Value}
theorem Tx.says (T : Tx K mg) : He5.SaysA fa fn K := congrArg (fun z : AlZ => z.1) T.c
theorem Tx.exb (T : Tx K mg) : exB K = true := congrArg (fun z : AlZ => z.2) T.c
theorem Tx.glo (T : Tx K mg) {x : PySem.Str} (c : (He.Fa.glo x).ok K = true) : mg x = some (.ref (He.ga K x)) := let ⟨_, X, G⟩ := T.g; He.glo_ok X G c
theorem Tx.free (T : Tx K mg) {x : PySem.Str} (c : (He.Fa.free x).ok K = true) : mg x = none := let ⟨_, X, G⟩ := T.g; He.free_ok X G c
theorem Tx.int (T : Tx K mg) {x : PySem.Str} {i : Int} (c : (He.Fa.int x i).ok K = true) : ∃ t, mg x = some (.int i t) := let ⟨_, X, G⟩ := T.g; He.int_ok X G c
theorem Tx.str (T : Tx K mg) {x z : PySem.Str} (c : (He.Fa.str x z).ok K = true) : ∃ t, mg x = some (.str z t) := let ⟨_, X, G⟩ := T.g; He.str_ok X G c
theorem Tx.g_is_integer (T : Tx K mg) : mg "is_integer" = some (.ref (He.ga K "is_integer")) := T.glo (T.says.fact 0)
theorem Tx.g_lengths_error (T : Tx K mg) : mg "lengths_error" = some (.ref (He.ga K "lengths_error")) := T.glo (T.says.fact 1)
theorem Tx.g_order_error (T : Tx K mg) : mg "order_error" = some (.ref (He.ga K "order_error")) := T.glo (T.says.fact 2)
theorem Tx.g_exchange_error (T : Tx K mg) : mg "exchange_error" = some (.ref (He.ga K "exchange_error")) := T.glo (T.says.fact 3)
theorem Tx.g_count_places (T : Tx K mg) : mg "count_places" = some (.ref (He.ga K "count_places")) := T.glo (T.says.fact 4)
theorem Tx.g_place_in (T : Tx K mg) : mg "place_in" = some (.ref (He.ga K "place_in")) := T.glo (T.says.fact 5)
theorem Tx.g_is_whole (T : Tx K mg) : mg "is_whole" = some (.ref (He.ga K "is_whole")) := T.glo (T.says.fact 6)
theorem Tx.g_spot_of (T : Tx K mg) : mg "spot_of" = some (.ref (He.ga K "spot_of")) := T.glo (T.says.fact 7)
theorem Tx.g_common_multiple (T : Tx K mg) : mg "common_multiple" = some (.ref (He.ga K "common_multiple")) := T.glo (T.says.fact 8)
theorem Tx.g_law_jar (T : Tx K mg) : mg "_law_jar" = some (.ref (He.ga K "_law_jar")) := T.glo (T.says.fact 9)
theorem Tx.g_law_sip (T : Tx K mg) : mg "_law_sip" = some (.ref (He.ga K "_law_sip")) := T.glo (T.says.fact 10)
theorem Tx.g_law_mixed (T : Tx K mg) : mg "_law_mixed" = some (.ref (He.ga K "_law_mixed")) := T.glo (T.says.fact 11)
theorem Tx.g_law_small (T : Tx K mg) : mg "_law_small" = some (.ref (He.ga K "_law_small")) := T.glo (T.says.fact 12)
theorem Tx.g_law_moved (T : Tx K mg) : mg "_law_moved" = some (.ref (He.ga K "_law_moved")) := T.glo (T.says.fact 13)
theorem Tx.g_law_ring (T : Tx K mg) : mg "_law_ring" = some (.ref (He.ga K "_law_ring")) := T.glo (T.says.fact 14)
theorem Tx.g_law_seen (T : Tx K mg) : mg "_law_seen" = some (.ref (He.ga K "_law_seen")) := T.glo (T.says.fact 15)
theorem Tx.g_law_begun (T : Tx K mg) : mg "_law_begun" = some (.ref (He.ga K "_law_begun")) := T.glo (T.says.fact 16)
theorem Tx.g_law_taken (T : Tx K mg) : mg "_law_taken" = some (.ref (He.ga K "_law_taken")) := T.glo (T.says.fact 17)
theorem Tx.g_law_followed (T : Tx K mg) : mg "_law_followed" = some (.ref (He.ga K "_law_followed")) := T.glo (T.says.fact 18)
theorem Tx.g_law_small_right (T : Tx K mg) : mg "_law_small_right" = some (.ref (He.ga K "_law_small_right")) := T.glo (T.says.fact 19)
theorem Tx.g_law_far_right (T : Tx K mg) : mg "_law_far_right" = some (.ref (He.ga K "_law_far_right")) := T.glo (T.says.fact 20)
theorem Tx.g_law (T : Tx K mg) : mg "law" = some (.ref (He.ga K "law")) := T.glo (T.says.fact 21)
theorem Tx.g_Stage (T : Tx K mg) : mg "Stage" = some (.ref (He.ga K "Stage")) := T.glo (T.says.fact 22)
theorem Tx.c_Stage (T : Tx K mg) : Cls K (cS K) := He.cls_ok (T.says.fact 23)
theorem Tx.k_Stage (T : Tx K mg) : Mk K (cS K) (He.ma K (cS K) "__init__") := He.mkr_ok (T.says.fact 24)
theorem Tx.m_Stage_entered (T : Tx K mg) : Meth K (cS K) "entered" (He.ma K (cS K) "entered") := He.meth_ok (T.says.fact 25)
theorem Tx.a_Stage_end (T : Tx K mg) : NoAttr K (cS K) "end" := He.noat_ok (T.says.fact 26)
theorem Tx.a_Stage_stop (T : Tx K mg) : NoAttr K (cS K) "stop" := He.noat_ok (T.says.fact 27)
theorem Tx.a_Stage_total (T : Tx K mg) : NoAttr K (cS K) "total" := He.noat_ok (T.says.fact 28)
theorem Tx.a_Stage_size (T : Tx K mg) : NoAttr K (cS K) "size" := He.noat_ok (T.says.fact 29)
theorem Tx.a_Stage_pieces (T : Tx K mg) : NoAttr K (cS K) "pieces" := He.noat_ok (T.says.fact 30)
theorem Tx.g_Turning (T : Tx K mg) : mg "Turning" = some (.ref (He.ga K "Turning")) := T.glo (T.says.fact 31)
theorem Tx.c_Turning (T : Tx K mg) : Cls K (cT K) := He.cls_ok (T.says.fact 32)
theorem Tx.k_Turning (T : Tx K mg) : Mk K (cT K) (He.ma K (cT K) "__init__") := He.mkr_ok (T.says.fact 33)
theorem Tx.m_Turning_node (T : Tx K mg) : Meth K (cT K) "node" (He.ma K (cT K) "node") := He.meth_ok (T.says.fact 34)
theorem Tx.m_Turning_two (T : Tx K mg) : Meth K (cT K) "two" (He.ma K (cT K) "two") := He.meth_ok (T.says.fact 35)
theorem Tx.m_Turning_times (T : Tx K mg) : Meth K (cT K) "times" (He.ma K (cT K) "times") := He.meth_ok (T.says.fact 36)
theorem Tx.m_Turning_fronts (T : Tx K mg) : Meth K (cT K) "fronts" (He.ma K (cT K) "fronts") := He.meth_ok (T.says.fact 37)
theorem Tx.m_Turning_moved (T : Tx K mg) : Meth K (cT K) "moved" (He.ma K (cT K) "moved") := He.meth_ok (T.says.fact 38)
theorem Tx.m_Turning_stage (T : Tx K mg) : Meth K (cT K) "stage" (He.ma K (cT K) "stage") := He.meth_ok (T.says.fact 39)
theorem Tx.m_Turning_shorten (T : Tx K mg) : Meth K (cT K) "shorten" (He.ma K (cT K) "shorten") := He.meth_ok (T.says.fact 40)
theorem Tx.m_Turning_upper_wins (T : Tx K mg) : Meth K (cT K) "upper_wins" (He.ma K (cT K) "upper_wins") := He.meth_ok (T.says.fact 41)
theorem Tx.m_Turning_lower_wins (T : Tx K mg) : Meth K (cT K) "lower_wins" (He.ma K (cT K) "lower_wins") := He.meth_ok (T.says.fact 42)
theorem Tx.m_Turning_all_bands (T : Tx K mg) : Meth K (cT K) "all_bands" (He.ma K (cT K) "all_bands") := He.meth_ok (T.says.fact 43)
theorem Tx.m_Turning_position (T : Tx K mg) : Meth K (cT K) "position" (He.ma K (cT K) "position") := He.meth_ok (T.says.fact 44)
theorem Tx.m_Turning_front (T : Tx K mg) : Meth K (cT K) "front" (He.ma K (cT K) "front") := He.meth_ok (T.says.fact 45)
theorem Tx.m_Turning_drift (T : Tx K mg) : Meth K (cT K) "drift" (He.ma K (cT K) "drift") := He.meth_ok (T.says.fact 46)
theorem Tx.a_Turning_nodes (T : Tx K mg) : NoAttr K (cT K) "nodes" := He.noat_ok (T.says.fact 47)
theorem Tx.a_Turning_sizes (T : Tx K mg) : NoAttr K (cT K) "sizes" := He.noat_ok (T.says.fact 48)
theorem Tx.a_Turning_drifts (T : Tx K mg) : NoAttr K (cT K) "drifts" := He.noat_ok (T.says.fact 49)
theorem Tx.a_Turning_records (T : Tx K mg) : NoAttr K (cT K) "records" := He.noat_ok (T.says.fact 50)
theorem Tx.a_Turning_found (T : Tx K mg) : NoAttr K (cT K) "found" := He.noat_ok (T.says.fact 51)
theorem Tx.a_Turning_left (T : Tx K mg) : NoAttr K (cT K) "left" := He.noat_ok (T.says.fact 52)
theorem Tx.a_Turning_upper (T : Tx K mg) : NoAttr K (cT K) "upper" := He.noat_ok (T.says.fact 53)
theorem Tx.a_Turning_lower (T : Tx K mg) : NoAttr K (cT K) "lower" := He.noat_ok (T.says.fact 54)
theorem Tx.a_Turning_end (T : Tx K mg) : NoAttr K (cT K) "end" := He.noat_ok (T.says.fact 55)
theorem Tx.a_Turning_tales (T : Tx K mg) : NoAttr K (cT K) "tales" := He.noat_ok (T.says.fact 56)
theorem Tx.g_Walker (T : Tx K mg) : mg "Walker" = some (.ref (He.ga K "Walker")) := T.glo (T.says.fact 57)
theorem Tx.c_Walker (T : Tx K mg) : Cls K (cW K) := He.cls_ok (T.says.fact 58)
theorem Tx.k_Walker (T : Tx K mg) : Mk K (cW K) (He.ma K (cW K) "__init__") := He.mkr_ok (T.says.fact 59)
theorem Tx.m_Walker_require_idle (T : Tx K mg) : Meth K (cW K) "require_idle" (He.ma K (cW K) "require_idle") := He.meth_ok (T.says.fact 60)
theorem Tx.m_Walker_require_place (T : Tx K mg) : Meth K (cW K) "require_place" (He.ma K (cW K) "require_place") := He.meth_ok (T.says.fact 61)
theorem Tx.m_Walker_gained (T : Tx K mg) : Meth K (cW K) "gained" (He.ma K (cW K) "gained") := He.meth_ok (T.says.fact 62)
theorem Tx.m_Walker_scene_after (T : Tx K mg) : Meth K (cW K) "scene_after" (He.ma K (cW K) "scene_after") := He.meth_ok (T.says.fact 63)
theorem Tx.m_Walker_perform (T : Tx K mg) : Meth K (cW K) "perform" (He.ma K (cW K) "perform") := He.meth_ok (T.says.fact 64)
theorem Tx.m_Walker_go (T : Tx K mg) : Meth K (cW K) "go" (He.ma K (cW K) "go") := He.meth_ok (T.says.fact 65)
theorem Tx.m_Walker_marks (T : Tx K mg) : Meth K (cW K) "marks" (He.ma K (cW K) "marks") := He.meth_ok (T.says.fact 66)
theorem Tx.m_Walker_place_of (T : Tx K mg) : Meth K (cW K) "place_of" (He.ma K (cW K) "place_of") := He.meth_ok (T.says.fact 67)
theorem Tx.m_Walker_edits (T : Tx K mg) : Meth K (cW K) "edits" (He.ma K (cW K) "edits") := He.meth_ok (T.says.fact 68)
theorem Tx.m_Walker_length_in (T : Tx K mg) : Meth K (cW K) "length_in" (He.ma K (cW K) "length_in") := He.meth_ok (T.says.fact 69)
theorem Tx.m_Walker_back_in (T : Tx K mg) : Meth K (cW K) "back_in" (He.ma K (cW K) "back_in") := He.meth_ok (T.says.fact 70)
theorem Tx.m_Walker_walk (T : Tx K mg) : Meth K (cW K) "walk" (He.ma K (cW K) "walk") := He.meth_ok (T.says.fact 71)
theorem Tx.m_Walker_fresh (T : Tx K mg) : Meth K (cW K) "fresh" (He.ma K (cW K) "fresh") := He.meth_ok (T.says.fact 72)
theorem Tx.m_Walker_copy (T : Tx K mg) : Meth K (cW K) "copy" (He.ma K (cW K) "copy") := He.meth_ok (T.says.fact 73)
theorem Tx.m_Walker_told (T : Tx K mg) : Meth K (cW K) "told" (He.ma K (cW K) "told") := He.meth_ok (T.says.fact 74)
theorem Tx.m_Walker_len (T : Tx K mg) : Meth K (cW K) "__len__" (He.ma K (cW K) "__len__") := He.meth_ok (T.says.fact 75)
theorem Tx.m_Walker_str (T : Tx K mg) : Meth K (cW K) "__str__" (He.ma K (cW K) "__str__") := He.meth_ok (T.says.fact 76)
theorem Tx.a_Walker_own (T : Tx K mg) : NoAttr K (cW K) "own" := He.noat_ok (T.says.fact 77)
theorem Tx.a_Walker_turning (T : Tx K mg) : NoAttr K (cW K) "turning" := He.noat_ok (T.says.fact 78)
theorem Tx.a_Walker_scenes (T : Tx K mg) : NoAttr K (cW K) "scenes" := He.noat_ok (T.says.fact 79)
theorem Tx.a_Walker_kept (T : Tx K mg) : NoAttr K (cW K) "kept" := He.noat_ok (T.says.fact 80)
theorem Tx.a_Walker_is_busy (T : Tx K mg) : NoAttr K (cW K) "is_busy" := He.noat_ok (T.says.fact 81)
theorem Tx.i_MAX_BLOCKS (T : Tx K mg) : ∃ t, mg "MAX_BLOCKS" = some (.int 6 t) := T.int (T.says.fact 82)
theorem Tx.i_MAX_PLACES (T : Tx K mg) : ∃ t, mg "MAX_PLACES" = some (.int 1000000000000 t) := T.int (T.says.fact 83)
theorem Tx.i_MAX_STEPS (T : Tx K mg) : ∃ t, mg "MAX_STEPS" = some (.int 1000000000000000000 t) := T.int (T.says.fact 84)
theorem Tx.i_MAX_MARKS (T : Tx K mg) : ∃ t, mg "MAX_MARKS" = some (.int 20 t) := T.int (T.says.fact 85)
theorem Tx.i_BLOCK (T : Tx K mg) : ∃ t, mg "BLOCK" = some (.int 0 t) := T.int (T.says.fact 86)
theorem Tx.i_TWO (T : Tx K mg) : ∃ t, mg "TWO" = some (.int 1 t) := T.int (T.says.fact 87)
theorem Tx.i_TIMES (T : Tx K mg) : ∃ t, mg "TIMES" = some (.int 2 t) := T.int (T.says.fact 88)
theorem Tx.s_PUT (T : Tx K mg) : ∃ t, mg "PUT" = some (.str "put" t) := T.str (T.says.fact 89)
theorem Tx.s_TAKE (T : Tx K mg) : ∃ t, mg "TAKE" = some (.str "take" t) := T.str (T.says.fact 90)
theorem Tx.s_GO (T : Tx K mg) : ∃ t, mg "GO" = some (.str "go" t) := T.str (T.says.fact 91)
theorem Tx.s_LETTERS (T : Tx K mg) : ∃ t, mg "LETTERS" = some (.str "abcdefghijklmnopqrstuvwxyz" t) := T.str (T.says.fact 92)
theorem Tx.n_len (T : Tx K mg) : mg "len" = none := T.free (T.says.fact 93)
theorem Tx.n_isinstance (T : Tx K mg) : mg "isinstance" = none := T.free (T.says.fact 94)
theorem Tx.n_enumerate (T : Tx K mg) : mg "enumerate" = none := T.free (T.says.fact 95)
theorem Tx.n_sum (T : Tx K mg) : mg "sum" = none := T.free (T.says.fact 96)
theorem Tx.n_all (T : Tx K mg) : mg "all" = none := T.free (T.says.fact 97)
theorem Tx.n_range (T : Tx K mg) : mg "range" = none := T.free (T.says.fact 98)
theorem Tx.n_list (T : Tx K mg) : mg "list" = none := T.free (T.says.fact 99)
theorem Tx.n_tuple (T : Tx K mg) : mg "tuple" = none := T.free (T.says.fact 100)
theorem Tx.n_zip (T : Tx K mg) : mg "zip" = none := T.free (T.says.fact 101)
theorem Tx.n_max (T : Tx K mg) : mg "max" = none := T.free (T.says.fact 102)
theorem Tx.n_min (T : Tx K mg) : mg "min" = none := T.free (T.says.fact 103)
theorem Tx.n_abs (T : Tx K mg) : mg "abs" = none := T.free (T.says.fact 104)
theorem Tx.n_repr (T : Tx K mg) : mg "repr" = none := T.free (T.says.fact 105)
theorem Tx.n_str (T : Tx K mg) : mg "str" = none := T.free (T.says.fact 106)
theorem Tx.n_int (T : Tx K mg) : mg "int" = none := T.free (T.says.fact 107)
theorem Tx.n_bool (T : Tx K mg) : mg "bool" = none := T.free (T.says.fact 108)
theorem Tx.F_is_integer (T : Tx K mg) : ∃ fd, FunD K d_is_integer.name d_is_integer.qual d_is_integer.params d_is_integer.body d_is_integer.scope (d_is_integer.dvs K) (d_is_integer.kws K) (d_is_integer.at_ K) fd := T.says.def_ 0
theorem Tx.F_lengths_error (T : Tx K mg) : ∃ fd, FunD K d_lengths_error.name d_lengths_error.qual d_lengths_error.params d_lengths_error.body d_lengths_error.scope (d_lengths_error.dvs K) (d_lengths_error.kws K) (d_lengths_error.at_ K) fd := T.says.def_ 1
theorem Tx.F_order_error (T : Tx K mg) : ∃ fd, FunD K d_order_error.name d_order_error.qual d_order_error.params d_order_error.body d_order_error.scope (d_order_error.dvs K) (d_order_error.kws K) (d_order_error.at_ K) fd := T.says.def_ 2
theorem Tx.F_exchange_error (T : Tx K mg) : ∃ fd, FunD K d_exchange_error.name d_exchange_error.qual d_exchange_error.params d_exchange_error.body d_exchange_error.scope (d_exchange_error.dvs K) (d_exchange_error.kws K) (d_exchange_error.at_ K) fd := T.says.def_ 3
theorem Tx.F_count_places (T : Tx K mg) : ∃ fd, FunD K d_count_places.name d_count_places.qual d_count_places.params d_count_places.body d_count_places.scope (d_count_places.dvs K) (d_count_places.kws K) (d_count_places.at_ K) fd := T.says.def_ 4
theorem Tx.F_place_in (T : Tx K mg) : ∃ fd, FunD K d_place_in.name d_place_in.qual d_place_in.params d_place_in.body d_place_in.scope (d_place_in.dvs K) (d_place_in.kws K) (d_place_in.at_ K) fd := T.says.def_ 5
theorem Tx.F_is_whole (T : Tx K mg) : ∃ fd, FunD K d_is_whole.name d_is_whole.qual d_is_whole.params d_is_whole.body d_is_whole.scope (d_is_whole.dvs K) (d_is_whole.kws K) (d_is_whole.at_ K) fd := T.says.def_ 6
theorem Tx.F_spot_of (T : Tx K mg) : ∃ fd, FunD K d_spot_of.name d_spot_of.qual d_spot_of.params d_spot_of.body d_spot_of.scope (d_spot_of.dvs K) (d_spot_of.kws K) (d_spot_of.at_ K) fd := T.says.def_ 7
theorem Tx.F_common_multiple (T : Tx K mg) : ∃ fd, FunD K d_common_multiple.name d_common_multiple.qual d_common_multiple.params d_common_multiple.body d_common_multiple.scope (d_common_multiple.dvs K) (d_common_multiple.kws K) (d_common_multiple.at_ K) fd := T.says.def_ 8
theorem Tx.F_law_jar (T : Tx K mg) : ∃ fd, FunD K d_law_jar.name d_law_jar.qual d_law_jar.params d_law_jar.body d_law_jar.scope (d_law_jar.dvs K) (d_law_jar.kws K) (d_law_jar.at_ K) fd := T.says.def_ 9
theorem Tx.F_law_sip (T : Tx K mg) : ∃ fd, FunD K d_law_sip.name d_law_sip.qual d_law_sip.params d_law_sip.body d_law_sip.scope (d_law_sip.dvs K) (d_law_sip.kws K) (d_law_sip.at_ K) fd := T.says.def_ 10
theorem Tx.F_law_mixed (T : Tx K mg) : ∃ fd, FunD K d_law_mixed.name d_law_mixed.qual d_law_mixed.params d_law_mixed.body d_law_mixed.scope (d_law_mixed.dvs K) (d_law_mixed.kws K) (d_law_mixed.at_ K) fd := T.says.def_ 11
theorem Tx.F_law_small (T : Tx K mg) : ∃ fd, FunD K d_law_small.name d_law_small.qual d_law_small.params d_law_small.body d_law_small.scope (d_law_small.dvs K) (d_law_small.kws K) (d_law_small.at_ K) fd := T.says.def_ 12
theorem Tx.F_law_moved (T : Tx K mg) : ∃ fd, FunD K d_law_moved.name d_law_moved.qual d_law_moved.params d_law_moved.body d_law_moved.scope (d_law_moved.dvs K) (d_law_moved.kws K) (d_law_moved.at_ K) fd := T.says.def_ 13
theorem Tx.F_law_ring (T : Tx K mg) : ∃ fd, FunD K d_law_ring.name d_law_ring.qual d_law_ring.params d_law_ring.body d_law_ring.scope (d_law_ring.dvs K) (d_law_ring.kws K) (d_law_ring.at_ K) fd := T.says.def_ 14
theorem Tx.F_law_seen (T : Tx K mg) : ∃ fd, FunD K d_law_seen.name d_law_seen.qual d_law_seen.params d_law_seen.body d_law_seen.scope (d_law_seen.dvs K) (d_law_seen.kws K) (d_law_seen.at_ K) fd := T.says.def_ 15
theorem Tx.F_law_begun (T : Tx K mg) : ∃ fd, FunD K d_law_begun.name d_law_begun.qual d_law_begun.params d_law_begun.body d_law_begun.scope (d_law_begun.dvs K) (d_law_begun.kws K) (d_law_begun.at_ K) fd := T.says.def_ 16
theorem Tx.F_law_taken (T : Tx K mg) : ∃ fd, FunD K d_law_taken.name d_law_taken.qual d_law_taken.params d_law_taken.body d_law_taken.scope (d_law_taken.dvs K) (d_law_taken.kws K) (d_law_taken.at_ K) fd := T.says.def_ 17
theorem Tx.F_law_followed (T : Tx K mg) : ∃ fd, FunD K d_law_followed.name d_law_followed.qual d_law_followed.params d_law_followed.body d_law_followed.scope (d_law_followed.dvs K) (d_law_followed.kws K) (d_law_followed.at_ K) fd := T.says.def_ 18
theorem Tx.F_law_small_right (T : Tx K mg) : ∃ fd, FunD K d_law_small_right.name d_law_small_right.qual d_law_small_right.params d_law_small_right.body d_law_small_right.scope (d_law_small_right.dvs K) (d_law_small_right.kws K) (d_law_small_right.at_ K) fd := T.says.def_ 19
theorem Tx.F_law_far_right (T : Tx K mg) : ∃ fd, FunD K d_law_far_right.name d_law_far_right.qual d_law_far_right.params d_law_far_right.body d_law_far_right.scope (d_law_far_right.dvs K) (d_law_far_right.kws K) (d_law_far_right.at_ K) fd := T.says.def_ 20
theorem Tx.F_law (T : Tx K mg) : ∃ fd, FunD K d_law.name d_law.qual d_law.params d_law.body d_law.scope (d_law.dvs K) (d_law.kws K) (d_law.at_ K) fd := T.says.def_ 21
theorem Tx.F_Stage_init (T : Tx K mg) : ∃ fd, FunD K d_Stage_init.name d_Stage_init.qual d_Stage_init.params d_Stage_init.body d_Stage_init.scope (d_Stage_init.dvs K) (d_Stage_init.kws K) (d_Stage_init.at_ K) fd := T.says.def_ 22
theorem Tx.F_Stage_entered (T : Tx K mg) : ∃ fd, FunD K d_Stage_entered.name d_Stage_entered.qual d_Stage_entered.params d_Stage_entered.body d_Stage_entered.scope (d_Stage_entered.dvs K) (d_Stage_entered.kws K) (d_Stage_entered.at_ K) fd := T.says.def_ 23
theorem Tx.F_Turning_init (T : Tx K mg) : ∃ fd, FunD K d_Turning_init.name d_Turning_init.qual d_Turning_init.params d_Turning_init.body d_Turning_init.scope (d_Turning_init.dvs K) (d_Turning_init.kws K) (d_Turning_init.at_ K) fd := T.says.def_ 24
theorem Tx.F_Turning_node (T : Tx K mg) : ∃ fd, FunD K d_Turning_node.name d_Turning_node.qual d_Turning_node.params d_Turning_node.body d_Turning_node.scope (d_Turning_node.dvs K) (d_Turning_node.kws K) (d_Turning_node.at_ K) fd := T.says.def_ 25
theorem Tx.F_Turning_two (T : Tx K mg) : ∃ fd, FunD K d_Turning_two.name d_Turning_two.qual d_Turning_two.params d_Turning_two.body d_Turning_two.scope (d_Turning_two.dvs K) (d_Turning_two.kws K) (d_Turning_two.at_ K) fd := T.says.def_ 26
theorem Tx.F_Turning_times (T : Tx K mg) : ∃ fd, FunD K d_Turning_times.name d_Turning_times.qual d_Turning_times.params d_Turning_times.body d_Turning_times.scope (d_Turning_times.dvs K) (d_Turning_times.kws K) (d_Turning_times.at_ K) fd := T.says.def_ 27
theorem Tx.F_Turning_fronts (T : Tx K mg) : ∃ fd, FunD K d_Turning_fronts.name d_Turning_fronts.qual d_Turning_fronts.params d_Turning_fronts.body d_Turning_fronts.scope (d_Turning_fronts.dvs K) (d_Turning_fronts.kws K) (d_Turning_fronts.at_ K) fd := T.says.def_ 28
theorem Tx.F_Turning_moved (T : Tx K mg) : ∃ fd, FunD K d_Turning_moved.name d_Turning_moved.qual d_Turning_moved.params d_Turning_moved.body d_Turning_moved.scope (d_Turning_moved.dvs K) (d_Turning_moved.kws K) (d_Turning_moved.at_ K) fd := T.says.def_ 29
theorem Tx.F_Turning_stage (T : Tx K mg) : ∃ fd, FunD K d_Turning_stage.name d_Turning_stage.qual d_Turning_stage.params d_Turning_stage.body d_Turning_stage.scope (d_Turning_stage.dvs K) (d_Turning_stage.kws K) (d_Turning_stage.at_ K) fd := T.says.def_ 30
theorem Tx.F_Turning_shorten (T : Tx K mg) : ∃ fd, FunD K d_Turning_shorten.name d_Turning_shorten.qual d_Turning_shorten.params d_Turning_shorten.body d_Turning_shorten.scope (d_Turning_shorten.dvs K) (d_Turning_shorten.kws K) (d_Turning_shorten.at_ K) fd := T.says.def_ 31
theorem Tx.F_Turning_upper_wins (T : Tx K mg) : ∃ fd, FunD K d_Turning_upper_wins.name d_Turning_upper_wins.qual d_Turning_upper_wins.params d_Turning_upper_wins.body d_Turning_upper_wins.scope (d_Turning_upper_wins.dvs K) (d_Turning_upper_wins.kws K) (d_Turning_upper_wins.at_ K) fd := T.says.def_ 32
theorem Tx.F_Turning_lower_wins (T : Tx K mg) : ∃ fd, FunD K d_Turning_lower_wins.name d_Turning_lower_wins.qual d_Turning_lower_wins.params d_Turning_lower_wins.body d_Turning_lower_wins.scope (d_Turning_lower_wins.dvs K) (d_Turning_lower_wins.kws K) (d_Turning_lower_wins.at_ K) fd := T.says.def_ 33
theorem Tx.F_Turning_all_bands (T : Tx K mg) : ∃ fd, FunD K d_Turning_all_bands.name d_Turning_all_bands.qual d_Turning_all_bands.params d_Turning_all_bands.body d_Turning_all_bands.scope (d_Turning_all_bands.dvs K) (d_Turning_all_bands.kws K) (d_Turning_all_bands.at_ K) fd := T.says.def_ 34
theorem Tx.F_Turning_position (T : Tx K mg) : ∃ fd, FunD K d_Turning_position.name d_Turning_position.qual d_Turning_position.params d_Turning_position.body d_Turning_position.scope (d_Turning_position.dvs K) (d_Turning_position.kws K) (d_Turning_position.at_ K) fd := T.says.def_ 35
theorem Tx.F_Turning_front (T : Tx K mg) : ∃ fd, FunD K d_Turning_front.name d_Turning_front.qual d_Turning_front.params d_Turning_front.body d_Turning_front.scope (d_Turning_front.dvs K) (d_Turning_front.kws K) (d_Turning_front.at_ K) fd := T.says.def_ 36
theorem Tx.F_Turning_drift (T : Tx K mg) : ∃ fd, FunD K d_Turning_drift.name d_Turning_drift.qual d_Turning_drift.params d_Turning_drift.body d_Turning_drift.scope (d_Turning_drift.dvs K) (d_Turning_drift.kws K) (d_Turning_drift.at_ K) fd := T.says.def_ 37
theorem Tx.F_Walker_init (T : Tx K mg) : ∃ fd, FunD K d_Walker_init.name d_Walker_init.qual d_Walker_init.params d_Walker_init.body d_Walker_init.scope (d_Walker_init.dvs K) (d_Walker_init.kws K) (d_Walker_init.at_ K) fd := T.says.def_ 38
theorem Tx.F_Walker_of (T : Tx K mg) : ∃ fd, FunD K d_Walker_of.name d_Walker_of.qual d_Walker_of.params d_Walker_of.body d_Walker_of.scope (d_Walker_of.dvs K) (d_Walker_of.kws K) (d_Walker_of.at_ K) fd := T.says.def_ 39
theorem Tx.F_Walker_time (T : Tx K mg) : ∃ fd, FunD K d_Walker_time.name d_Walker_time.qual d_Walker_time.params d_Walker_time.body d_Walker_time.scope (d_Walker_time.dvs K) (d_Walker_time.kws K) (d_Walker_time.at_ K) fd := T.says.def_ 40
theorem Tx.F_Walker_many (T : Tx K mg) : ∃ fd, FunD K d_Walker_many.name d_Walker_many.qual d_Walker_many.params d_Walker_many.body d_Walker_many.scope (d_Walker_many.dvs K) (d_Walker_many.kws K) (d_Walker_many.at_ K) fd := T.says.def_ 41
theorem Tx.F_Walker_exchange (T : Tx K mg) : ∃ fd, FunD K d_Walker_exchange.name d_Walker_exchange.qual d_Walker_exchange.params d_Walker_exchange.body d_Walker_exchange.scope (d_Walker_exchange.dvs K) (d_Walker_exchange.kws K) (d_Walker_exchange.at_ K) fd := T.says.def_ 42
theorem Tx.F_Walker_require_idle (T : Tx K mg) : ∃ fd, FunD K d_Walker_require_idle.name d_Walker_require_idle.qual d_Walker_require_idle.params d_Walker_require_idle.body d_Walker_require_idle.scope (d_Walker_require_idle.dvs K) (d_Walker_require_idle.kws K) (d_Walker_require_idle.at_ K) fd := T.says.def_ 43
theorem Tx.F_Walker_require_place (T : Tx K mg) : ∃ fd, FunD K d_Walker_require_place.name d_Walker_require_place.qual d_Walker_require_place.params d_Walker_require_place.body d_Walker_require_place.scope (d_Walker_require_place.dvs K) (d_Walker_require_place.kws K) (d_Walker_require_place.at_ K) fd := T.says.def_ 44
theorem Tx.F_Walker_gained (T : Tx K mg) : ∃ fd, FunD K d_Walker_gained.name d_Walker_gained.qual d_Walker_gained.params d_Walker_gained.body d_Walker_gained.scope (d_Walker_gained.dvs K) (d_Walker_gained.kws K) (d_Walker_gained.at_ K) fd := T.says.def_ 45
theorem Tx.F_Walker_scene_after (T : Tx K mg) : ∃ fd, FunD K d_Walker_scene_after.name d_Walker_scene_after.qual d_Walker_scene_after.params d_Walker_scene_after.body d_Walker_scene_after.scope (d_Walker_scene_after.dvs K) (d_Walker_scene_after.kws K) (d_Walker_scene_after.at_ K) fd := T.says.def_ 46
theorem Tx.F_Walker_perform (T : Tx K mg) : ∃ fd, FunD K d_Walker_perform.name d_Walker_perform.qual d_Walker_perform.params d_Walker_perform.body d_Walker_perform.scope (d_Walker_perform.dvs K) (d_Walker_perform.kws K) (d_Walker_perform.at_ K) fd := T.says.def_ 47
theorem Tx.F_Walker_go (T : Tx K mg) : ∃ fd, FunD K d_Walker_go.name d_Walker_go.qual d_Walker_go.params d_Walker_go.body d_Walker_go.scope (d_Walker_go.dvs K) (d_Walker_go.kws K) (d_Walker_go.at_ K) fd := T.says.def_ 48
theorem Tx.F_Walker_marks (T : Tx K mg) : ∃ fd, FunD K d_Walker_marks.name d_Walker_marks.qual d_Walker_marks.params d_Walker_marks.body d_Walker_marks.scope (d_Walker_marks.dvs K) (d_Walker_marks.kws K) (d_Walker_marks.at_ K) fd := T.says.def_ 49
theorem Tx.F_Walker_place_of (T : Tx K mg) : ∃ fd, FunD K d_Walker_place_of.name d_Walker_place_of.qual d_Walker_place_of.params d_Walker_place_of.body d_Walker_place_of.scope (d_Walker_place_of.dvs K) (d_Walker_place_of.kws K) (d_Walker_place_of.at_ K) fd := T.says.def_ 50
theorem Tx.F_Walker_edits (T : Tx K mg) : ∃ fd, FunD K d_Walker_edits.name d_Walker_edits.qual d_Walker_edits.params d_Walker_edits.body d_Walker_edits.scope (d_Walker_edits.dvs K) (d_Walker_edits.kws K) (d_Walker_edits.at_ K) fd := T.says.def_ 51
theorem Tx.F_Walker_length_in (T : Tx K mg) : ∃ fd, FunD K d_Walker_length_in.name d_Walker_length_in.qual d_Walker_length_in.params d_Walker_length_in.body d_Walker_length_in.scope (d_Walker_length_in.dvs K) (d_Walker_length_in.kws K) (d_Walker_length_in.at_ K) fd := T.says.def_ 52
theorem Tx.F_Walker_back_in (T : Tx K mg) : ∃ fd, FunD K d_Walker_back_in.name d_Walker_back_in.qual d_Walker_back_in.params d_Walker_back_in.body d_Walker_back_in.scope (d_Walker_back_in.dvs K) (d_Walker_back_in.kws K) (d_Walker_back_in.at_ K) fd := T.says.def_ 53
theorem Tx.F_Walker_walk (T : Tx K mg) : ∃ fd, FunD K d_Walker_walk.name d_Walker_walk.qual d_Walker_walk.params d_Walker_walk.body d_Walker_walk.scope (d_Walker_walk.dvs K) (d_Walker_walk.kws K) (d_Walker_walk.at_ K) fd := T.says.def_ 54
theorem Tx.F_Walker_fresh (T : Tx K mg) : ∃ fd, FunD K d_Walker_fresh.name d_Walker_fresh.qual d_Walker_fresh.params d_Walker_fresh.body d_Walker_fresh.scope (d_Walker_fresh.dvs K) (d_Walker_fresh.kws K) (d_Walker_fresh.at_ K) fd := T.says.def_ 55
theorem Tx.F_Walker_copy (T : Tx K mg) : ∃ fd, FunD K d_Walker_copy.name d_Walker_copy.qual d_Walker_copy.params d_Walker_copy.body d_Walker_copy.scope (d_Walker_copy.dvs K) (d_Walker_copy.kws K) (d_Walker_copy.at_ K) fd := T.says.def_ 56
theorem Tx.F_Walker_told (T : Tx K mg) : ∃ fd, FunD K d_Walker_told.name d_Walker_told.qual d_Walker_told.params d_Walker_told.body d_Walker_told.scope (d_Walker_told.dvs K) (d_Walker_told.kws K) (d_Walker_told.at_ K) fd := T.says.def_ 57
theorem Tx.F_Walker_len (T : Tx K mg) : ∃ fd, FunD K d_Walker_len.name d_Walker_len.qual d_Walker_len.params d_Walker_len.body d_Walker_len.scope (d_Walker_len.dvs K) (d_Walker_len.kws K) (d_Walker_len.at_ K) fd := T.says.def_ 58
theorem Tx.F_Walker_str (T : Tx K mg) : ∃ fd, FunD K d_Walker_str.name d_Walker_str.qual d_Walker_str.params d_Walker_str.body d_Walker_str.scope (d_Walker_str.dvs K) (d_Walker_str.kws K) (d_Walker_str.at_ K) fd := T.says.def_ 59
end
end Bt
end
section
set_option Elab.async false
set_option linter.all false
set_option maxRecDepth 100000
set_option maxHeartbeats 2000000
namespace Bt
open PySem PySem.Spec PyProof.Rows L2

/-! ### heaps -/
/-- all that G says holds of H too -/
def Sub (G H : Hp) : Prop := ∀ a o, G a = some o → H a = some o
theorem Sub.rfl' {G : Hp} : Sub G G := fun _ _ h => h
theorem Sub.tr {G H J : Hp} (a : Sub G H) (b : Sub H J) : Sub G J := fun x o h => b x o (a x o h)
theorem Sub.fresh {G H : Hp} (s : Sub G H) {p : Addr} (h : H p = none) : G p = none := by
  cases e : G p with
  | none => rfl
  | some o => rw [s p o e] at h; cases h
/-- a place that G does not know is written -/
theorem Sub.upd {G H : Hp} (s : Sub G H) {p : Addr} {o : HO} (h : G p = none) : Sub G (upd H p o) := fun a u e => by
  rw [upd_ne (ne_of_none e h)]; exact s a u e
theorem Sub.new {G H : Hp} (s : Sub G H) {p : Addr} {o : HO} (h : H p = none) : Sub G (L2.upd H p o) := s.upd (s.fresh h)
theorem Sub.at {G H : Hp} (s : Sub G H) {a : Addr} {o : HO} (h : G a = some o) : H a = some o := s a o h
/-- without the places F -/
def msk (F : List Addr) (H : Hp) : Hp := fun a => if a ∈ F then none else H a
theorem msk_sub {F : List Addr} {H : Hp} : Sub (msk F H) H := fun a o e => by
  unfold msk at e
  split at e
  · cases e
  · exact e
theorem msk_at {F : List Addr} {H : Hp} {a : Addr} {o : HO} (h : H a = some o) (n : a ∉ F) : msk F H a = some o := by
  unfold msk; rw [if_neg n]; exact h
theorem msk_in {F : List Addr} {H : Hp} {a : Addr} (n : a ∈ F) : msk F H a = none := by unfold msk; rw [if_pos n]
theorem msk_out {F : List Addr} {H : Hp} {a : Addr} (n : a ∉ F) : msk F H a = H a := by unfold msk; rw [if_neg n]
theorem msk_mono {F : List Addr} {G H : Hp} (s : Sub G H) : Sub (msk F G) (msk F H) := fun a o e => by
  unfold msk at e ⊢
  split at e
  · cases e
  · rename_i n; rw [if_neg n]; exact s a o e
theorem msk_nil {H : Hp} : msk [] H = H := by funext a; exact msk_out (by simp)
theorem msk_upd {F : List Addr} {H : Hp} {p : Addr} {o : HO} (n : p ∈ F) : msk F (upd H p o) = msk F H := by
  funext a
  by_cases h : a ∈ F
  · rw [msk_in h, msk_in h]
  · rw [msk_out h, msk_out h, upd_ne (by rintro rfl; exact h n)]

/-! ### a def, a method, a class as the callers have it -/
section
variable (P : Program) (w : World) (K : PySem.W.Frag) (mg : PySem.Str → Option Value) (base : Heap)
structure Gd (k : Nat) (x : PySem.Str) (ps : List PySem.Str) (sp : Sp) : Prop where
  ex : ∃ f fd, FnOk P w K mg base CX0 k f fd ps sp ∧ mg x = some (.ref f) ∧ PySem.W.keepIn K (.ref f) = true ∧ Binds K fd ps []
structure Gm (k : Nat) (C : Addr) (m : PySem.Str) (ps : List PySem.Str) (dvs : List V) (sp : Sp) : Prop where
  ex : ∃ f fd ds, FnOk P w K mg base CX0 k f fd ps sp ∧ Cls K C ∧ Meth K C m f ∧ Binds K fd ps ds ∧ Vals dvs ds
structure Gi (k : Nat) (x : PySem.Str) (C : Addr) (ps : List PySem.Str) (sp : Sp) : Prop where
  ex : ∃ f fd, FnOk P w K mg base CX0 k f fd ps sp ∧ Mk K C f ∧ mg x = some (.ref C) ∧ Binds K fd ps []
end
section
variable {X : Cx} {j k : Nat} {x m : PySem.Str} {C : Addr} {ps : List PySem.Str} {dvs : List V} {sp : Sp} {e o : Expr} {es : List Expr} {t : TA} {ta : TE} {p pos apos : Pos}
theorem cl (G : Gd X.prog X.w X.K X.mg X.base j x ps sp) (hr : Room k X.A) (ha : PA X (e :: es) t) (hjk : j ≤ k := by decide) (hg : Gl X x := by rfl)
    (hdb : (x == ("__debug__" : PySem.Str)) = false := by decide) (he : starEach (e :: es) X.env = (false, eval e X.env) :: starEach es X.env := by rfl) (hpl : (backTo pos (starEach es X.env)).any (·.1) = false := by rfl) :
    PE X (.Call (.Name x p) (e :: es) [] pos) (tCall sp [] E0 t) := by
  obtain ⟨f, fd, F, gm, kp, b⟩ := G.ex
  exact pe_call F (hr.mono hjk) hg gm kp b .nil pass0 ha hdb he hpl
theorem cm {pl : Sem Bool} (G : Gm X.prog X.w X.K X.mg X.base j C m ps dvs sp) (hr : Room k X.A) (he : PE X o ta) (ha : PA X (e :: es) t) (hjk : j ≤ k := by decide)
    (hst : starEach (e :: es) X.env = (false, eval e X.env) :: starEach es X.env := by rfl) (hpl : (backTo pos (starEach es X.env)).any (·.1) = false := by rfl)
    (ht : eval (.Call (.Attribute o m apos) (e :: es) [] pos) X.env = (do
      let ov ← eval o X.env
      standAt apos.atName
      let (f, first) ← holding [ov] (getMethod ov m pl)
      callWith pos f first (backTo pos (starEach (e :: es) X.env)) (backToKw pos (keywordEach [] X.env))) := by rfl) :
    PE X (.Call (.Attribute o m apos) (e :: es) [] pos) (tMeth C m sp dvs E0 ta t) := by
  obtain ⟨f, fd, ds, F, c, M, b, v⟩ := G.ex
  exact pe_meth he c M F (hr.mono hjk) b v pass0 ha hst hpl ht
theorem cm0 {pl : Sem Bool} (G : Gm X.prog X.w X.K X.mg X.base j C m ps dvs sp) (hr : Room k X.A) (he : PE X o ta) (hjk : j ≤ k := by decide)
    (ht : eval (.Call (.Attribute o m apos) [] [] pos) X.env = (do
      let ov ← eval o X.env
      standAt apos.atName
      let (f, first) ← holding [ov] (getMethod ov m pl)
      callWith pos f first (backTo pos (starEach [] X.env)) (backToKw pos (keywordEach [] X.env))) := by rfl) :
    PE X (.Call (.Attribute o m apos) [] [] pos) (tMeth C m sp dvs E0 ta tNil) := by
  obtain ⟨f, fd, ds, F, c, M, b, v⟩ := G.ex
  exact pe_meth0 he c M F (hr.mono hjk) b v pass0 ht
theorem ci (G : Gi X.prog X.w X.K X.mg X.base j x C ps sp) (hr : Room k X.A) (ha : PA X (e :: es) t) (hjk : j + 1 ≤ k := by decide) (hg : Gl X x := by rfl)
    (hdb : (x == ("__debug__" : PySem.Str)) = false := by decide) (he : starEach (e :: es) X.env = (false, eval e X.env) :: starEach es X.env := by rfl) (hpl : (backTo pos (starEach es X.env)).any (·.1) = false := by rfl) :
    PE X (.Call (.Name x p) (e :: es) [] pos) (tMake C sp [] E0 t) := by
  obtain ⟨f, fd, F, M, gm, b⟩ := G.ex
  exact pe_make M F (hr.mono hjk) hg gm b .nil pass0 ha hdb he hpl
theorem pe_gI {i : Int} (h : ∃ t, X.mg x = some (.int i t)) (hg : Gl X x := by rfl) (hd : (x == ("__debug__" : PySem.Str)) = false := by decide) : PE X (.Name x pos) (tC (.int i)) := let ⟨t, e⟩ := h; pe_glob hg e ⟨t, rfl⟩ hd
theorem pe_gS {z : PySem.Str} (h : ∃ t, X.mg x = some (.str z t)) (hg : Gl X x := by rfl) (hd : (x == ("__debug__" : PySem.Str)) = false := by decide) : PE X (.Name x pos) (tC (.str z)) := let ⟨t, e⟩ := h; pe_glob hg e ⟨t, rfl⟩ hd
/-- a built-in type as a value -/
theorem pe_ty {n : String} (hm : X.mg x = none) (hv : bootBuiltins x = some (.type n)) (hg : Gl X x := by rfl) (hn : x ≠ "__name__" := by decide) (hd : (x == ("__debug__" : PySem.Str)) = false := by decide) : PE X (.Name x pos) (tC (.ty n)) := pe_bltn hg hm hv rfl hn hd
end
/-! ### promises by the number of arguments -/
def P1 (p : V → Hp → VK → Prop) : Sp := fun vs H Q _ => ∃ a, vs = [a] ∧ p a H Q
def P2 (p : V → V → Hp → VK → Prop) : Sp := fun vs H Q _ => ∃ a b, vs = [a, b] ∧ p a b H Q
def P3 (p : V → V → V → Hp → VK → Prop) : Sp := fun vs H Q _ => ∃ a b c, vs = [a, b, c] ∧ p a b c H Q
def P4 (p : V → V → V → V → Hp → VK → Prop) : Sp := fun vs H Q _ => ∃ a b c d, vs = [a, b, c, d] ∧ p a b c d H Q
def P5 (p : V → V → V → V → V → Hp → VK → Prop) : Sp := fun vs H Q _ => ∃ a b c d e, vs = [a, b, c, d, e] ∧ p a b c d e H Q
def P6 (p : V → V → V → V → V → V → Hp → VK → Prop) : Sp := fun vs H Q _ => ∃ a b c d e f, vs = [a, b, c, d, e, f] ∧ p a b c d e f H Q
structure Ar (n : Nat) (sp : Sp) : Prop where
  len : ∀ vs H Q E, sp vs H Q E → vs.length = n
theorem P1.ar {p} : Ar 1 (P1 p) := ⟨fun _ _ _ _ ⟨_, e, _⟩ => by rw [e]; rfl⟩
theorem P2.ar {p} : Ar 2 (P2 p) := ⟨fun _ _ _ _ ⟨_, _, e, _⟩ => by rw [e]; rfl⟩
theorem P3.ar {p} : Ar 3 (P3 p) := ⟨fun _ _ _ _ ⟨_, _, _, e, _⟩ => by rw [e]; rfl⟩
theorem P4.ar {p} : Ar 4 (P4 p) := ⟨fun _ _ _ _ ⟨_, _, _, _, e, _⟩ => by rw [e]; rfl⟩
theorem P5.ar {p} : Ar 5 (P5 p) := ⟨fun _ _ _ _ ⟨_, _, _, _, _, e, _⟩ => by rw [e]; rfl⟩
theorem P6.ar {p} : Ar 6 (P6 p) := ⟨fun _ _ _ _ ⟨_, _, _, _, _, _, e, _⟩ => by rw [e]; rfl⟩
/-! ### a def from its body -/
section
variable {P : Program} {w : World} {K : PySem.W.Frag} {mg : PySem.Str → Option Value} {base : Heap}
/-- what is asked of the body -/
abbrev Body (P : Program) (w : World) (K : PySem.W.Frag) (mg : PySem.Str → Option Value) (base : Heap) (N : List PySem.Str) (qual : PySem.Str) (bd : List Stmt) (sc : Scope) (f : Addr) (k : Nat) (sp : Sp) : Prop :=
  ∀ (cdv : Value) (A : Around) (outer : List Env) (s : Shared) (H : Hp) (vs : List V) (Q : VK) (E : XK), Room k (A.deeper (envOfC qual sc s.heap.objs.size f cdv)) → sp vs H Q E →
    ∃ t, PSs (cxOf CX0 P w K mg base N qual sc f cdv A outer s H E).nox bd t ∧ t { nx := fun _ H' => Q .non H', rt := Q } (start N vs) H
theorem fo {n : Nat} {x qual : PySem.Str} {pa : Arguments} {bd : List Stmt} {sc : Scope} {dvs : List V} {kws : List (PySem.Str × V)} {f : Addr} {fd : FuncData} {N ps : List PySem.Str} {k : Nat} {sp : Sp}
    (F : FunD K x qual pa bd sc dvs kws f fd) (S : FnScope N ps sc) (a : Ar n sp) (b : Body P w K mg base N qual bd sc f k sp) (hn : ps.length = n := by rfl) : FnOk P w K mg base CX0 (k + 1) f fd ps sp :=
  F.ok S (fun vs H Q E h => (a.len vs H Q E h).trans hn.symm) fun cdv A outer s H vs Q E hr h => let ⟨t, ht, q⟩ := b cdv A outer s H vs Q E hr h; ⟨t, ht.nox, q⟩
/-- no defaults -/
abbrev Bn (x qual : PySem.Str) (pa : Arguments) (bd : List Stmt) (sc : Scope) (ps : List PySem.Str) : Prop :=
  ∀ (kV doc pm : Value) (an : Option Addr) (cdv ct : Value) (us : List Value), us.length = ps.length → bindArgs (PySem.W.fnOf x qual pa bd sc .none kV doc pm an cdv ct) ⟨us, []⟩ = pure (ps.zip us)
theorem mkd {n : Nat} {x qual : PySem.Str} {pa : Arguments} {bd : List Stmt} {sc : Scope} {f : Addr} {N ps : List PySem.Str} {k : Nat} {sp : Sp}
    (F : ∃ fd, FunD K x qual pa bd sc [] [] f fd) (g : mg x = some (.ref f)) (S : FnScope N ps sc) (a : Ar n sp) (h : Bn x qual pa bd sc ps) (b : Body P w K mg base N qual bd sc f k sp) (hn : ps.length = n := by rfl) : Gd P w K mg base (k + 1) x ps sp := by
  obtain ⟨fd, F⟩ := F
  exact ⟨f, fd, fo F S a b hn, g, F.kp, F.bindsN h⟩
theorem mkm {n : Nat} {C : Addr} {x qual : PySem.Str} {pa : Arguments} {bd : List Stmt} {sc : Scope} {f : Addr} {N ps : List PySem.Str} {k : Nat} {sp : Sp}
    (F : ∃ fd, FunD K x qual pa bd sc [] [] f fd) (c : Cls K C) (M : Meth K C x f) (S : FnScope N ps sc) (a : Ar n sp) (h : Bn x qual pa bd sc ps) (b : Body P w K mg base N qual bd sc f k sp) (hn : ps.length = n := by rfl) : Gm P w K mg base (k + 1) C x ps [] sp := by
  obtain ⟨fd, F⟩ := F
  exact ⟨f, fd, [], fo F S a b hn, c, M, F.bindsN h, .nil⟩
theorem mki {n : Nat} {C : Addr} {x qual y : PySem.Str} {pa : Arguments} {bd : List Stmt} {sc : Scope} {f : Addr} {N ps : List PySem.Str} {k : Nat} {sp : Sp}
    (F : ∃ fd, FunD K x qual pa bd sc [] [] f fd) (M : Mk K C f) (g : mg y = some (.ref C)) (S : FnScope N ps sc) (a : Ar n sp) (h : Bn x qual pa bd sc ps) (b : Body P w K mg base N qual bd sc f k sp) (hn : ps.length = n := by rfl) : Gi P w K mg base (k + 1) y C ps sp := by
  obtain ⟨fd, F⟩ := F
  exact ⟨f, fd, fo F S a b hn, M, g, F.bindsN h⟩
end
end Bt
end
section
set_option Elab.async false
set_option linter.all false
set_option maxRecDepth 100000
set_option maxHeartbeats 2000000
namespace Bt
open PySem PySem.Spec PyProof.Rows L2

/-! ### enumerate over a tuple -/
theorem meets_enum1 {v : Value} {o : Obj} {G : Heap → Prop} (B : Begins v o G) :
    Meets (Builtin.«enumerate.__new__» ⟨[.type "enumerate", v], []⟩) (fun _ R s => G s.heap ∧
      R (.ok (.ret (.ref (s.heap.push o).objs.size))) { s with heap := (s.heap.push o).push { cls := .type "enumerate", data := .fields #[.none, .bool false, .ref s.heap.objs.size, rawInt 0, .none, .none] } }) :=
  .of_wp fun prog w A R s h => by
    obtain ⟨hp, g, d, tk, os⟩ := s; obtain ⟨h1, h⟩ := h
    have hsub := sub_enumerate
    have go : ∀ {A' : Around} {E : Value → Shared → Prop} {Q : Value → Shared → Prop}, Q (.ref hp.objs.size) ⟨hp.push o, g, d, tk, os⟩ → wpAny (model prog w) A' (pyIter v) Q E ⟨hp, g, d, tk, os⟩ :=
      fun q => B.iter prog w _ _ ⟨hp, g, d, tk, os⟩ _ h1 q
    wp_walk using go
    refine wpAny_stack_any fun st => wpAny_pure ?_
    split
    · rename_i c _ _ _ _ _
      cases (c == Value.type "enumerate")
      · wp_walk using go
        exact ⟨_, rfl, h⟩
      · wp_walk using go
        exact ⟨_, rfl, h⟩
    · wp_walk using go
      exact ⟨_, rfl, h⟩
theorem isTuple_of {h : Heap} {a : Addr} {its : Array Value} (p : IsTup h a its) : h.IsTuple a its := p
/-- enumerate(v) of a tuple -/
theorem enum_tuple {prog : Program} {w : World} {A : Around} {E : Value → Shared → Prop} {s : Shared} {l : Addr} {items : Array Value} {Q : Value → Shared → Prop} (ht : s.heap.IsTuple l items)
    (h : ∀ h', IsEnum h' (s.heap.objs.size + 1) s.heap.objs.size 0 .none → h'.IsTupleIter s.heap.objs.size l 0 → h'.objs.size = s.heap.objs.size + 2 →
      (∀ b o, s.heap.get? b = some o → h'.get? b = some o) → Q (.ref (s.heap.objs.size + 1)) { s with heap := h' }) :
    wpAny (model prog w) A (call (.type "enumerate") [.ref l]) Q E s := by
  refine callType_new F.called_enumerate (by decide) (F.typeCall_enumerate_1 _) (F.newCall_enumerate_1 _) (fun obj => F.args_object_init_2 obj _) F.entry_enumerate_new (meets_enum1 (begins_tuple l items)) ⟨ht, ?_⟩
  generalize ho : ({ cls := .type "tuple_iterator", data := .fields #[.ref l, .int 0 0] } : Obj) = o1
  have hz : (s.heap.push o1).objs.size = s.heap.objs.size + 1 := Heap.size_push ..
  have hf : o1.isFreed = false := by rw [← ho]; rfl
  show _ ∧ _
  rw [hz]
  generalize ho2 : ({ cls := .type "enumerate", data := .fields #[.none, .bool false, .ref s.heap.objs.size, rawInt 0, .none, .none] } : Obj) = o2
  have he : ((s.heap.push o1).push o2).get? (s.heap.objs.size + 1) = some o2 := by
    have q := Heap.get?_push_size (s.heap.push o1) (o := o2) (by rw [← ho2]; rfl)
    rw [hz] at q; exact q
  have he2 : IsEnum ((s.heap.push o1).push o2) (s.heap.objs.size + 1) s.heap.objs.size 0 .none := by
    show _ = _
    rw [he, ← ho2]
  refine ⟨⟨o2, he, by rw [← ho2]⟩, h _ he2 ⟨o1, Heap.get?_push_of_some _ (Heap.get?_push_size _ hf), by rw [← ho], by rw [← ho]; rfl⟩ (by rw [Heap.size_push, hz]) fun b o x => Heap.get?_push_of_some _ (Heap.get?_push_of_some _ x)⟩
/-- what such a walk gives -/
def IteT (K : PySem.W.Frag) (a : Addr) : It where
  go := fun i H => ∃ (xs : List V) (x : V), SqT K H a xs ∧ xs[i]? = some x
  yld := fun i H v H' => ∃ T x, v = .ref T ∧ H T = none ∧ H' = upd H T (.tup [.int (i : Nat), x]) ∧ ∀ xs, SqT K H a xs → xs[i]? = some x
  stop := fun i H => ∃ xs : List V, SqT K H a xs ∧ xs.length = i
theorem enum_apart {h : Heap} {e it a : Addr} {c : Int} {old : Value} {its : Array Value} (he : IsEnum h e it c old) (ht : h.IsTuple a its) : e ≠ a := by
  rintro rfl
  obtain ⟨o, ho, hc, _⟩ := ht
  have he : h.get? e = _ := he
  rw [he] at ho
  cases ho
  exact absurd (show Value.type "enumerate" = Value.type "tuple" from hc) (by decide)
theorem tit_apart {h : Heap} {it a b : Addr} {i : Nat} {its : Array Value} (hi : h.IsTupleIter it b i) (ht : h.IsTuple a its) : a ≠ it := by
  rintro rfl
  obtain ⟨o, ho, hc, _⟩ := ht
  obtain ⟨o2, ho2, hc2, _⟩ := hi
  rw [ho] at ho2
  cases ho2
  rw [hc] at hc2
  exact absurd hc2 (by decide)
theorem turn_enumT {P : Program} {w : World} {K : PySem.W.Frag} {elts : List Expr} {kk : Nat} {tpos : Pos} (a e it : Addr) :
    Turn P w K (.Tuple elts kk tpos) (IteT K a) [e, it] e (fun i h => (∃ old, IsEnum h e it ((i : Nat) : Int) old) ∧ h.IsTupleIter it a i ∧ e ≠ it) where
  mem := by simp
  obj := fun i h st b hb => by
    obtain ⟨⟨old, he⟩, ⟨o, ho, hc, hd⟩, _⟩ := st
    rcases List.mem_cons.mp hb with z | z
    · rw [z]; exact ⟨_, he, fun v q => nomatch q⟩
    · rw [List.mem_singleton.mp z]; exact ⟨o, ho, fun v q => by rw [hd] at q; cases q⟩
  keep := fun i h h' st k => ⟨⟨st.1.choose, k e (by simp) _ st.1.choose_spec⟩, st.2.1.at fun o q => k it (by simp) o q, st.2.2⟩
  item := by
    intro X hP hw hK hc i pins s σ H E I hf st hg
    subst hP hw hK
    obtain ⟨⟨old, he⟩, hit, hne⟩ := st
    obtain ⟨xs, x, hq, hx⟩ := hg
    obtain ⟨its, rv, p, hz⟩ := I.tuple hq
    obtain ⟨u, hu, ru⟩ := rv.get hx
    have hel : e < s.heap.objs.size := Heap.lt_size he
    have hil : it < s.heap.objs.size := let ⟨_, q, _⟩ := hit; Heap.lt_size q
    have hsz : i < its.toArray.size := by
      have := (List.getElem?_eq_some_iff.mp hu).1
      simpa using this
    refine wpAny_pyNext_enum_itemC (Draws.tuple (A := X.A.in1) (show X.A.in1.handled = none from I.ok.hd hc) it a (tit_apart hit p) its.toArray) he ⟨hit, p⟩ hsz hne (by
      intro z
      rcases List.mem_cons.mp z with z | z
      · exact hne z
      · exact enum_apart he p (List.mem_singleton.mp z)) fun y h' tk hy ho hst hT hs2 hk => ?_
    have ey : y = u := by
      rw [List.getElem?_toArray, hu] at hy
      exact (Option.some.inj hy).symm
    subst ey
    refine ⟨_, rfl, wpAny_letOwnedTupleGo_enum (s := { s with heap := h', toks := tk + 1 }) ho fun h'' he' sb => ?_⟩
    have hT2 : h''.get? s.heap.objs.size = some { cls := .type "tuple", data := .seq #[.int i tk, y] } := (sb.2 _ (Nat.ne_of_gt hel)).trans hT
    have new : ObjOk X.prog X.w (upd H s.heap.objs.size (.tup [.int (i : Nat), x])) h'' s.heap.objs.size (.tup [.int (i : Nat), x]) :=
      ⟨by show 2 ≤ sizeLine; decide, [.int i tk, y], .cons ⟨_, rfl⟩ (.cons ru .nil), ⟨_, hT2, rfl, _, rfl⟩⟩
    have I1 : Inv X pins σ (upd H s.heap.objs.size (.tup [.int (i : Nat), x])) { s with heap := h'', toks := tk + 1 } :=
      I.turnedNew (ch := [e, it]) (fun b ob hb q => (sb.2 b (fun z => hb (by simp [z]))).trans (hk b ob (fun z => hb (by simp [z])) (fun z => hb (by simp [z])) q)) hf (Nat.le_refl _) new
    refine ⟨.ref s.heap.objs.size, _, I1, rfl, ⟨_, x, rfl, I.hok.fresh (Nat.le_refl _), rfl, fun ys hy => by rw [I.tuple_inj hy hq]; exact hx⟩, ⟨⟨y, ?_⟩, hst.1.at fun o q => (sb.2 it (Ne.symm hne)).trans q, hne⟩, fun b hb => ?_⟩
    · rw [show ((i + 1 : Nat) : Int) = (i : Int) + 1 by omega]; exact he'
    · have hb' : b < s.heap.objs.size := by
        rcases List.mem_cons.mp hb with z | z
        · rw [z]; exact hel
        · rw [List.mem_singleton.mp z]; exact hil
      rw [upd_ne (Nat.ne_of_lt hb')]
      exact (hf b hb).1
  done := by
    intro X hP hw hK hc i pins s σ H E I hf st hg
    subst hP hw hK
    obtain ⟨⟨old, he⟩, hit, hne⟩ := st
    obtain ⟨xs, hq, hx⟩ := hg
    obtain ⟨its, rv, p, hz⟩ := I.tuple hq
    obtain ⟨f0, f1, f2, f3, f4, f5⟩ := hf it (by simp)
    have hl := rv.length
    have hn : its.toArray.size = i := by rw [List.size_toArray, ← hl, hx]
    subst hn
    exact wpAny_pyNext_enum_endD (Draws.tuple (A := X.A.in1) (show X.A.in1.handled = none from I.ok.hd hc) it a (tit_apart hit p) its.toArray) he ⟨hit, p⟩ fun h' eb => ⟨rfl, I.turned (t' := s.toks) (fun b o hb q => eb b o hb q) f0 f1 f3 f4 f5⟩
  self := fun A i s Q E st h => let ⟨⟨_, he⟩, _⟩ := st; wpAny_pyIter_enum he h
def iEnumT (K : PySem.W.Frag) (ta : TA) : TI := fun σ H R => ta σ H fun vs H1 => ∃ a xs, vs = [.ref a] ∧ SqT K H1 a xs ∧ R (IteT K a) H1
theorem pi_enumT {X : Cx} {e : Expr} {ta : TA} {p pos tpos : Pos} {elts : List Expr} {kk : Nat} (hg : Gl X "enumerate") (hm : X.mg "enumerate" = none) (ha : PA X [e] ta)
    (hs : starEach [e] X.env = (false, eval e X.env) :: starEach [] X.env := by rfl) (hpl : (backTo pos (starEach [] X.env)).any (·.1) = false := by rfl) :
    PI X (.Tuple elts kk tpos) (.Call (.Name "enumerate" p) [e] [] pos) (iEnumT X.K ta) := by
  refine ⟨fun pins s σ H R I h => ?_⟩
  refine Call_ (ld_blt I hg hm PyProof.Rows.boot_enumerate (PyProof.Rows.callWith_type1 (thn (ha.run pos pins s σ H _ I h) fun us s1 ⟨vs, H1, I1, r1, q1⟩ => ?_) hs hpl))
  obtain ⟨a, xs, ex, hq, q⟩ := q1
  subst ex
  cases r1 with
  | cons r rr =>
    cases rr
    cases r
    obtain ⟨its, rv, p', hz⟩ := I1.tuple hq
    refine enum_tuple p' fun h' he hit hsz hk => wpAny_pyIter_enum he ?_
    have I2 : Inv X pins σ H1 { s1 with heap := h' } := I1.kept (t' := s1.toks) hk
    refine ⟨s1.heap.objs.size + 1, [s1.heap.objs.size + 1, s1.heap.objs.size], _, _, H1, rfl, I2, turn_enumT a (s1.heap.objs.size + 1) s1.heap.objs.size, ⟨⟨.none, he⟩, hit, Nat.succ_ne_self _⟩, fun b hb => ?_, q⟩
    have hle : s1.heap.objs.size ≤ b := by
      rcases List.mem_cons.mp hb with z | z
      · rw [z]; exact Nat.le_succ _
      · rw [List.mem_singleton.mp z]; exact Nat.le_refl _
    exact I1.fpOk hle (I1.hok.fresh hle)
theorem walk_enumT {K : PySem.W.Frag} {a : Addr} {xs : List V} : Walk (IteT K a) xs.length (fun H => SqT K H a xs) (YPair (fun i => some (.int (i : Nat))) (fun i => xs[i]?)) := by
  refine ⟨fun i _ hi q => ⟨xs, xs[i], q, by simp [hi]⟩, fun _ q => ⟨xs, q, rfl⟩, fun i H v H' _ q y => ?_⟩
  obtain ⟨T, x, h1, h2, h3, h4⟩ := y
  exact ⟨T, .int (i : Nat), x, h1, h2, h3, rfl, h4 xs q⟩

/-! ### xs[i] by values -/
theorem get_list {X : Cx} : PGet X (rIxL X.K) := by
  intro pins s σ H o i ov iv Q I ro ri h
  obtain ⟨p, xs, k, v, rfl, rfl, hq, he, q⟩ := h
  cases ro
  obtain ⟨t, rfl⟩ := ri
  obtain ⟨its, r, pl, hz⟩ := I.list hq
  obtain ⟨j, h1, h2, h3, h4, h5⟩ := atI_get he
  obtain ⟨w, ew, rw'⟩ := r.get h2
  have hl := r.length
  have hn := line63
  have fin : EP X pins σ Q w s := ⟨v, H, I, rw', q⟩
  by_cases h0 : 0 ≤ k
  · have hj : k.toNat = j := by
      rw [seqIndex_of h0 h5] at h1
      exact Option.some.inj h1
    exact wpAny_getItem_list pl.isList h0 (by omega) (by rw [hj]; simpa using ew) fin
  · have hj : (k + (its.toArray.size : Int)).toNat = j := by
      rw [seqIndex_neg (by omega) h4] at h1
      rw [List.size_toArray, ← hl]
      exact Option.some.inj h1
    exact wpAny_getItem_list_neg pl.isList (by omega) (by rw [List.size_toArray] <;> omega) (by omega) (by rw [hj]; simpa using ew) fin
/-! ### a, b.f = .. : a field as a target -/
def gFld (K : PySem.W.Frag) (ta : TE) (f : PySem.Str) : TG := fun v σ H Q => ta σ H fun x H2 => ∃ a C dx fs, x = .ref a ∧ H2 a = some (.ins C dx fs) ∧ Cls K C ∧ NoAttr K C f ∧ fs.length < 1000 ∧ Q σ (upd H2 a (.ins C dx (putF f v fs)))
theorem pg_fld {X : Cx} {o : Expr} {f : PySem.Str} {ta : TE} {pos : Pos} (ha : PE X o ta) : PG X (.Attribute o f pos) (gFld X.K ta f) := by
  refine ⟨fun pins s σ H v u Q I r h => ?_⟩
  rw [PySem.assign_Attribute]
  refine wpAny_bind (wpAny_holding (thn (ha.run pins s σ H _ I h) fun ov s2 ⟨x, H2, I2, rx, a, C, dx, fs, ex, ea, c, n, l, q2⟩ => ?_))
  subst ex
  obtain rfl : ov = Value.ref a := rx
  refine wpAny_bind (wpAny_standAt (wpAny_bind (wpAny_holding (setattr_ok I2 ea c n l r fun s3 I3 => ?_))))
  exact wpAny_release ⟨σ, _, I3, q2⟩
end Bt
end
section
set_option Elab.async false
set_option linter.all false
set_option maxRecDepth 100000
set_option maxHeartbeats 2000000
namespace Bt
open PySem PySem.Spec PyProof.Rows L2
/-! ### sum of a tuple -/
def rSumT (K : PySem.W.Frag) : List V → Hp → VK → Prop := fun vs H Q => ∃ (a : Addr) (ns : List Int), vs = [V.ref a] ∧ SqT K H a (ns.map V.int) ∧ Q (.int ns.sum) H
theorem cr_sumT {X : Cx} (hc : X.calm = true) : CallR X (.builtin "sum") (rSumT X.K) := by
  intro pins s σ H vs us Q I r h
  obtain ⟨a, ns, rfl, hs, q⟩ := h
  obtain ⟨its, rv, hl, _⟩ := I.tuple hs
  rw [Vals.ref1 r]
  have hi := rv.ints
  obtain ⟨xs, e⟩ := hi.allInts.items
  have hn : numsOf (intItems xs).toList = ns := by rw [← e]; exact hi.numsOf
  rw [nums_intItems] at hn
  rw [e] at hl
  refine PySem.W.ktm_sumG (I.ok.hd hc) hl fun h' tk t' hk => ?_
  have e2 : preSum (numAt xs) xs.size = ns.sum := by rw [preSum_eq, List.take_of_length_le (by simp), hn]
  rw [e2]
  exact ⟨.int _, H, I.kept hk, ⟨_, rfl⟩, q⟩
end Bt
end
section
set_option Elab.async false
set_option linter.all false
set_option maxRecDepth 100000
set_option maxHeartbeats 2000000
set_option autoImplicit false
namespace Bt
open PySem PySem.Spec PyProof.Rows L2 Rz

/-! ### lists of values -/
def iV (ns : List Int) : List V := ns.map V.int
def nV (ns : List Nat) : List V := ns.map fun n : Nat => V.int (n : Int)
def rV (as : List Addr) : List V := as.map V.ref
theorem iV_len (ns : List Int) : (iV ns).length = ns.length := List.length_map _
theorem nV_len (ns : List Nat) : (nV ns).length = ns.length := List.length_map _
theorem rV_len (ns : List Addr) : (rV ns).length = ns.length := List.length_map _
theorem nV_iV (ns : List Nat) : nV ns = iV (ns.map fun n : Nat => (n : Int)) := by unfold nV iV; rw [List.map_map]; rfl
theorem iV_get {ns : List Int} {j : Nat} {x : Int} (h : ns[j]? = some x) : (iV ns)[j]? = some (.int x) := by unfold iV; rw [List.getElem?_map, h]; rfl
theorem nV_get {ns : List Nat} {j x : Nat} (h : ns[j]? = some x) : (nV ns)[j]? = some (.int (x : Int)) := by unfold nV; rw [List.getElem?_map, h]; rfl
theorem rV_get {ns : List Addr} {j : Nat} {x : Addr} (h : ns[j]? = some x) : (rV ns)[j]? = some (.ref x) := by unfold rV; rw [List.getElem?_map, h]; rfl
theorem iV_inv {ns : List Int} {j : Nat} {v : V} (h : (iV ns)[j]? = some v) : ∃ x, ns[j]? = some x ∧ v = .int x := by
  unfold iV at h; rw [List.getElem?_map] at h
  cases e : ns[j]? with
  | none => rw [e] at h; cases h
  | some x => rw [e] at h; exact ⟨x, rfl, (Option.some.inj h).symm⟩
theorem nV_inv {ns : List Nat} {j : Nat} {v : V} (h : (nV ns)[j]? = some v) : ∃ x : Nat, ns[j]? = some x ∧ v = .int (x : Int) := by
  unfold nV at h; rw [List.getElem?_map] at h
  cases e : ns[j]? with
  | none => rw [e] at h; cases h
  | some x => rw [e] at h; exact ⟨x, rfl, (Option.some.inj h).symm⟩
theorem rV_inv {ns : List Addr} {j : Nat} {v : V} (h : (rV ns)[j]? = some v) : ∃ x, ns[j]? = some x ∧ v = .ref x := by
  unfold rV at h; rw [List.getElem?_map] at h
  cases e : ns[j]? with
  | none => rw [e] at h; cases h
  | some x => rw [e] at h; exact ⟨x, rfl, (Option.some.inj h).symm⟩
theorem iV_set (ns : List Int) (j : Nat) (x : Int) : (iV ns).set j (.int x) = iV (ns.set j x) := by unfold iV; rw [List.map_set]
theorem nV_set (ns : List Nat) (j x : Nat) : (nV ns).set j (.int (x : Int)) = nV (ns.set j x) := by unfold nV; rw [List.map_set]
theorem iV_snoc (ns : List Int) (x : Int) : iV ns ++ [.int x] = iV (ns ++ [x]) := by unfold iV; rw [List.map_append]; rfl
theorem nV_snoc (ns : List Nat) (x : Nat) : nV ns ++ [.int (x : Int)] = nV (ns ++ [x]) := by unfold nV; rw [List.map_append]; rfl
theorem rV_snoc (ns : List Addr) (x : Addr) : rV ns ++ [.ref x] = rV (ns ++ [x]) := by unfold rV; rw [List.map_append]; rfl
theorem nV_drop (ns : List Nat) (k : Nat) : (nV ns).drop k = nV (ns.drop k) := by unfold nV; rw [List.map_drop]
theorem iV_drop (ns : List Int) (k : Nat) : (iV ns).drop k = iV (ns.drop k) := by unfold iV; rw [List.map_drop]
theorem iV_take (ns : List Int) (k : Nat) : (iV ns).take k = iV (ns.take k) := by unfold iV; rw [List.map_take]
theorem nV_take (ns : List Nat) (k : Nat) : (nV ns).take k = nV (ns.take k) := by unfold nV; rw [List.map_take]
theorem nV_dropLast (ns : List Nat) : (nV ns).dropLast = nV ns.dropLast := by unfold nV; rw [List.map_dropLast]
theorem nV_nil : nV [] = [] := rfl
theorem nV_flat (ns : List Nat) : (nV ns).all flatV = true := by
  unfold nV; rw [List.all_map]; exact List.all_eq_true.mpr fun _ _ => rfl
theorem iV_flat (ns : List Int) : (iV ns).all flatV = true := by
  unfold iV; rw [List.all_map]; exact List.all_eq_true.mpr fun _ _ => rfl
theorem at_neg {α : Type} {xs : List α} {v : α} (h : xs.getLast? = some v) : atI xs (-1) = some v := by
  obtain ⟨r, e⟩ := List.getLast?_eq_some_iff.mp h
  rw [e]
  exact atI_last r v
theorem at_neg' {α : Type} {xs : List α} {v : α} (h : xs.getLast? = some v) : atI xs (- 1 : Int) = some v := at_neg h
theorem cut_from (xs : List V) (k : Nat) : cutV xs (some (k : Int)) none = xs.drop k := by
  unfold cutV
  rw [HT.sIx_nat, HT.sIx_none]
  rcases Nat.le_total k xs.length with h | h
  · rw [Nat.min_eq_left h]; exact List.take_of_length_le (by rw [List.length_drop]; exact Nat.le_refl _)
  · rw [Nat.min_eq_right h, List.drop_of_length_le h, List.drop_length, Nat.sub_self]; rfl
theorem cut_to (xs : List V) (k : Nat) : cutV xs none (some (k : Int)) = xs.take k := by
  unfold cutV
  rw [HT.sIx_nat, HT.sIx_none, List.drop_zero, Nat.sub_zero]
  rcases Nat.le_total k xs.length with h | h
  · rw [Nat.min_eq_left h]
  · rw [Nat.min_eq_right h, List.take_length, List.take_of_length_le h]
theorem cut_last (xs : List V) (h : xs ≠ []) : cutV xs (some (-1)) none = xs.drop (xs.length - 1) := by
  unfold cutV
  rw [HT.sIx_none]
  have hl : 0 < xs.length := List.length_pos_iff.mpr h
  have e : HT.sIx xs.length 0 (some (-1)) = xs.length - 1 := by
    show (if (-1 : Int) < 0 then ((-1 : Int) + (xs.length : Int)).toNat else min (-1 : Int).toNat xs.length) = _
    rw [if_pos (by decide)]; omega
  rw [e]
  exact List.take_of_length_le (by rw [List.length_drop]; exact Nat.le_refl _)
/-! ### two lists, item by item -/
structure A2 {α β : Type} (R : α → β → Prop) (xs : List α) (ys : List β) : Prop where
  len : xs.length = ys.length
  at_ : ∀ (i : Nat) (x : α) (y : β), xs[i]? = some x → ys[i]? = some y → R x y
theorem A2.nil {α β : Type} {R : α → β → Prop} : A2 R [] [] := ⟨rfl, fun _ _ _ h => by simp at h⟩
theorem A2.snoc {α β : Type} {R : α → β → Prop} {xs : List α} {ys : List β} {x : α} {y : β} (h : A2 R xs ys) (r : R x y) : A2 R (xs ++ [x]) (ys ++ [y]) := by
  refine ⟨by rw [List.length_append, List.length_append, h.len]; rfl, fun i a b ha hb => ?_⟩
  rcases Nat.lt_trichotomy i xs.length with c | c | c
  · rw [List.getElem?_append_left c] at ha
    rw [List.getElem?_append_left (h.len ▸ c)] at hb
    exact h.at_ i a b ha hb
  · subst c
    rw [List.getElem?_append_right (Nat.le_refl _), Nat.sub_self] at ha
    rw [h.len, List.getElem?_append_right (Nat.le_refl _), Nat.sub_self] at hb
    cases ha; cases hb; exact r
  · rw [List.getElem?_eq_none (by rw [List.length_append]; exact c)] at ha; cases ha
theorem A2.mono {α β : Type} {R S : α → β → Prop} {xs : List α} {ys : List β} (h : A2 R xs ys) (f : ∀ x y, R x y → S x y) : A2 S xs ys := ⟨h.len, fun i x y a b => f x y (h.at_ i x y a b)⟩
theorem A2.get {α β : Type} {R : α → β → Prop} {xs : List α} {ys : List β} (h : A2 R xs ys) {i : Nat} {y : β} (e : ys[i]? = some y) : ∃ x, xs[i]? = some x ∧ R x y := by
  have hi : i < xs.length := by rw [h.len]; exact (List.getElem?_eq_some_iff.mp e).1
  exact ⟨xs[i], by simp [hi], h.at_ i _ y (by simp [hi]) e⟩
theorem A2.get' {α β : Type} {R : α → β → Prop} {xs : List α} {ys : List β} (h : A2 R xs ys) {i : Nat} {x : α} (e : xs[i]? = some x) : ∃ y, ys[i]? = some y ∧ R x y := by
  have hi : i < ys.length := by rw [← h.len]; exact (List.getElem?_eq_some_iff.mp e).1
  exact ⟨ys[i], by simp [hi], h.at_ i x _ e (by simp [hi])⟩
/-! ### what is wanted of a value, of a state -/
theorem cQ {Q : VK} {x y : V} {H : Hp} (e : x = y) (h : Q y H) : Q x H := by rw [e]; exact h
theorem cbl {Q : VK} {b c : Bool} {H : Hp} (e : b = c) (h : Q (.bl c) H) : Q (.bl b) H := by rw [e]; exact h
theorem cint {Q : VK} {b c : Int} {H : Hp} (e : b = c) (h : Q (.int c) H) : Q (.int b) H := by rw [e]; exact h
theorem kit_int {K : PySem.W.Frag} : PySem.W.kitOne K (.type "int") (.type "int") = some true := kit_ty (by decide +kernel)
theorem kit_ib {K : PySem.W.Frag} : PySem.W.kitOne K (.type "int") (.type "bool") = some false := kit_ty (by decide +kernel)
theorem kit_ss {K : PySem.W.Frag} : PySem.W.kitOne K (.type "str") (.type "str") = some true := kit_ty (by decide +kernel)
theorem kit_tt {K : PySem.W.Frag} : PySem.W.kitOne K (.type "tuple") (.type "tuple") = some true := kit_ty (by decide +kernel)
theorem szl {n : Nat} (h : n ≤ 100000) : n ≤ sizeLine := Nat.le_trans h (by decide)
theorem szlt {n : Nat} (h : n < 100000) : n < sizeLine := Nat.lt_of_lt_of_le h (by decide)
/-! ### index in a list of numbers without repetition -/
theorem idx_at {ns : List Nat} {x : Nat} (h : x ∈ ns) : ns[ns.idxOf x]? = some x := by
  have hl := List.idxOf_lt_length_of_mem h
  rw [List.getElem?_eq_getElem hl, List.getElem_idxOf]
theorem idx_before {ns : List Nat} {x m y : Nat} (hm : m < ns.idxOf x) (hy : ns[m]? = some y) : y ≠ x := by
  rintro rfl
  induction ns generalizing m with
  | nil => simp at hy
  | cons a r ih =>
    rw [List.idxOf_cons] at hm
    by_cases c : (a == y) = true
    · rw [c] at hm; simp at hm
    · have c' : (a == y) = false := by simpa using c
      rw [c'] at hm
      simp only [cond_false] at hm
      cases m with
      | zero =>
        rw [List.getElem?_cons_zero] at hy
        cases hy
        simp at c
      | succ m =>
        rw [List.getElem?_cons_succ] at hy
        exact ih hy (by omega)
theorem r_index {K : PySem.W.Frag} {H : Hp} {a : Addr} {ns : List Nat} {x : Nat} {Q : VK} (h : SqL K H a (nV ns)) (hx : x ∈ ns) (q : Q (.int ((ns.idxOf x : Nat) : Int)) H) : rIndex K (.ref a) [.int (x : Int)] H Q := by
  refine ⟨a, nV ns, .int (x : Int), ns.idxOf x, .int (x : Int), rfl, rfl, h, rfl, nV_flat ns, nV_get (idx_at hx), ?_, fun m z hm hz => ?_, q⟩
  · simp [eqV]
  · obtain ⟨y, hy, rfl⟩ := nV_inv hz
    have := idx_before hm hy
    simp [eqV]
    omega
/-! ### a comprehension without a test, whose turns make new things only -/
theorem lc_col {J : It} {n : Nat} {G : Hp → Prop} {Y : Nat → Hp → V → Hp → Prop} (w : Walk J n G Y) {g : TG} {te : TE} {vs : List Nat} {σ : L2.St} {H1 : Hp} {D : Addr} {Qd : Hp → Prop} (hD : H1 D = none) (hn : n < 100000)
    (R : Nat → V → Hp → Prop) (mono : ∀ i v H H' l, H D = some (.lst l) → Sub (msk [D] H) H' → R i v H → R i v H') (hG : ∀ H, Sub H1 H → G H)
    (hs : ∀ i x H H', i < n → Sub H1 H → Y i H x H' → ∀ (Q' : VK) (Nx : Hp → Prop), (∀ v H4, Sub H H4 → R i v H4 → Q' v H4) → g x (wipe σ vs) H' fun σ2 H2 => wipe σ2 vs = wipe σ vs ∧ tYes σ2 H2 fun b H3 => if b = true then te σ2 H3 Q' else Nx H3)
    (hd : ∀ acc H, Sub H1 H → H D = some (.lst acc) → acc.length = n → (∀ j v, acc[j]? = some v → R j v H) → Qd H) :
    ∃ W : Nat → Nat → Hp → Prop, (∃ m, W 0 m (upd H1 D (.lst []))) ∧ ∀ i m H, W i m H →
      (J.stop i H ∧ Qd H) ∨ (J.go i H ∧ ∃ Nx : Hp → Prop, (∀ H', Nx H' → ∃ m', m' < m ∧ W (i + 1) m' H') ∧ ∀ x H', J.yld i H x H' → g x (wipe σ vs) H' fun σ2 H2 => wipe σ2 vs = wipe σ vs ∧ tYes σ2 H2 fun b H3 =>
        if b = true then te σ2 H3 fun y H4 => ∃ acc, H4 D = some (.lst acc) ∧ acc.length < sizeLine ∧ Nx (upd H4 D (.lst (acc ++ [y]))) else Nx H3) := by
  refine lc_it w (fun i H => Sub H1 H ∧ ∃ acc, H D = some (.lst acc) ∧ acc.length = i ∧ ∀ j v, acc[j]? = some v → R j v H) ⟨Sub.rfl'.new hD, [], upd_same, rfl, fun j v h => by simp at h⟩ (fun i H _ p => hG H p.1) (fun i x H H' hi p y => ?_) fun H p => ?_
  · obtain ⟨s1, acc, ha, hl, hR⟩ := p
    refine hs i x H H' hi s1 y _ _ fun v H4 s2 r => ⟨acc, s2.at ha, szlt (by omega), (s1.tr s2).upd hD, acc ++ [v], upd_same, by rw [List.length_append, hl]; rfl, fun j u hj => ?_⟩
    have ms : Sub (msk [D] H4) (upd H4 D (.lst (acc ++ [v]))) := fun a o e => by
      unfold msk at e
      split at e
      · cases e
      · rename_i ne
        rw [upd_ne (by simpa using ne)]; exact e
    have ms0 : Sub (msk [D] H) (upd H4 D (.lst (acc ++ [v]))) := (msk_mono s2).tr ms
    rcases Nat.lt_trichotomy j acc.length with c | c | c
    · rw [List.getElem?_append_left c] at hj
      exact mono j u H _ acc ha ms0 (hR j u hj)
    · subst c
      rw [List.getElem?_append_right (Nat.le_refl _), Nat.sub_self] at hj
      cases hj
      rw [hl]
      exact mono i v H4 _ acc (s2.at ha) ms r
    · rw [List.getElem?_eq_none (by rw [List.length_append]; exact c)] at hj; cases hj
  · obtain ⟨s1, acc, ha, hl, hR⟩ := p
    exact hd acc H s1 ha hl hR
/-- .. whose values are told beforehand -/
theorem lc_val {J : It} {n : Nat} {G : Hp → Prop} {Y : Nat → Hp → V → Hp → Prop} (w : Walk J n G Y) {g : TG} {te : TE} {vs : List Nat} {σ : L2.St} {H1 : Hp} {D : Addr} {Qd : Hp → Prop} (hD : H1 D = none) (hn : n < 100000)
    (ys : List V) (hys : ys.length = n) (hG : ∀ H, Sub H1 H → G H)
    (hs : ∀ i x H H', i < n → Sub H1 H → Y i H x H' → ∀ (Q' : VK) (Nx : Hp → Prop), (∀ v H4, Sub H H4 → ys[i]? = some v → Q' v H4) → g x (wipe σ vs) H' fun σ2 H2 => wipe σ2 vs = wipe σ vs ∧ tYes σ2 H2 fun b H3 => if b = true then te σ2 H3 Q' else Nx H3)
    (hd : ∀ H, Sub H1 H → H D = some (.lst ys) → Qd H) :
    ∃ W : Nat → Nat → Hp → Prop, (∃ m, W 0 m (upd H1 D (.lst []))) ∧ ∀ i m H, W i m H →
      (J.stop i H ∧ Qd H) ∨ (J.go i H ∧ ∃ Nx : Hp → Prop, (∀ H', Nx H' → ∃ m', m' < m ∧ W (i + 1) m' H') ∧ ∀ x H', J.yld i H x H' → g x (wipe σ vs) H' fun σ2 H2 => wipe σ2 vs = wipe σ vs ∧ tYes σ2 H2 fun b H3 =>
        if b = true then te σ2 H3 fun y H4 => ∃ acc, H4 D = some (.lst acc) ∧ acc.length < sizeLine ∧ Nx (upd H4 D (.lst (acc ++ [y]))) else Nx H3) := by
  refine lc_col w hD hn (fun i v _ => ys[i]? = some v) (fun _ _ _ _ _ _ _ h => h) hG hs fun acc H s1 ha hl hR => hd H s1 ?_
  have : acc = ys := by
    apply List.ext_getElem?
    intro j
    rcases Nat.lt_or_ge j acc.length with c | c
    · have := hR j acc[j] (by simp [c])
      rw [this]; simp [c]
    · rw [List.getElem?_eq_none c, List.getElem?_eq_none (by omega)]
  rw [← this]; exact ha
theorem ifT {c A B : Prop} [Decidable c] (h : c) (a : A) : if c then A else B := by rw [if_pos h]; exact a
theorem ifF {c A B : Prop} [Decidable c] (h : ¬ c) (b : B) : if c then A else B := by rw [if_neg h]; exact b
end Bt
end
section
set_option Elab.async false
set_option linter.all false
set_option maxRecDepth 100000
set_option maxHeartbeats 2000000
set_option autoImplicit false
namespace Bt
open PySem PySem.Spec PyProof.Rows L2 Rz
/-! ### numbers, pairs .. as data -/
section
variable {K : PySem.W.Frag} {H : Hp}
theorem dpa_ints : ∀ ns : List Int, DpAll K H (iV ns) (ns.map PyData.int)
  | [] => .nil
  | n :: r => .cons (.int n) (dpa_ints r)
theorem dp_iL {a : Addr} {ns : List Int} (h : SqL K H a (iV ns)) : Dp K H (.ref a) (.list (ns.map PyData.int)) := .lst h (dpa_ints ns)
theorem dp_iT {a : Addr} {ns : List Int} (h : SqT K H a (iV ns)) : Dp K H (.ref a) (.tuple (ns.map PyData.int)) := .tup h (dpa_ints ns)
theorem dp_nL {a : Addr} {ns : List Nat} (h : SqL K H a (nV ns)) : Dp K H (.ref a) (.list ((ns.map fun n : Nat => (n : Int)).map PyData.int)) := dp_iL (by rw [← nV_iV]; exact h)
theorem dp_eL {a : Addr} (h : H a = some (.lst [])) : Dp K H (.ref a) (.list []) := .lst (SqL.of h) .nil
theorem dp_eT {a : Addr} (h : H a = some (.tup [])) : Dp K H (.ref a) (.tuple []) := .tup (SqT.of h) .nil
end
theorem cla_ints : ∀ ns : List Int, PyData.canLayAll0 (ns.map PyData.int) = true
  | [] => by simp [PyData.canLayAll0]
  | n :: r => by rw [List.map_cons, PyData.canLayAll0, cla_ints r]; simp [PyData.canLay0]
theorem dpt_ints : ∀ ns : List Int, PyData.depthAll (ns.map PyData.int) = 0
  | [] => by simp [PyData.depthAll]
  | n :: r => by rw [List.map_cons, PyData.depthAll, dpt_ints r]; simp [PyData.depth]
theorem sh_iL (ns : List Int) : SeqAt.shaped (.list (ns.map PyData.int)) = true := by
  unfold SeqAt.shaped
  rw [PyData.canLay0, cla_ints, PyData.depth, dpt_ints]; rfl
theorem sh_iT (ns : List Int) : SeqAt.shaped (.tuple (ns.map PyData.int)) = true := by
  unfold SeqAt.shaped
  rw [PyData.canLay0, cla_ints, PyData.depth, dpt_ints]; rfl
theorem sh_eL : SeqAt.shaped (.list []) = true := sh_iL []
theorem sh_eT : SeqAt.shaped (.tuple []) = true := sh_iT []
theorem eqa_ints : ∀ ns ms : List Int, PyData.eqvAll (ns.map PyData.int) (ms.map PyData.int) = decide (ns = ms)
  | [], [] => by simp [PyData.eqvAll]
  | [], _ :: _ => by simp [PyData.eqvAll]
  | _ :: _, [] => by simp [PyData.eqvAll]
  | n :: r, m :: t => by
    rw [List.map_cons, List.map_cons, PyData.eqvAll, eqa_ints r t, PyData.eqv]
    by_cases h : n = m
    · subst h; simp
    · simp [h]
theorem eq_iL (ns ms : List Int) : PyData.eqv (.list (ns.map PyData.int)) (.list (ms.map PyData.int)) = decide (ns = ms) := by rw [PyData.eqv, eqa_ints]
theorem eq_L0 (ds : List PyData) : PyData.eqv (.list ds) (.list []) = ds.isEmpty := by cases ds <;> simp [PyData.eqv, PyData.eqvAll]
theorem eq_T0 (ds : List PyData) : PyData.eqv (.tuple ds) (.tuple []) = ds.isEmpty := by cases ds <;> simp [PyData.eqv, PyData.eqvAll]
/-- a list of numbers is not [] -/
theorem r_ne0 {K : PySem.W.Frag} {H : Hp} {a b : Addr} {ns : List Nat} {Q : VK} (h : SqL K H a (nV ns)) (he : H b = some (.lst [])) (q : Q (.bl (!decide (ns = []))) H) : rNeD K (.ref a) (.ref b) H Q := by
  refine ⟨_, _, dp_nL h, dp_eL he, sh_iL _, sh_eL, ?_⟩
  rw [eq_L0]
  refine cbl ?_ q
  cases ns <;> rfl
theorem r_ne0i {K : PySem.W.Frag} {H : Hp} {a b : Addr} {ns : List Int} {Q : VK} (h : SqL K H a (iV ns)) (he : H b = some (.lst [])) (q : Q (.bl (!decide (ns = []))) H) : rNeD K (.ref a) (.ref b) H Q := by
  refine ⟨_, _, dp_iL h, dp_eL he, sh_iL _, sh_eL, ?_⟩
  rw [eq_L0]
  refine cbl ?_ q
  cases ns <;> rfl
theorem cdiv12 {i j : Int} (h : 1 ≤ j) (h2 : j ≤ 1000000000000) : CDivW i j := by
  refine wide_div (b := 41) (by omega) ?_ (by decide) (by decide)
  have : (2 : Nat) ^ 41 = 2199023255552 := by decide
  omega
theorem cmulL {i j : Int} (h : -10000000000000000000 ≤ i) (h2 : i ≤ 10000000000000000000) : CMul i j := by
  refine .inl ⟨?_, ?_⟩
  · have : (2 : Int) ^ 64 = 18446744073709551616 := by decide
    omega
  · have : (2 : Int) ^ 64 = 18446744073709551616 := by decide
    omega
theorem cmulR {i j : Int} (h : -10000000000000000000 ≤ j) (h2 : j ≤ 10000000000000000000) : CMul i j := by
  refine .inr ⟨?_, ?_⟩
  · have : (2 : Int) ^ 64 = 18446744073709551616 := by decide
    omega
  · have : (2 : Int) ^ 64 = 18446744073709551616 := by decide
    omega
theorem A2.cons {α β : Type} {R : α → β → Prop} {xs : List α} {ys : List β} {x : α} {y : β} (r : R x y) (h : A2 R xs ys) : A2 R (x :: xs) (y :: ys) := by
  refine ⟨by rw [List.length_cons, List.length_cons, h.len], fun i a b ha hb => ?_⟩
  cases i with
  | zero => rw [List.getElem?_cons_zero] at ha hb; cases ha; cases hb; exact r
  | succ i => rw [List.getElem?_cons_succ] at ha hb; exact h.at_ i a b ha hb
theorem acc_of {β : Type} {R : Addr → β → Prop} : ∀ (acc : List V) (xs : List β), acc.length = xs.length → (∀ (j : Nat) (v : V), acc[j]? = some v → ∃ a x, v = .ref a ∧ xs[j]? = some x ∧ R a x) → ∃ as, acc = rV as ∧ A2 R as xs
  | [], [], _, _ => ⟨[], rfl, A2.nil⟩
  | [], _ :: _, h, _ => by simp at h
  | _ :: _, [], h, _ => by simp at h
  | v :: r, x :: t, h, f => by
    obtain ⟨a, y, e, hy, hr⟩ := f 0 v rfl
    rw [List.getElem?_cons_zero] at hy
    cases hy
    obtain ⟨as, e2, h2⟩ := acc_of r t (by simpa using h) fun j u hj => by
      obtain ⟨a', x', e', h', r'⟩ := f (j + 1) u (by rw [List.getElem?_cons_succ]; exact hj)
      exact ⟨a', x', e', by rwa [List.getElem?_cons_succ] at h', r'⟩
    exact ⟨a :: as, by rw [e, e2]; rfl, A2.cons hr h2⟩
theorem eqV_self (i : Int) : eqV (.int i) (.int i) = true := by simp [eqV]
theorem no_before {ns : List Nat} {x : Nat} : ∀ (m : Nat) (z : V), m < ns.idxOf x → (nV ns)[m]? = some z → eqV z (.int (x : Int)) = false := fun m z hm hz => by
  obtain ⟨y, hy, rfl⟩ := nV_inv hz
  have := idx_before hm hy
  simp [eqV]
  omega
theorem nV_app (a b : List Nat) : nV (a ++ b) = nV a ++ nV b := by unfold nV; rw [List.map_append]
theorem last_get {l : List Nat} (h : l ≠ []) : l[l.length - 1]? = some (l.getD (l.length - 1) 0) := by
  have : 0 < l.length := List.length_pos_iff.mpr h
  rw [List.getD_eq_getElem?_getD, List.getElem?_eq_getElem (by omega)]; rfl
theorem nV_last {l : List Nat} (h : l ≠ []) : (nV l)[(nV l).length - 1]? = some (.int ((l.getD (l.length - 1) 0 : Nat) : Int)) := by rw [nV_len]; exact nV_get (last_get h)
theorem p63 {k : Nat} (h : k ≤ 100000) : (k : Int) < 2 ^ 63 := by
  have : (2 : Int) ^ 63 = 9223372036854775808 := by decide
  omega
theorem ix_nat {n j : Nat} (h : j < n) : ixN n (j : Int) = some j := by
  unfold ixN
  rw [if_pos (by omega), if_pos (by omega)]; rfl
/-- a statement that the readings leave shut -/
structure Bx (p : Prop) : Prop where
  o : p
/-- triples of numbers -/
theorem dp_i3 {K : PySem.W.Frag} {H : Hp} {a : Addr} {x y z : Int} (h : H a = some (.tup [.int x, .int y, .int z])) : Dp K H (.ref a) (.tuple ([x, y, z].map PyData.int)) := dp_iT (SqT.of h)
end Bt
end
section
set_option Elab.async false
set_option linter.all false
set_option maxRecDepth 100000
set_option maxHeartbeats 2000000
set_option autoImplicit false
namespace Bt
open PySem PySem.Spec PyProof.Rows L2 Rz
section
variable {P : Program} {w : World} {K : PySem.W.Frag} {mg : PySem.Str → Option Value} {base : Heap}
local macro_rules | `(tactic| walk_at "sd") => `(tactic| first
  | rfl | assumption
  | exact Sub.at ‹Sub _ _› (by assumption)
  | exact SqL.of (by assumption) | exact SqT.of (by assumption) | exact SqL.of (Sub.at ‹Sub _ _› (by assumption)) | exact SqT.of (Sub.at ‹Sub _ _› (by assumption))
  | exact Or.inl (SqL.of (by assumption)) | exact Or.inr (SqT.of (by assumption)) | exact Or.inl (SqL.of (Sub.at ‹Sub _ _› (by assumption))) | exact Or.inr (SqT.of (Sub.at ‹Sub _ _› (by assumption)))
  | exact ClsV.ty _ | exact TyX.base (.int _) | exact TyX.base (.str _) | exact TyX.base (.tup (by assumption)) | exact kit_int | exact kit_ib | exact kit_ss | exact kit_tt)
local macro_rules | `(tactic| walk_at "rd1") => `(tactic| first
  | (apply Exists.intro)
  | (refine And.intro ?_ ?_; (focus (walk_at "sd")))
  | (refine L2.iteT ?_)
  | (refine L2.iteF ?_))
local macro_rules | `(tactic| walk_at "rd") => `(tactic| repeat (walk_at "rd1"))

/-! ### is_integer, is_whole -/
theorem sc_is_integer : FnScope ["value", "low", "high"] ["value", "low", "high"] (defScope s_is_integer) := ⟨rfl, rfl, rfl, by decide +kernel, rfl, by decide +kernel, by decide +kernel⟩
theorem sc_is_whole : FnScope ["value", "low", "high"] ["value", "low", "high"] (defScope s_is_whole) := ⟨rfl, rfl, rfl, by decide +kernel, rfl, by decide +kernel, by decide +kernel⟩
theorem sc_lengths_error : FnScope ["lengths", "at", "length"] ["lengths"] (defScope s_lengths_error) := ⟨rfl, rfl, rfl, by decide +kernel, rfl, by decide +kernel, by decide +kernel⟩
theorem sc_order_error : FnScope ["order", "many", "at", "block"] ["order", "many"] (defScope s_order_error) := ⟨rfl, rfl, rfl, by decide +kernel, rfl, by decide +kernel, by decide +kernel⟩
theorem sc_exchange_error : FnScope ["value", "part"] ["value"] (defScope s_exchange_error) := ⟨rfl, rfl, rfl, by decide +kernel, rfl, by decide +kernel, by decide +kernel⟩
theorem sc_count_places : FnScope ["exchange"] ["exchange"] (defScope s_count_places) := ⟨rfl, rfl, rfl, by decide +kernel, rfl, by decide +kernel, by decide +kernel⟩
def p_isint : V → V → V → Hp → VK → Prop := fun a b c H Q => ∃ i l h : Int, a = .int i ∧ b = .int l ∧ c = .int h ∧ Q (.bl (decide (l ≤ i ∧ i ≤ h))) H
abbrev sp_is_integer (K : PySem.W.Frag) : Sp := P3 p_isint
theorem ok_is_integer (T : Tx K mg) : Gd P w K mg base 1 "is_integer" ["value", "low", "high"] (sp_is_integer K) := by
  refine mkd T.F_is_integer T.g_is_integer sc_is_integer P3.ar (fun _ _ _ _ _ _ us hl => match us, hl with | [_, _, _], _ => rfl) fun cdv A outer s H vs Q E hr h => ?_
  obtain ⟨_, _, _, rfl, i, l, h, rfl, rfl, rfl, hq⟩ := h
  refine ⟨_, (pss_one (ps_ret (pe_and (pe_callB call_isi rfl T.n_isinstance (by decide +kernel) (pa_cons (pv 0) (pa_cons (pe_ty (n := "int") T.n_int (by decide +kernel)) pa_nil))) (pe_and (pe_not (pe_callB call_isi rfl T.n_isinstance (by decide +kernel) (pa_cons (pv 0) (pa_cons (pe_ty (n := "bool") T.n_bool (by decide +kernel)) pa_nil)))) (pe_one (pe_chain op_le op_le (pv 1) (pv 0) (pv 2))))))), ?_⟩
  walk_at "rd"
  refine L2.ite2 (fun z => ?_) fun z => ?_
  · walk_at "rd"
    refine cbl ?_ hq
    rw [decide_eq_true_eq] at z
    simp only [z, true_and]
  · refine cbl ?_ hq
    rw [decide_eq_true_eq] at z
    simp only [z, false_and, decide_false]
abbrev sp_is_whole (K : PySem.W.Frag) : Sp := P3 p_isint
theorem ok_is_whole (T : Tx K mg) : Gd P w K mg base 1 "is_whole" ["value", "low", "high"] (sp_is_whole K) := by
  refine mkd T.F_is_whole T.g_is_whole sc_is_whole P3.ar (fun _ _ _ _ _ _ us hl => match us, hl with | [_, _, _], _ => rfl) fun cdv A outer s H vs Q E hr h => ?_
  obtain ⟨_, _, _, rfl, i, l, h, rfl, rfl, rfl, hq⟩ := h
  refine ⟨_, (pss_one (ps_ret (pe_and (pe_callB call_isi rfl T.n_isinstance (by decide +kernel) (pa_cons (pv 0) (pa_cons (pe_ty (n := "int") T.n_int (by decide +kernel)) pa_nil))) (pe_and (pe_not (pe_callB call_isi rfl T.n_isinstance (by decide +kernel) (pa_cons (pv 0) (pa_cons (pe_ty (n := "bool") T.n_bool (by decide +kernel)) pa_nil)))) (pe_one (pe_chain op_le op_le (pv 1) (pv 0) (pv 2))))))), ?_⟩
  walk_at "rd"
  refine L2.ite2 (fun z => ?_) fun z => ?_
  · walk_at "rd"
    refine cbl ?_ hq
    rw [decide_eq_true_eq] at z
    simp only [z, true_and]
  · refine cbl ?_ hq
    rw [decide_eq_true_eq] at z
    simp only [z, false_and, decide_false]
/-! ### what is wrong with an exchange: nothing -/
abbrev sp_count_places (K : PySem.W.Frag) : Sp := P1 fun a H Q => ∃ (e l o : Addr) (ls : List Int), a = .ref e ∧ H e = some (.tup [.ref l, .ref o]) ∧ H l = some (.tup (iV ls)) ∧ Q (.int ls.sum) H
theorem ok_count_places (T : Tx K mg) : Gd P w K mg base 1 "count_places" ["exchange"] (sp_count_places K) := by
  refine mkd T.F_count_places T.g_count_places sc_count_places P1.ar (fun _ _ _ _ _ _ us hl => match us, hl with | [_], _ => rfl) fun cdv A outer s H vs Q E hr h => ?_
  obtain ⟨_, rfl, e, l, o, ls, rfl, he, hl, hq⟩ := h
  have hl' : SqT K H l (ls.map V.int) := SqT.of hl
  refine ⟨_, (pss_one (ps_ret (pe_callB (cr_sumT rfl) rfl T.n_sum (by decide +kernel) (pa_cons (pe_ix ix_tup (pv 0) pe_int (fun _ _ => rfl)) pa_nil)))), ?_⟩
  walk_at "rd"
  exact hq
abbrev sp_lengths_error (K : PySem.W.Frag) : Sp := P1 fun a H Q => ∃ (l : Addr) (ls : List Int), a = .ref l ∧ H l = some (.tup (iV ls)) ∧ 1 ≤ ls.length ∧ ls.length ≤ 6 ∧ (∀ x ∈ ls, 1 ≤ x ∧ x ≤ 1000000000000) ∧ ls.sum ≤ 1000000000000 ∧ ∀ H', Sub H H' → Q .non H'
theorem ok_lengths_error (T : Tx K mg) : Gd P w K mg base 2 "lengths_error" ["lengths"] (sp_lengths_error K) := by
  refine mkd T.F_lengths_error T.g_lengths_error sc_lengths_error P1.ar (fun _ _ _ _ _ _ us hl => match us, hl with | [_], _ => rfl) fun cdv A outer s H vs Q E hr h => ?_
  obtain ⟨_, rfl, l, ls, rfl, hl, h1, h6, hx, hs, hq⟩ := h
  refine ⟨_, (pss_cons (ps_if (pt_not (pt_chain op_le op_le pe_int (pe_callB call_len_seq rfl T.n_len (by decide +kernel) (pa_cons (pv 0) pa_nil)) (pe_gI T.i_MAX_BLOCKS))) (pss_one (ps_ret (pe_tup (pa_cons pe_non (pa_cons pe_str pa_nil))))) pss_nil)
  (pss_cons (ps_for PassesOwn.never rfl (pi_enumT rfl T.n_enumerate (pa_cons (pv 0) pa_nil)) (pg_tup rfl (pgs_cons (pg_name (i := 1) sc_lengths_error.nd rfl (by first | exact .inl rfl | exact .inr rfl)) (pgs_cons (pg_name (i := 2) sc_lengths_error.nd rfl (by first | exact .inl rfl | exact .inr rfl)) pgs_nil))) (pss_one (ps_if (pt_not (pt_val (cl (ok_is_integer T) hr (pa_cons (pv 2) (pa_cons pe_int (pa_cons (pe_gI T.i_MAX_PLACES) pa_nil)))))) (pss_one (ps_ret (pe_tup (pa_cons (pv 1) (pa_cons pe_str pa_nil))))) pss_nil)))
  (pss_one (ps_ret (pe_ifExp (pt_cmpR op_le (pe_callB (cr_sumT rfl) rfl T.n_sum (by decide +kernel) (pa_cons (pv 0) pa_nil)) (pe_gI T.i_MAX_PLACES) (nomark _)) pe_non (pe_tup (pa_cons pe_non (pa_cons pe_str pa_nil)))))))), ?_⟩
  walk_at "rd"
  refine ifT (decide_eq_true (by rw [iV_len]; omega)) ?_
  walk_at "rd"
  refine ifF (by rw [iV_len]; simp; omega) ?_
  refine ⟨_, rfl, ⟨_, _, rfl, SqT.of hl, for_it walk_enumT (fun i σ H' => Sub H H' ∧ ∃ a b, σ = [some (.ref l), a, b]) ⟨Sub.rfl', _, _, rfl⟩ (fun i σ H' _ h => SqT.of (h.1.at hl)) (fun i x σ H1 H2 hi hp hy => ?_) fun σ H1 hp => ?_⟩⟩
  · obtain ⟨s1, a, b, rfl⟩ := hp
    obtain ⟨t, x1, y1, rfl, hn, rfl, ha, hb⟩ := hy
    cases ha
    obtain ⟨y, hy, rfl⟩ := iV_inv hb
    have s2 := s1.new (o := .tup [.int (i : Nat), .int y]) hn
    refine ⟨_, _, rfl, SqT.of upd_same, rfl, ?_⟩
    walk_at "rd"
    refine ifF (by rw [decide_eq_true (hx y (List.mem_of_getElem? hy))]; decide) ?_
    exact ⟨s2, _, _, rfl⟩
  · obtain ⟨s1, a, b, rfl⟩ := hp
    walk_at "rd"
    refine ifT (decide_eq_true hs) ?_
    exact hq _ s1
abbrev sp_order_error (K : PySem.W.Frag) : Sp := P2 fun a b H Q => ∃ (l : Addr) (od : List Nat), a = .ref l ∧ b = .int (od.length : Int) ∧ H l = some (.tup (nV od)) ∧ (∀ x ∈ od, x < od.length) ∧ od.Nodup ∧ od.length ≤ 6 ∧ ∀ H', Sub H H' → Q .non H'
theorem not_in_take {od : List Nat} {i x : Nat} (nd : od.Nodup) (h : od[i]? = some x) : inV (.int (x : Int)) (nV (od.take i)) = false := by
  unfold inV
  rw [List.any_eq_false]
  intro v hv
  obtain ⟨j, hj⟩ := List.getElem?_of_mem hv
  obtain ⟨y, hy, rfl⟩ := nV_inv hj
  rw [List.getElem?_take] at hy
  split at hy
  · rename_i hlt
    simp only [eqV, beq_iff_eq]
    intro e
    have e' : y = x := by omega
    subst e'
    have hj1 := List.getElem?_eq_some_iff.mp hy
    have hi1 := List.getElem?_eq_some_iff.mp h
    obtain ⟨h1, h2⟩ := hj1
    obtain ⟨h3, h4⟩ := hi1
    have := (List.getElem_inj nd).mp (h2.trans h4.symm)
    omega
  · cases hy
theorem ok_order_error (T : Tx K mg) : Gd P w K mg base 2 "order_error" ["order", "many"] (sp_order_error K) := by
  refine mkd T.F_order_error T.g_order_error sc_order_error P2.ar (fun _ _ _ _ _ _ us hl => match us, hl with | [_, _], _ => rfl) fun cdv A outer s H vs Q E hr h => ?_
  obtain ⟨_, _, rfl, l, od, rfl, rfl, hl, hx, nd, h6, hq⟩ := h
  refine ⟨_, (pss_cons (ps_if (pt_cmpR op_ne (pe_callB call_len_seq rfl T.n_len (by decide +kernel) (pa_cons (pv 0) pa_nil)) (pv 1) (nomark _)) (pss_one (ps_ret (pe_tup (pa_cons pe_non (pa_cons pe_str pa_nil))))) pss_nil)
  (pss_cons (ps_for PassesOwn.never rfl (pi_enumT rfl T.n_enumerate (pa_cons (pv 0) pa_nil)) (pg_tup rfl (pgs_cons (pg_name (i := 2) sc_order_error.nd rfl (by first | exact .inl rfl | exact .inr rfl)) (pgs_cons (pg_name (i := 3) sc_order_error.nd rfl (by first | exact .inl rfl | exact .inr rfl)) pgs_nil))) (pss_one (ps_if (PW.pt (pw_or (pt_not (pt_val (cl (ok_is_integer T) hr (pa_cons (pv 3) (pa_cons pe_int (pa_cons (pe_op op_sub (pv 1) pe_int) pa_nil)))))) (pw_or1 (pt_cmpR op_in_seq (pv 3) (pe_slice sl_tupA (pv 0) po_none (po_some (pv 2))) rfl)))) (pss_one (ps_ret (pe_tup (pa_cons (pv 2) (pa_cons pe_str pa_nil))))) pss_nil)))
  (pss_one (ps_ret pe_non)))), ?_⟩
  walk_at "rd"
  refine ifF (by rw [nV_len]; simp) ?_
  refine ⟨_, rfl, ⟨_, _, rfl, SqT.of hl, for_it walk_enumT (fun i σ H' => Sub H H' ∧ ∃ a b, σ = [some (.ref l), some (.int (od.length : Int)), a, b]) ⟨Sub.rfl', _, _, rfl⟩ (fun i σ H' _ h => SqT.of (h.1.at hl)) (fun i x σ H1 H2 hi hp hy => ?_) fun σ H1 hp => ?_⟩⟩
  · obtain ⟨s1, a, b, rfl⟩ := hp
    obtain ⟨t, x1, y1, rfl, hn, rfl, ha, hb⟩ := hy
    cases ha
    obtain ⟨y, hy, rfl⟩ := nV_inv hb
    have s2 := s1.new (o := .tup [.int (i : Nat), .int (y : Int)]) hn
    have hly := hx y (List.mem_of_getElem? hy)
    refine ⟨_, _, rfl, SqT.of upd_same, rfl, ?_⟩
    walk_at "rd"
    refine ifF (by rw [decide_eq_true (show (0 : Int) ≤ (y : Int) ∧ (y : Int) ≤ (od.length : Int) - 1 by omega)]; decide) ?_
    refine ⟨_, rfl, _, rfl, _, rfl, _, rfl, l, nV od, rfl, SqT.of (s2.at hl), fun z => ?_, fun _ p np => ?_⟩
    · have := z.2
      rw [HT.sIx_nat, nV_len] at this
      rw [nV_len] at hi
      omega
    · rw [cut_to, nV_take]
      refine ⟨p, nV (od.take i), rfl, .inr (SqT.of upd_same), rfl, nV_flat _, ?_⟩
      have e1 : inV (.int (y : Int)) (nV (od.take i)) = false := not_in_take nd hy
      refine ⟨_, rfl, ifF (by rw [e1]; decide) ?_⟩
      exact ⟨s2.new np, _, _, rfl⟩
  · obtain ⟨s1, a, b, rfl⟩ := hp
    exact hq _ s1
abbrev ExT (H : Hp) (e : Addr) (ls : List Int) (od : List Nat) : Prop := ∃ l o, H e = some (.tup [.ref l, .ref o]) ∧ H l = some (.tup (iV ls)) ∧ H o = some (.tup (nV od))
theorem ExT.sub {H H' : Hp} {e : Addr} {ls : List Int} {od : List Nat} (h : ExT H e ls od) (s : Sub H H') : ExT H' e ls od := let ⟨l, o, a, b, c⟩ := h; ⟨l, o, s.at a, s.at b, s.at c⟩
/-- a fit exchange -/
structure ExOk (ls : List Int) (od : List Nat) : Prop where
  ex : Ex ls od
  len : ls.length ≤ 6
  one : 1 ≤ ls.length
  le : ls.sum ≤ 1000000000000
theorem ExOk.lenO {ls od} (h : ExOk ls od) : od.length = ls.length := by have := h.ex.perm.length_eq; rw [List.length_range] at this; exact this.symm
theorem ExOk.pos {ls od} (h : ExOk ls od) : ∀ x ∈ ls, 1 ≤ x := fun x hx => by
  obtain ⟨i, hi⟩ := List.getElem?_of_mem hx
  have := h.ex.pos i (List.getElem?_eq_some_iff.mp hi).1
  unfold exL at this
  rw [List.getD_eq_getElem?_getD, hi] at this
  exact this
theorem sum_le_of : ∀ (ls : List Int) (x : Int), (∀ y ∈ ls, 1 ≤ y) → x ∈ ls → x ≤ ls.sum
  | [], x, _, h => by simp at h
  | a :: r, x, hp, h => by
    have h0 : ∀ (r : List Int), (∀ y ∈ r, 1 ≤ y) → 0 ≤ r.sum := by
      intro r
      induction r with
      | nil => intro _; decide
      | cons b t ih => intro h; rw [List.sum_cons]; have := h b List.mem_cons_self; have := ih fun y hy => h y (List.mem_cons_of_mem _ hy); omega
    rw [List.sum_cons]
    have h1 := hp a List.mem_cons_self
    have h2 := h0 r fun y hy => hp y (List.mem_cons_of_mem _ hy)
    rcases List.mem_cons.mp h with e | e
    · omega
    · have := sum_le_of r x (fun y hy => hp y (List.mem_cons_of_mem _ hy)) e
      omega
theorem ExOk.nd {ls od} (h : ExOk ls od) : od.Nodup := h.ex.perm.nodup_iff.mp List.nodup_range
theorem ExOk.lt {ls od} (h : ExOk ls od) : ∀ x ∈ od, x < od.length := fun x hx => by rw [h.lenO]; exact List.mem_range.mp (h.ex.perm.mem_iff.mpr hx)
abbrev sp_exchange_error (K : PySem.W.Frag) : Sp := P1 fun a H Q => ∃ (e : Addr) (ls : List Int) (od : List Nat), a = .ref e ∧ ExT H e ls od ∧ ExOk ls od ∧ ∀ H', Sub H H' → Q .non H'
theorem ok_exchange_error (T : Tx K mg) : Gd P w K mg base 3 "exchange_error" ["value"] (sp_exchange_error K) := by
  refine mkd T.F_exchange_error T.g_exchange_error sc_exchange_error P1.ar (fun _ _ _ _ _ _ us hl => match us, hl with | [_], _ => rfl) fun cdv A outer s H vs Q E hr h => ?_
  obtain ⟨_, rfl, e, ls, od, rfl, ⟨l, o, he, hl, ho⟩, ok, hq⟩ := h
  refine ⟨_, (pss_cons (ps_if (PW.pt (pw_or (pt_not (pt_val (pe_callB call_isi rfl T.n_isinstance (by decide +kernel) (pa_cons (pv 0) (pa_cons (pe_ty (n := "tuple") T.n_tuple (by decide +kernel)) pa_nil))))) (pw_or (pt_cmpR op_ne (pe_callB call_len_seq rfl T.n_len (by decide +kernel) (pa_cons (pv 0) pa_nil)) pe_int (nomark _)) (pw_or1 (pt_not (pt_val (pe_callB (cr_all rfl) rfl T.n_all (by decide +kernel) (pa_cons (pe_lc (own := [("part", 1)]) (g := (gName 1)) (tt := tYes) (te := (tCB (rIsi K) (tCons (tVar 1) (tCons (tC (.ty "tuple")) tNil)))) rfl sc_exchange_error.nd (pi_tup (pv 0)) (blkOk_by (N := ["value", "part"]) (sc := defScope s_exchange_error) (by decide +kernel)) (fun _ _ _ _ _ => (pg_name (i := 1) sc_exchange_error.nd rfl (by first | exact .inl rfl | exact .inr rfl))) (fun _ _ _ _ _ => pts_nil) (fun _ _ _ _ _ => (pe_callB call_isi rfl T.n_isinstance (by decide +kernel) (pa_cons (pv 1) (pa_cons (pe_ty (n := "tuple") T.n_tuple (by decide +kernel)) pa_nil))))) pa_nil)))))))) (pss_one (ps_ret (pe_tup (pa_cons pe_non (pa_cons pe_str pa_nil))))) pss_nil)
  (pss_one (ps_ret (pe_orT (cl (ok_lengths_error T) hr (pa_cons (pe_ix ix_tup (pv 0) pe_int (fun _ _ => rfl)) pa_nil)) (pe_one (cl (ok_order_error T) hr (pa_cons (pe_ix ix_tup (pv 0) pe_int (fun _ _ => rfl)) (pa_cons (pe_callB call_len_seq rfl T.n_len (by decide +kernel) (pa_cons (pe_ix ix_tup (pv 0) pe_int (fun _ _ => rfl)) pa_nil)) pa_nil)))))))), ?_⟩
  walk_at "rd"
  refine ⟨⟨_, SqT.of he⟩, fun D hD => lc_val (walk_tup (xs := [.ref l, .ref o])) hD (by show 2 < 100000; decide) [.bl true, .bl true] rfl (fun H1 s1 => SqT.of (s1.at he)) (fun i x H1 H2 hi s1 hy Q' Nx hq' => ?_) fun H1 s1 h1 => ?_⟩
  · obtain ⟨rfl, hx⟩ := hy
    have hx2 : ∃ q ys, x = .ref q ∧ H2 q = some (.tup ys) ∧ [V.bl true, V.bl true][i]? = some (.bl true) := by
      match i, hi, hx with
      | 0, _, hx => cases hx; exact ⟨_, _, rfl, s1.at hl, rfl⟩
      | 1, _, hx => cases hx; exact ⟨_, _, rfl, s1.at ho, rfl⟩
    obtain ⟨q, ys, rfl, hq2, e⟩ := hx2
    walk_at "rd"
    exact hq' _ _ Sub.rfl' e
  · refine ⟨D, [true, true], rfl, SqL.of h1, _, rfl, ?_⟩
    refine ifF (by decide) ?_
    refine ⟨_, rfl, _, _, _, _, rfl, rfl, SqT.of (s1.at he), rfl, ?_⟩
    refine ⟨_, rfl, l, ls, rfl, s1.at hl, ok.one, ok.len, fun x hx => ⟨ok.pos x hx, Int.le_trans (sum_le_of ls x ok.pos hx) ok.le⟩, ok.le, fun H2 s2 => ?_⟩
    refine ⟨false, rfl, ifF (by decide) ?_⟩
    have s3 := s1.tr s2
    refine ⟨_, rfl, _, _, _, _, rfl, rfl, SqT.of (s3.at he), rfl, ?_⟩
    refine ⟨_, rfl, _, _, _, _, rfl, rfl, SqT.of (s3.at he), rfl, l, _, rfl, .inr (SqT.of (s3.at hl)), ?_⟩
    refine ⟨_, _, rfl, o, od, rfl, by rw [iV_len, ok.lenO], s3.at ho, ok.lt, ok.nd, by rw [ok.lenO]; exact ok.len, fun H3 s4 => ?_⟩
    exact hq _ (s3.tr s4)
end
end Bt
end
section
set_option Elab.async false
set_option linter.all false
set_option maxRecDepth 100000
set_option maxHeartbeats 2000000
set_option autoImplicit false
namespace Bt
open PySem PySem.Spec PyProof.Rows L2 Rz
section
variable {P : Program} {w : World} {K : PySem.W.Frag} {mg : PySem.Str → Option Value} {base : Heap}
local macro_rules | `(tactic| walk_at "sd") => `(tactic| first
  | rfl | assumption
  | exact Sub.at ‹Sub _ _› (by assumption)
  | exact SqL.of (by assumption) | exact SqT.of (by assumption) | exact SqL.of (Sub.at ‹Sub _ _› (by assumption)) | exact SqT.of (Sub.at ‹Sub _ _› (by assumption))
  | exact Or.inl (SqL.of (by assumption)) | exact Or.inr (SqT.of (by assumption)) | exact Or.inl (SqL.of (Sub.at ‹Sub _ _› (by assumption))) | exact Or.inr (SqT.of (Sub.at ‹Sub _ _› (by assumption)))
  | exact ClsV.ty _ | exact TyX.base (.int _) | exact TyX.base (.str _) | exact TyX.base (.tup (by assumption)) | exact kit_int | exact kit_ib | exact kit_ss | exact kit_tt)
local macro_rules | `(tactic| walk_at "rd1") => `(tactic| first
  | (apply Exists.intro)
  | (refine And.intro ?_ ?_; (focus (walk_at "sd")))
  | (refine L2.iteT ?_)
  | (refine L2.iteF ?_))
local macro_rules | `(tactic| walk_at "rd") => `(tactic| repeat (walk_at "rd1"))

/-! ### a stage -/
def p3 (H : Hp) (a : Addr) (z : Int × Int × Nat) : Prop := H a = some (.tup [.int z.1, .int z.2.1, .int (z.2.2 : Int)])
def StgAt (K : PySem.W.Frag) (H : Hp) (g : Addr) (s : Stg) : Prop := ∃ (dx pp : Addr) (ps : List Addr),
  H g = some (.ins (cS K) dx [("end", .int s.fin), ("stop", .int s.stop), ("total", .int s.total), ("size", .int (s.size : Int)), ("pieces", .ref pp)]) ∧ H pp = some (.tup (rV ps)) ∧ A2 (p3 H) ps s.pieces ∧ ps.length ≤ 1000
theorem sc_Stage_init : FnScope ["self", "end", "stop", "total", "size", "pieces"] ["self", "end", "stop", "total", "size", "pieces"] (defScope s_Stage_init) := ⟨rfl, rfl, rfl, by decide +kernel, rfl, by decide +kernel, by decide +kernel⟩
theorem sc_Stage_entered : FnScope ["self", "place", "many", "begin", "shift", "size", "piece"] ["self", "place"] (defScope s_Stage_entered) := ⟨rfl, rfl, rfl, by decide +kernel, rfl, by decide +kernel, by decide +kernel⟩
abbrev sp_Stage_init (K : PySem.W.Frag) : Sp := P6 fun a e st t sz ps H Q => ∃ x dx, a = .ref x ∧ H x = some (.ins (cS K) dx []) ∧ ∀ H', Sub (msk [x] H) H' → H' x = some (.ins (cS K) dx [("end", e), ("stop", st), ("total", t), ("size", sz), ("pieces", ps)]) → Q .non H'
theorem putF_miss {f : PySem.Str} {v : V} {fs : List (PySem.Str × V)} (h : fs.lookup f = none) : putF f v fs = fs ++ [(f, v)] := by
  induction fs with
  | nil => rfl
  | cons p r ih =>
    obtain ⟨g, x⟩ := p
    unfold putF
    rw [List.lookup_cons] at h
    by_cases e : f = g
    · subst e; simp at h
    · have e1 : (f == g) = false := by simp [e]
      rw [e1] at h
      rw [if_neg (fun z => e z.symm), ih h]; rfl
theorem ok_Stage_init (T : Tx K mg) : Gi P w K mg base 1 "Stage" (cS K) ["self", "end", "stop", "total", "size", "pieces"] (sp_Stage_init K) := by
  refine mki T.F_Stage_init T.k_Stage T.g_Stage sc_Stage_init P6.ar (fun _ _ _ _ _ _ us hl => match us, hl with | [_, _, _, _, _, _], _ => rfl) fun cdv A outer s H vs Q E hr h => ?_
  obtain ⟨_, e, st, t, sz, ps, rfl, x, dx, rfl, hx, hq⟩ := h
  refine ⟨_, (pss_cons (ps_fld (pv 0) (pv 1) rfl)
  (pss_cons (ps_fld (pv 0) (pv 2) rfl)
  (pss_cons (ps_fld (pv 0) (pv 3) rfl)
  (pss_cons (ps_fld (pv 0) (pv 4) rfl)
  (pss_one (ps_fld (pv 0) (pv 5) rfl)))))), ?_⟩
  refine ⟨_, rfl, _, rfl, x, _, _, _, rfl, hx, T.c_Stage, T.a_Stage_end, by show 0 < 1000; decide, ?_⟩
  refine ⟨_, rfl, _, rfl, x, _, _, _, rfl, upd_same, T.c_Stage, T.a_Stage_stop, by show 1 < 1000; decide, ?_⟩
  refine ⟨_, rfl, _, rfl, x, _, _, _, rfl, upd_same, T.c_Stage, T.a_Stage_total, by show 2 < 1000; decide, ?_⟩
  refine ⟨_, rfl, _, rfl, x, _, _, _, rfl, upd_same, T.c_Stage, T.a_Stage_size, by show 3 < 1000; decide, ?_⟩
  refine ⟨_, rfl, _, rfl, x, _, _, _, rfl, upd_same, T.c_Stage, T.a_Stage_pieces, by show 4 < 1000; decide, ?_⟩
  refine hq _ (fun a o h => ?_) upd_same
  unfold msk at h
  split at h
  · cases h
  · rename_i n
    have n' : a ≠ x := by simpa using n
    rw [upd_ne n', upd_ne n', upd_ne n', upd_ne n', upd_ne n']
    exact h
abbrev sp_Stage_entered (K : PySem.W.Frag) : Sp := P2 fun a b H Q => ∃ (g : Addr) (s : Stg) (p : Int), a = .ref g ∧ b = .int p ∧ StgAt K H g s ∧ Fit s p ∧
  ∀ r H', Sub H H' → H' r = some (.tup [.int (s.entered p).1, .int ((s.entered p).2 : Int)]) → Q (.ref r) H'
theorem dpa_p3 {K : PySem.W.Frag} {H : Hp} : ∀ (ps : List Addr) (zs : List (Int × Int × Nat)), A2 (p3 H) ps zs → DpAll K H (rV ps) (zs.map fun z => PyData.tuple ([z.1, z.2.1, (z.2.2 : Int)].map PyData.int))
  | [], [], _ => .nil
  | [], _ :: _, h => absurd h.len (by simp)
  | _ :: _, [], h => absurd h.len (by simp)
  | a :: r, z :: t, h => .cons (dp_i3 (h.at_ 0 a z rfl rfl)) (dpa_p3 r t ⟨by simpa using h.len, fun i x y hx hy => h.at_ (i + 1) x y (by simpa using hx) (by simpa using hy)⟩)
theorem sh_p3 (zs : List (Int × Int × Nat)) : SeqAt.shaped (.tuple (zs.map fun z => PyData.tuple ([z.1, z.2.1, (z.2.2 : Int)].map PyData.int))) = true := by
  have h1 : PyData.canLayAll0 (zs.map fun z => PyData.tuple ([z.1, z.2.1, (z.2.2 : Int)].map PyData.int)) = true := by
    induction zs with
    | nil => simp [PyData.canLayAll0]
    | cons z r ih => rw [List.map_cons, PyData.canLayAll0, ih, PyData.canLay0, cla_ints]; rfl
  have h2 : PyData.depthAll (zs.map fun z => PyData.tuple ([z.1, z.2.1, (z.2.2 : Int)].map PyData.int)) ≤ 1 := by
    induction zs with
    | nil => simp [PyData.depthAll]
    | cons z r ih => 
      rw [List.map_cons, PyData.depthAll, PyData.depth, dpt_ints]
      simp only [List.map_cons, PyData.canLayAll0, Bool.and_eq_true] at h1
      have := ih h1.2
      omega
  unfold SeqAt.shaped
  rw [PyData.canLay0, h1, PyData.depth]
  simp only [Bool.true_and, decide_eq_true_eq]
  omega
theorem ok_Stage_entered (T : Tx K mg) : Gm P w K mg base 1 (cS K) "entered" ["self", "place"] [] (sp_Stage_entered K) := by
  refine mkm T.F_Stage_entered T.c_Stage T.m_Stage_entered sc_Stage_entered P2.ar (fun _ _ _ _ _ _ us hl => match us, hl with | [_, _], _ => rfl) fun cdv A outer s H vs Q E hr h => ?_
  obtain ⟨_, _, rfl, g, st, p, rfl, rfl, hS, hf, hq⟩ := h
  obtain ⟨dx, pp, ps, hg, hpp, hps, hpl0⟩ := id hS
  have aE := T.a_Stage_end
  have aP := T.a_Stage_stop
  have aT := T.a_Stage_total
  have aZ := T.a_Stage_size
  have aQ := T.a_Stage_pieces
  have cS' := T.c_Stage
  refine ⟨_, (pss_cons (ps_if (pt_cmpR op_lt (pv 1) (pe_fld (pv 0) rfl) (nomark _)) (pss_one (ps_ret (pe_tup (pa_cons (pv 1) (pa_cons pe_int pa_nil))))) pss_nil)
  (pss_cons (ps_if (pt_cmpR (op_eqD hr.units) (pe_fld (pv 0) rfl) (pe_tup pa_nil) (nomark _)) (pss_cons (ps_set (i := 2) sc_Stage_entered.nd rfl (by first | exact .inl rfl | exact .inr rfl) (pe_op op_add (pe_op op_fdivW (pe_op op_sub (pv 1) (pe_fld (pv 0) rfl)) (pe_fld (pv 0) rfl)) pe_int))
  (pss_one (ps_ret (pe_tup (pa_cons (pe_op op_sub (pv 1) (pe_op op_mul (pv 2) (pe_fld (pv 0) rfl))) (pa_cons (pe_op op_mul (pv 2) (pe_fld (pv 0) rfl)) pa_nil)))))) pss_nil)
  (pss_cons (ps_set (i := 2) sc_Stage_entered.nd rfl (by first | exact .inl rfl | exact .inr rfl) (pe_op op_fdivW (pe_op op_sub (pe_op op_sub (pe_fld (pv 0) rfl) pe_int) (pv 1)) (pe_fld (pv 0) rfl)))
  (pss_cons (ps_aug (i := 1) sc_Stage_entered.nd rfl (by first | exact .inl rfl | exact .inr rfl) (pe_op op_mul (pv 2) (pe_fld (pv 0) rfl)) ip_add)
  (pss_cons (ps_asg (pe_ix ix_list (pe_lc (own := [("piece", 6)]) (g := (gName 6)) (tt := (tTest (tOp (rI0 fun i j => .bl (decide (i ≤ j))) (tOp (rIxT K) (tVar 6) (tC (.int 0))) (tVar 1)))) (te := (tVar 6)) rfl sc_Stage_entered.nd (pi_tup (pe_fld (pv 0) rfl)) (blkOk_by (N := ["self", "place", "many", "begin", "shift", "size", "piece"]) (sc := defScope s_Stage_entered) (by decide +kernel)) (fun _ _ _ _ _ => (pg_name (i := 6) sc_Stage_entered.nd rfl (by first | exact .inl rfl | exact .inr rfl))) (fun _ _ _ _ _ => (pts_one (pt_cmpR op_le (pe_ix ix_tup (pv 6) pe_int (fun _ _ => rfl)) (pv 1) (nomark _)))) (fun _ _ _ _ _ => (pv 6))) (pe_un un_neg pe_int) (fun _ _ => rfl)) (pg_tup rfl (pgs_cons (pg_name (i := 3) sc_Stage_entered.nd rfl (by first | exact .inl rfl | exact .inr rfl)) (pgs_cons (pg_name (i := 4) sc_Stage_entered.nd rfl (by first | exact .inl rfl | exact .inr rfl)) (pgs_cons (pg_name (i := 5) sc_Stage_entered.nd rfl (by first | exact .inl rfl | exact .inr rfl)) pgs_nil)))))
  (pss_one (ps_ret (pe_tup (pa_cons (pe_op op_add (pv 1) (pv 4)) (pa_cons (pe_op op_add (pe_op op_mul (pv 2) (pe_fld (pv 0) rfl)) (pv 5)) pa_nil)))))))))), ?_⟩
  walk_at "rd"
  refine L2.ite2 (fun z => ?_) fun z => ?_
  · rw [decide_eq_true_eq] at z
    have e1 : st.entered p = (p, 0) := if_pos z
    rw [e1] at hq
    walk_at "rd"
    refine ⟨by show 2 ≤ sizeLine; decide, fun r nr => ?_⟩
    exact hq r _ (Sub.rfl'.new nr) upd_same
  · rw [decide_eq_true_eq] at z
    walk_at "rd"
    refine ⟨by show 0 ≤ sizeLine; decide, fun q nq => ?_⟩
    have s1 : Sub H (upd H q (.tup [])) := Sub.rfl'.new nq
    have hps1 : A2 (p3 (upd H q (.tup []))) ps st.pieces := hps.mono fun x y h => s1.at h
    refine ⟨_, _, .tup (SqT.of (s1.at hpp)) (dpa_p3 ps _ hps1), dp_eT upd_same, sh_p3 _, sh_eT, _, rfl, ?_⟩
    rw [eq_T0]
    have hf2 : 1 ≤ st.total ∧ st.total ≤ 1000000000000 ∧ 0 ≤ p - st.stop ∧ p - st.stop ≤ 1000000000000 ∧ 0 ≤ st.fin - 1 - p ∧ st.fin - 1 - p ≤ 1000000000000 ∧
      (st.pieces ≠ [] → ∃ z, lastLe (p + (st.fin - 1 - p) / st.total * st.total) st.pieces = some z) := hf.resolve_left z
    obtain ⟨t1, t2, p1, p2, f1, f2, hl⟩ := hf2
    have cd1 : CDivW (p - st.stop) st.total := cdiv12 t1 t2
    have cd2 : CDivW (st.fin - 1 - p) st.total := cdiv12 t1 t2
    have m0 : 0 ≤ (p - st.stop) / st.total := Int.ediv_nonneg p1 (by omega)
    have m1 : (p - st.stop) / st.total ≤ p - st.stop := Int.ediv_le_self _ p1
    have k0 : 0 ≤ (st.fin - 1 - p) / st.total := Int.ediv_nonneg f1 (by omega)
    have k1 : (st.fin - 1 - p) / st.total ≤ st.fin - 1 - p := Int.ediv_le_self _ f1
    by_cases hp : st.pieces = []
    · have e1 : st.entered p = (p - ((p - st.stop) / st.total + 1) * st.total, ((p - st.stop) / st.total + 1).toNat * st.size) := by
        unfold Stg.entered; rw [if_neg z, if_pos hp]
      rw [e1] at hq
      refine ifT (by rw [hp]; rfl) ?_
      have c1 : ∀ j, CMul ((p - st.stop) / st.total + 1) j := fun j => cmulL (by omega) (by omega)
      have c2 := c1 st.total
      have c3 := c1 (st.size : Int)
      walk_at "rd"
      refine ⟨by show 2 ≤ sizeLine; decide, fun r nr => ?_⟩
      refine hq r _ (s1.new nr) ?_
      rw [upd_same]
      have e2 : ((((p - st.stop) / st.total + 1).toNat * st.size : Nat) : Int) = ((p - st.stop) / st.total + 1) * (st.size : Int) := by
        rw [Int.natCast_mul, Int.toNat_of_nonneg (by omega)]
      dsimp only
      rw [e2]
    · obtain ⟨zz, hz⟩ := hl hp
      have e1 : st.entered p = (p + (st.fin - 1 - p) / st.total * st.total + zz.2.1, ((st.fin - 1 - p) / st.total).toNat * st.size + zz.2.2) := by
        unfold Stg.entered; rw [if_neg z, if_neg hp]; dsimp only; rw [hz]; rfl
      rw [e1] at hq
      refine ifF (by cases h : st.pieces with
        | nil => exact absurd h hp
        | cons x r => simp) ?_
      have c1 : ∀ j, CMul ((st.fin - 1 - p) / st.total) j := fun j => cmulL (by omega) (by omega)
      have c2 := c1 st.total
      have c3 := c1 (st.size : Int)
      walk_at "rd"
      generalize hpl : p + (st.fin - 1 - p) / st.total * st.total = pl at hz hq
      generalize hH : upd H q (.tup []) = H0 at s1 hps1
      refine ⟨⟨_, SqT.of (s1.at hpp)⟩, fun D hD => lc_it (walk_tup (xs := rV ps)) (fun i H' => Sub H0 H' ∧ ∃ acc : List Addr, H' D = some (.lst (rV acc)) ∧ acc.length ≤ i ∧ A2 (p3 H0) acc ((st.pieces.take i).filter fun x => decide (x.1 ≤ pl)))
        ⟨Sub.rfl'.new hD, [], upd_same, Nat.le_refl _, A2.nil⟩ (fun i H1 _ h => SqT.of ((s1.tr h.1).at hpp)) (fun i x H1 H2 hi h hy => ?_) fun H1 h => ?_⟩
      · obtain ⟨s2, acc, ha, hl', hA⟩ := h
        obtain ⟨rfl, hx⟩ := hy
        obtain ⟨a, hxa, rfl⟩ := rV_inv hx
        obtain ⟨y, hy, hp3⟩ := hps1.get' hxa
        have hp4 := s2.at hp3
        have ef : (st.pieces.take (i + 1)) = st.pieces.take i ++ [y] := by rw [List.take_add_one, hy]; rfl
        walk_at "rd"
        refine L2.ite2 (fun c => ?_) fun c => ?_
        · have c' : y.1 ≤ pl := by rw [← hpl]; exact of_decide_eq_true c
          refine ⟨_, rfl, rV acc, ha, szlt (by rw [rV_len]; rw [rV_len] at hi; omega), s2.upd hD, acc ++ [a], by rw [upd_same, rV_snoc], by rw [List.length_append]; exact Nat.succ_le_succ hl', ?_⟩
          rw [ef, List.filter_append, List.filter_cons, if_pos (decide_eq_true c')]
          exact hA.snoc hp3
        · have c' : ¬ y.1 ≤ pl := fun h => c (decide_eq_true (by rw [← hpl] at h; exact h))
          refine ⟨s2, acc, ha, by omega, ?_⟩
          rw [ef, List.filter_append, List.filter_cons, if_neg (by simpa using c')]
          simpa using hA
      · obtain ⟨s2, acc, ha, hl', hA⟩ := h
        have hfull : st.pieces.take (rV ps).length = st.pieces := by rw [rV_len, hps.len]; exact List.take_length
        rw [hfull] at hA
        obtain ⟨r0, hr0⟩ : ∃ r, (st.pieces.filter fun x => decide (x.1 ≤ pl)) = r ++ [zz] := List.getLast?_eq_some_iff.mp hz
        have hgl : ∃ a, acc.getLast? = some a ∧ p3 H0 a zz := by
          rw [hr0] at hA
          obtain ⟨a, ha1, ha2⟩ := hA.get (i := r0.length) (y := zz) (by simp)
          refine ⟨a, ?_, ha2⟩
          have hln := hA.len
          rw [List.length_append, List.length_singleton] at hln
          rw [List.getLast?_eq_getElem?, hln, Nat.add_sub_cancel]
          exact ha1
        obtain ⟨a, ha1, ha2⟩ := hgl
        have hla : (rV acc).getLast? = some (.ref a) := by unfold rV; rw [List.getLast?_map, ha1]; rfl
        have ha3 := s2.at ha2
        refine ⟨_, rfl, D, rV acc, _, _, rfl, rfl, SqL.of ha, at_neg hla, ?_⟩
        refine ⟨a, _, rfl, SqT.of ha3, rfl, ?_⟩
        have s3 : Sub H H1 := s1.tr s2
        walk_at "rd"
        refine ⟨by show 2 ≤ sizeLine; decide, fun r nr => ?_⟩
        refine hq r _ (s3.new nr) ?_
        rw [upd_same]
        have e2 : ((((st.fin - 1 - p) / st.total).toNat * st.size + zz.2.2 : Nat) : Int) = (st.fin - 1 - p) / st.total * (st.size : Int) + (zz.2.2 : Int) := by
          rw [Int.natCast_add, Int.natCast_mul, Int.toNat_of_nonneg (by omega)]
        dsimp only
        rw [e2, hpl]
end
end Bt
end
section
set_option Elab.async false
set_option linter.all false
set_option maxRecDepth 100000
set_option maxHeartbeats 2000000
set_option autoImplicit false
namespace Bt
open PySem PySem.Spec PyProof.Rows L2 Rz
/-! ### a turning: its places, its lists -/
structure TA where
  t : Addr
  dx : Addr
  n : Addr
  z : Addr
  d : Addr
  r : Addr
  f : Addr
  l : Addr
  u : Addr
  w : Addr
  a : Addr
structure Raw where
  n : List V
  z : List V
  d : List V
  r : List V
  f : List V
  l : List V
  u : List V
  w : List V
  a : List V
  fin : Int
def TA.tl (A : TA) (b : Bool) : List (PySem.Str × V) := if b = true then [("tales", .ref A.a)] else []
def TA.fs (A : TA) (fin : Int) (b : Bool) : List (PySem.Str × V) := ("nodes", .ref A.n) :: ("sizes", .ref A.z) :: ("drifts", .ref A.d) :: ("records", .ref A.r) :: ("found", .ref A.f) :: ("left", .ref A.l) :: ("upper", .ref A.u) :: ("lower", .ref A.w) :: ("end", .int fin) :: A.tl b
def TA.fp (A : TA) (b : Bool) : List Addr := A.t :: A.n :: A.z :: A.d :: A.r :: A.f :: A.l :: A.u :: A.w :: (if b = true then [A.a] else [])
theorem TA.put_end (A : TA) (x y : Int) (b : Bool) : putF "end" (.int y) (A.fs x b) = A.fs y b := by cases b <;> rfl
theorem TA.fs_len (A : TA) (x : Int) (b : Bool) : (A.fs x b).length < 1000 := by
  cases b
  · show 9 < 1000; decide
  · show 10 < 1000; decide
structure TRaw (K : PySem.W.Frag) (H : Hp) (A : TA) (R : Raw) (b : Bool) : Prop where
  ins : H A.t = some (.ins (cT K) A.dx (A.fs R.fin b))
  n : H A.n = some (.lst R.n)
  z : H A.z = some (.lst R.z)
  d : H A.d = some (.lst R.d)
  r : H A.r = some (.lst R.r)
  f : H A.f = some (.lst R.f)
  l : H A.l = some (.lst R.l)
  u : H A.u = some (.lst R.u)
  w : H A.w = some (.lst R.w)
  a : b = true → H A.a = some (.lst R.a)
  nd : (A.fp b).Nodup
section
variable {K : PySem.W.Frag} {H H' : Hp} {A : TA} {R : Raw} {b : Bool}
theorem TRaw.ne (h : TRaw K H A R b) {i j : Nat} {x y : Addr} (hi : (A.fp b)[i]? = some x) (hj : (A.fp b)[j]? = some y) (hij : i ≠ j) : x ≠ y := by
  rintro rfl
  obtain ⟨h1, e1⟩ := List.getElem?_eq_some_iff.mp hi
  obtain ⟨h2, e2⟩ := List.getElem?_eq_some_iff.mp hj
  exact hij ((List.getElem_inj h.nd).mp (e1.trans e2.symm))
theorem TRaw.neA (h : TRaw K H A R b) (hb : b = true) {i : Nat} {x : Addr} (hi : (A.fp b)[i]? = some x) (hij : i < 9) : x ≠ A.a := by
  subst hb
  exact h.ne hi (j := 9) rfl (Nat.ne_of_lt hij)
theorem TRaw.sub (h : TRaw K H A R b) (s : Sub H H') : TRaw K H' A R b :=
  ⟨s.at h.ins, s.at h.n, s.at h.z, s.at h.d, s.at h.r, s.at h.f, s.at h.l, s.at h.u, s.at h.w, fun e => s.at (h.a e), h.nd⟩
theorem TRaw.new (h : TRaw K H A R b) {p : Addr} {o : HO} (np : H p = none) : TRaw K (upd H p o) A R b := h.sub (Sub.rfl'.new np)
theorem TRaw.set_n (h : TRaw K H A R b) (xs : List V) : TRaw K (upd H A.n (.lst xs)) A { R with n := xs } b :=
  ⟨by rw [upd_ne (h.ne (i := 0) (j := 1) rfl rfl (by decide))]; exact h.ins, upd_same, by rw [upd_ne (h.ne (i := 2) (j := 1) rfl rfl (by decide))]; exact h.z, by rw [upd_ne (h.ne (i := 3) (j := 1) rfl rfl (by decide))]; exact h.d, by rw [upd_ne (h.ne (i := 4) (j := 1) rfl rfl (by decide))]; exact h.r, by rw [upd_ne (h.ne (i := 5) (j := 1) rfl rfl (by decide))]; exact h.f, by rw [upd_ne (h.ne (i := 6) (j := 1) rfl rfl (by decide))]; exact h.l, by rw [upd_ne (h.ne (i := 7) (j := 1) rfl rfl (by decide))]; exact h.u, by rw [upd_ne (h.ne (i := 8) (j := 1) rfl rfl (by decide))]; exact h.w, fun e => by rw [upd_ne (h.neA e (i := 1) rfl (by decide)).symm]; exact h.a e, h.nd⟩
theorem TRaw.set_z (h : TRaw K H A R b) (xs : List V) : TRaw K (upd H A.z (.lst xs)) A { R with z := xs } b :=
  ⟨by rw [upd_ne (h.ne (i := 0) (j := 2) rfl rfl (by decide))]; exact h.ins, by rw [upd_ne (h.ne (i := 1) (j := 2) rfl rfl (by decide))]; exact h.n, upd_same, by rw [upd_ne (h.ne (i := 3) (j := 2) rfl rfl (by decide))]; exact h.d, by rw [upd_ne (h.ne (i := 4) (j := 2) rfl rfl (by decide))]; exact h.r, by rw [upd_ne (h.ne (i := 5) (j := 2) rfl rfl (by decide))]; exact h.f, by rw [upd_ne (h.ne (i := 6) (j := 2) rfl rfl (by decide))]; exact h.l, by rw [upd_ne (h.ne (i := 7) (j := 2) rfl rfl (by decide))]; exact h.u, by rw [upd_ne (h.ne (i := 8) (j := 2) rfl rfl (by decide))]; exact h.w, fun e => by rw [upd_ne (h.neA e (i := 2) rfl (by decide)).symm]; exact h.a e, h.nd⟩
theorem TRaw.set_d (h : TRaw K H A R b) (xs : List V) : TRaw K (upd H A.d (.lst xs)) A { R with d := xs } b :=
  ⟨by rw [upd_ne (h.ne (i := 0) (j := 3) rfl rfl (by decide))]; exact h.ins, by rw [upd_ne (h.ne (i := 1) (j := 3) rfl rfl (by decide))]; exact h.n, by rw [upd_ne (h.ne (i := 2) (j := 3) rfl rfl (by decide))]; exact h.z, upd_same, by rw [upd_ne (h.ne (i := 4) (j := 3) rfl rfl (by decide))]; exact h.r, by rw [upd_ne (h.ne (i := 5) (j := 3) rfl rfl (by decide))]; exact h.f, by rw [upd_ne (h.ne (i := 6) (j := 3) rfl rfl (by decide))]; exact h.l, by rw [upd_ne (h.ne (i := 7) (j := 3) rfl rfl (by decide))]; exact h.u, by rw [upd_ne (h.ne (i := 8) (j := 3) rfl rfl (by decide))]; exact h.w, fun e => by rw [upd_ne (h.neA e (i := 3) rfl (by decide)).symm]; exact h.a e, h.nd⟩
theorem TRaw.set_r (h : TRaw K H A R b) (xs : List V) : TRaw K (upd H A.r (.lst xs)) A { R with r := xs } b :=
  ⟨by rw [upd_ne (h.ne (i := 0) (j := 4) rfl rfl (by decide))]; exact h.ins, by rw [upd_ne (h.ne (i := 1) (j := 4) rfl rfl (by decide))]; exact h.n, by rw [upd_ne (h.ne (i := 2) (j := 4) rfl rfl (by decide))]; exact h.z, by rw [upd_ne (h.ne (i := 3) (j := 4) rfl rfl (by decide))]; exact h.d, upd_same, by rw [upd_ne (h.ne (i := 5) (j := 4) rfl rfl (by decide))]; exact h.f, by rw [upd_ne (h.ne (i := 6) (j := 4) rfl rfl (by decide))]; exact h.l, by rw [upd_ne (h.ne (i := 7) (j := 4) rfl rfl (by decide))]; exact h.u, by rw [upd_ne (h.ne (i := 8) (j := 4) rfl rfl (by decide))]; exact h.w, fun e => by rw [upd_ne (h.neA e (i := 4) rfl (by decide)).symm]; exact h.a e, h.nd⟩
theorem TRaw.set_f (h : TRaw K H A R b) (xs : List V) : TRaw K (upd H A.f (.lst xs)) A { R with f := xs } b :=
  ⟨by rw [upd_ne (h.ne (i := 0) (j := 5) rfl rfl (by decide))]; exact h.ins, by rw [upd_ne (h.ne (i := 1) (j := 5) rfl rfl (by decide))]; exact h.n, by rw [upd_ne (h.ne (i := 2) (j := 5) rfl rfl (by decide))]; exact h.z, by rw [upd_ne (h.ne (i := 3) (j := 5) rfl rfl (by decide))]; exact h.d, by rw [upd_ne (h.ne (i := 4) (j := 5) rfl rfl (by decide))]; exact h.r, upd_same, by rw [upd_ne (h.ne (i := 6) (j := 5) rfl rfl (by decide))]; exact h.l, by rw [upd_ne (h.ne (i := 7) (j := 5) rfl rfl (by decide))]; exact h.u, by rw [upd_ne (h.ne (i := 8) (j := 5) rfl rfl (by decide))]; exact h.w, fun e => by rw [upd_ne (h.neA e (i := 5) rfl (by decide)).symm]; exact h.a e, h.nd⟩
theorem TRaw.set_l (h : TRaw K H A R b) (xs : List V) : TRaw K (upd H A.l (.lst xs)) A { R with l := xs } b :=
  ⟨by rw [upd_ne (h.ne (i := 0) (j := 6) rfl rfl (by decide))]; exact h.ins, by rw [upd_ne (h.ne (i := 1) (j := 6) rfl rfl (by decide))]; exact h.n, by rw [upd_ne (h.ne (i := 2) (j := 6) rfl rfl (by decide))]; exact h.z, by rw [upd_ne (h.ne (i := 3) (j := 6) rfl rfl (by decide))]; exact h.d, by rw [upd_ne (h.ne (i := 4) (j := 6) rfl rfl (by decide))]; exact h.r, by rw [upd_ne (h.ne (i := 5) (j := 6) rfl rfl (by decide))]; exact h.f, upd_same, by rw [upd_ne (h.ne (i := 7) (j := 6) rfl rfl (by decide))]; exact h.u, by rw [upd_ne (h.ne (i := 8) (j := 6) rfl rfl (by decide))]; exact h.w, fun e => by rw [upd_ne (h.neA e (i := 6) rfl (by decide)).symm]; exact h.a e, h.nd⟩
theorem TRaw.set_u (h : TRaw K H A R b) (xs : List V) : TRaw K (upd H A.u (.lst xs)) A { R with u := xs } b :=
  ⟨by rw [upd_ne (h.ne (i := 0) (j := 7) rfl rfl (by decide))]; exact h.ins, by rw [upd_ne (h.ne (i := 1) (j := 7) rfl rfl (by decide))]; exact h.n, by rw [upd_ne (h.ne (i := 2) (j := 7) rfl rfl (by decide))]; exact h.z, by rw [upd_ne (h.ne (i := 3) (j := 7) rfl rfl (by decide))]; exact h.d, by rw [upd_ne (h.ne (i := 4) (j := 7) rfl rfl (by decide))]; exact h.r, by rw [upd_ne (h.ne (i := 5) (j := 7) rfl rfl (by decide))]; exact h.f, by rw [upd_ne (h.ne (i := 6) (j := 7) rfl rfl (by decide))]; exact h.l, upd_same, by rw [upd_ne (h.ne (i := 8) (j := 7) rfl rfl (by decide))]; exact h.w, fun e => by rw [upd_ne (h.neA e (i := 7) rfl (by decide)).symm]; exact h.a e, h.nd⟩
theorem TRaw.set_w (h : TRaw K H A R b) (xs : List V) : TRaw K (upd H A.w (.lst xs)) A { R with w := xs } b :=
  ⟨by rw [upd_ne (h.ne (i := 0) (j := 8) rfl rfl (by decide))]; exact h.ins, by rw [upd_ne (h.ne (i := 1) (j := 8) rfl rfl (by decide))]; exact h.n, by rw [upd_ne (h.ne (i := 2) (j := 8) rfl rfl (by decide))]; exact h.z, by rw [upd_ne (h.ne (i := 3) (j := 8) rfl rfl (by decide))]; exact h.d, by rw [upd_ne (h.ne (i := 4) (j := 8) rfl rfl (by decide))]; exact h.r, by rw [upd_ne (h.ne (i := 5) (j := 8) rfl rfl (by decide))]; exact h.f, by rw [upd_ne (h.ne (i := 6) (j := 8) rfl rfl (by decide))]; exact h.l, by rw [upd_ne (h.ne (i := 7) (j := 8) rfl rfl (by decide))]; exact h.u, upd_same, fun e => by rw [upd_ne (h.neA e (i := 8) rfl (by decide)).symm]; exact h.a e, h.nd⟩
theorem TRaw.set_a (h : TRaw K H A R true) (xs : List V) : TRaw K (upd H A.a (.lst xs)) A { R with a := xs } true :=
  ⟨by rw [upd_ne (h.neA rfl (i := 0) rfl (by decide))]; exact h.ins, by rw [upd_ne (h.neA rfl (i := 1) rfl (by decide))]; exact h.n, by rw [upd_ne (h.neA rfl (i := 2) rfl (by decide))]; exact h.z, by rw [upd_ne (h.neA rfl (i := 3) rfl (by decide))]; exact h.d, by rw [upd_ne (h.neA rfl (i := 4) rfl (by decide))]; exact h.r, by rw [upd_ne (h.neA rfl (i := 5) rfl (by decide))]; exact h.f, by rw [upd_ne (h.neA rfl (i := 6) rfl (by decide))]; exact h.l, by rw [upd_ne (h.neA rfl (i := 7) rfl (by decide))]; exact h.u, by rw [upd_ne (h.neA rfl (i := 8) rfl (by decide))]; exact h.w, fun _ => upd_same, h.nd⟩
theorem TRaw.set_fin (h : TRaw K H A R b) (x : Int) : TRaw K (upd H A.t (.ins (cT K) A.dx (A.fs x b))) A { R with fin := x } b :=
  ⟨by rw [upd_same], by rw [upd_ne (h.ne (i := 1) (j := 0) rfl rfl (by decide))]; exact h.n, by rw [upd_ne (h.ne (i := 2) (j := 0) rfl rfl (by decide))]; exact h.z, by rw [upd_ne (h.ne (i := 3) (j := 0) rfl rfl (by decide))]; exact h.d, by rw [upd_ne (h.ne (i := 4) (j := 0) rfl rfl (by decide))]; exact h.r, by rw [upd_ne (h.ne (i := 5) (j := 0) rfl rfl (by decide))]; exact h.f, by rw [upd_ne (h.ne (i := 6) (j := 0) rfl rfl (by decide))]; exact h.l, by rw [upd_ne (h.ne (i := 7) (j := 0) rfl rfl (by decide))]; exact h.u, by rw [upd_ne (h.ne (i := 8) (j := 0) rfl rfl (by decide))]; exact h.w, fun e => by rw [upd_ne (h.neA e (i := 0) rfl (by decide)).symm]; exact h.a e, h.nd⟩
theorem TA.in_t : A.t ∈ A.fp b := List.mem_of_getElem? (i := 0) rfl
theorem TA.in_n : A.n ∈ A.fp b := List.mem_of_getElem? (i := 1) rfl
theorem TA.in_z : A.z ∈ A.fp b := List.mem_of_getElem? (i := 2) rfl
theorem TA.in_d : A.d ∈ A.fp b := List.mem_of_getElem? (i := 3) rfl
theorem TA.in_r : A.r ∈ A.fp b := List.mem_of_getElem? (i := 4) rfl
theorem TA.in_f : A.f ∈ A.fp b := List.mem_of_getElem? (i := 5) rfl
theorem TA.in_l : A.l ∈ A.fp b := List.mem_of_getElem? (i := 6) rfl
theorem TA.in_u : A.u ∈ A.fp b := List.mem_of_getElem? (i := 7) rfl
theorem TA.in_w : A.w ∈ A.fp b := List.mem_of_getElem? (i := 8) rfl
theorem TA.in_a : A.a ∈ A.fp true := List.mem_of_getElem? (i := 9) rfl
end

theorem lk_none {m : PySem.Str} : ∀ {fs : List (PySem.Str × V)}, (fs.map (·.1)).contains m = false → fs.lookup m = none
  | [], _ => rfl
  | (g, x) :: r, h => by
    rw [List.map_cons, List.contains_cons, Bool.or_eq_false_iff] at h
    rw [List.lookup_cons, h.1]
    exact lk_none h.2
theorem TA.miss {A : TA} {x : Int} {b : Bool} {m : PySem.Str} (h : (["nodes", "sizes", "drifts", "records", "found", "left", "upper", "lower", "end", "tales"] : List PySem.Str).contains m = false := by decide) : (A.fs x b).lookup m = none := by
  refine lk_none ?_
  have e : ∀ l1 l2 : List PySem.Str, (l1 ++ l2).contains m = false → l1.contains m = false := fun l1 l2 z => by
    rw [List.contains_eq_mem, decide_eq_false_iff_not] at z ⊢
    exact fun y => z (List.mem_append_left _ y)
  cases b
  · exact e ["nodes", "sizes", "drifts", "records", "found", "left", "upper", "lower", "end"] ["tales"] h
  · exact h
/-! ### what never changes -/
theorem mskU {F : List Addr} {H H' : Hp} {p : Addr} {o : HO} (s : Sub (msk F H) H') (h : p ∈ F) : Sub (msk F H) (upd H' p o) := s.upd (msk_in h)
/-- tuples and stages stand -/
structure Imm (K : PySem.W.Frag) (H H' : Hp) : Prop where
  tup : ∀ a xs, H a = some (.tup xs) → H' a = some (.tup xs)
  st : ∀ a dx fs, H a = some (.ins (cS K) dx fs) → H' a = some (.ins (cS K) dx fs)
theorem cST {K : PySem.W.Frag} {mg : PySem.Str → Option Value} (T : Tx K mg) : cS K ≠ cT K := by
  intro e
  obtain ⟨f1, F1⟩ := T.F_Stage_init
  obtain ⟨f2, F2⟩ := T.F_Turning_init
  obtain ⟨oc, od, dV, kV, doc, pm, an, cdv, ct, osl, e1, l1, _⟩ := F1.ex
  obtain ⟨oc', od', dV', kV', doc', pm', an', cdv', ct', osl', e2, l2, _⟩ := F2.ex
  have ea : d_Stage_init.at_ K = d_Turning_init.at_ K := by
    show He.ma K (He.ga K "Stage") "__init__" = He.ma K (He.ga K "Turning") "__init__"
    have e' : He.ga K "Stage" = He.ga K "Turning" := e
    rw [e']
  rw [ea, l2] at l1
  cases l1
  rw [e1] at e2
  have hq : (PySem.W.fnOf d_Stage_init.name d_Stage_init.qual d_Stage_init.params d_Stage_init.body d_Stage_init.scope dV kV doc pm an cdv ct).qualname = (PySem.W.fnOf d_Turning_init.name d_Turning_init.qual d_Turning_init.params d_Turning_init.body d_Turning_init.scope dV' kV' doc' pm' an' cdv' ct').qualname := congrArg (fun z : FuncData => z.qualname) e2
  exact absurd (show (("Stage.__init__" : PySem.Str)) = "Turning.__init__" from hq) (by decide)
section
variable {K : PySem.W.Frag} {H H' H'' : Hp} {A : TA} {R : Raw} {b : Bool} {mg : PySem.Str → Option Value}
theorem Imm.of (s : Sub H H') : Imm K H H' := ⟨fun a xs h => s.at h, fun a dx fs h => s.at h⟩
theorem Imm.tr (x : Imm K H H') (y : Imm K H' H'') : Imm K H H'' := ⟨fun a xs h => y.tup a xs (x.tup a xs h), fun a dx fs h => y.st a dx fs (x.st a dx fs h)⟩
theorem TRaw.free (T : Tx K mg) (h : TRaw K H A R b) {a : Addr} {o : HO} (ha : H a = some o) (hl : ∀ xs, o ≠ .lst xs) (hi : ∀ dx fs, o ≠ .ins (cT K) dx fs) : a ∉ A.fp b := fun hm => by
  have l : ∀ (p : Addr) (xs : List V), H p = some (.lst xs) → a ≠ p := fun p xs hp e => by
    rw [e, hp] at ha; exact hl xs (Option.some.inj ha).symm
  have hm' : a = A.t ∨ a = A.n ∨ a = A.z ∨ a = A.d ∨ a = A.r ∨ a = A.f ∨ a = A.l ∨ a = A.u ∨ a = A.w ∨ a ∈ (if b = true then [A.a] else []) := by
    unfold TA.fp at hm
    simpa only [List.mem_cons] using hm
  rcases hm' with e | e | e | e | e | e | e | e | e | e
  · rw [e, h.ins] at ha; exact hi _ _ (Option.some.inj ha).symm
  · exact l _ _ h.n e
  · exact l _ _ h.z e
  · exact l _ _ h.d e
  · exact l _ _ h.r e
  · exact l _ _ h.f e
  · exact l _ _ h.l e
  · exact l _ _ h.u e
  · exact l _ _ h.w e
  · by_cases c : b = true
    · rw [if_pos c] at e
      exact l _ _ (h.a c) (by simpa using e)
    · rw [if_neg c] at e; simp at e
theorem TRaw.imm (T : Tx K mg) (h : TRaw K H A R b) (s : Sub (msk (A.fp b) H) H') : Imm K H H' :=
  ⟨fun a xs ha => s.at (msk_at ha (h.free T ha (fun _ z => nomatch z) (fun _ _ z => nomatch z))), fun a dx fs ha => s.at (msk_at ha (h.free T ha (fun _ z => nomatch z) (fun dx' fs' z => cST T (by injection z))))⟩
theorem p3.imm {a : Addr} {z : Int × Int × Nat} (h : p3 H a z) (i : Imm K H H') : p3 H' a z := i.tup _ _ h
theorem StgAt.imm {a : Addr} {s : Stg} (h : StgAt K H a s) (i : Imm K H H') : StgAt K H' a s := by
  obtain ⟨dx, pp, ps, h1, h2, h3, h4⟩ := h
  exact ⟨dx, pp, ps, i.st _ _ _ h1, i.tup _ _ h2, h3.mono fun _ _ z => z.imm i, h4⟩
end
/-! ### what the lists say -/
def RcAt (K : PySem.W.Frag) (H : Hp) (v : V) : Rc → Prop
  | .st g => ∃ a, v = .ref a ∧ StgAt K H a g
  | .bd _ _ _ => v = .non
def ndAt (H : Hp) (a : Addr) (d : Nd) : Prop := H a = some (.tup [.int (d.kind : Int), .int (d.one : Int), .int (d.other : Int)])
structure Deep (K : PySem.W.Frag) (H : Hp) (R : Raw) (s : Rz.St) : Prop where
  n : ∃ as, R.n = rV as ∧ A2 (ndAt H) as s.nodes
  z : R.z = s.nodes.map fun d => .int (d.size : Int)
  d : R.d = s.nodes.map fun d => .int d.drift
  r : A2 (RcAt K H) R.r s.recs
  f : ∃ as, R.f = rV as ∧ A2 (p3 H) as (bands s.recs)
  l : R.l = iV s.left
  u : R.u = nV s.upper
  w : R.w = nV s.lower
  a : R.a = nV s.tales
  fin : R.fin = s.fin
section
variable {K : PySem.W.Frag} {H H' : Hp} {A : TA} {R : Raw} {b : Bool} {s : Rz.St} {mg : PySem.Str → Option Value}
theorem RcAt.imm {v : V} {r : Rc} (h : RcAt K H v r) (i : Imm K H H') : RcAt K H' v r := by
  cases r with
  | st g => obtain ⟨a, e, h⟩ := h; exact ⟨a, e, h.imm i⟩
  | bd _ _ _ => exact h
theorem Deep.imm (h : Deep K H R s) (i : Imm K H H') : Deep K H' R s := by
  obtain ⟨⟨as, n1, n2⟩, z, d, r, ⟨fs, f1, f2⟩, l, u, w, a, fin⟩ := h
  exact ⟨⟨as, n1, n2.mono fun x y q => i.tup _ _ q⟩, z, d, r.mono fun _ _ q => q.imm i, ⟨fs, f1, f2.mono fun _ _ q => q.imm i⟩, l, u, w, a, fin⟩
theorem Deep.sub (h : Deep K H R s) (i : Sub H H') : Deep K H' R s := h.imm (.of i)
theorem Deep.add (h : Deep K H R s) {q : Addr} {d : Nd} (hq : H q = some (.tup [.int (d.kind : Int), .int (d.one : Int), .int (d.other : Int)])) :
    Deep K H { R with n := R.n ++ [.ref q], z := R.z ++ [.int (d.size : Int)], d := R.d ++ [.int d.drift] } (s.add d) := by
  obtain ⟨⟨as, n1, n2⟩, z, dd, r, f, l, u, w, a, fin⟩ := h
  refine ⟨⟨as ++ [q], ?_, n2.snoc hq⟩, ?_, ?_, r, f, l, u, w, a, fin⟩
  · show R.n ++ [.ref q] = _
    rw [n1, rV_snoc]
  · show R.z ++ [_] = (s.nodes ++ [d]).map _
    rw [z, List.map_append]; rfl
  · show R.d ++ [_] = (s.nodes ++ [d]).map _
    rw [dd, List.map_append]; rfl
theorem Deep.sz (h : Deep K H R s) {i : Nat} (hi : i < s.nodes.length) : R.z[i]? = some (.int (s.sz i : Int)) := by
  rw [h.z, List.getElem?_map]
  unfold St.sz
  rw [List.getD_eq_getElem?_getD, List.getElem?_eq_getElem hi]; rfl
theorem Deep.dr (h : Deep K H R s) {i : Nat} (hi : i < s.nodes.length) : R.d[i]? = some (.int (s.dr i)) := by
  rw [h.d, List.getElem?_map]
  unfold St.dr
  rw [List.getD_eq_getElem?_getD, List.getElem?_eq_getElem hi]; rfl
theorem Deep.lenN (h : Deep K H R s) : R.n.length = s.nodes.length := by obtain ⟨as, e, q⟩ := h.n; rw [e, rV_len, q.len]
theorem Deep.lenZ (h : Deep K H R s) : R.z.length = s.nodes.length := by rw [h.z, List.length_map]
theorem Deep.lenD (h : Deep K H R s) : R.d.length = s.nodes.length := by rw [h.d, List.length_map]
theorem Deep.L (h : Deep K H R s) {i : Nat} (hi : i < s.left.length) : R.l[i]? = some (.int (s.L i)) := by
  rw [h.l]
  refine iV_get ?_
  unfold St.L
  rw [List.getD_eq_getElem?_getD, List.getElem?_eq_getElem hi]; rfl
theorem Deep.tale (h : Deep K H R s) {i : Nat} (hi : i < s.tales.length) : R.a[i]? = some (.int (s.tale i : Int)) := by
  rw [h.a]
  refine nV_get ?_
  unfold St.tale
  rw [List.getD_eq_getElem?_getD, List.getElem?_eq_getElem hi]; rfl
end
end Bt
end
section
set_option Elab.async false
set_option linter.all false
set_option maxRecDepth 100000
set_option maxHeartbeats 2000000
set_option autoImplicit false
namespace Bt
open PySem PySem.Spec PyProof.Rows L2 Rz
section
variable {P : Program} {w : World} {K : PySem.W.Frag} {mg : PySem.Str → Option Value} {base : Heap}
local macro_rules | `(tactic| walk_at "sd") => `(tactic| first
  | rfl | assumption
  | exact Sub.at ‹Sub _ _› (by assumption)
  | exact SqL.of (by assumption) | exact SqT.of (by assumption) | exact SqL.of (Sub.at ‹Sub _ _› (by assumption)) | exact SqT.of (Sub.at ‹Sub _ _› (by assumption))
  | exact Or.inl (SqL.of (by assumption)) | exact Or.inr (SqT.of (by assumption)) | exact Or.inl (SqL.of (Sub.at ‹Sub _ _› (by assumption))) | exact Or.inr (SqT.of (Sub.at ‹Sub _ _› (by assumption)))
  | exact ClsV.ty _ | exact TyX.base (.int _) | exact TyX.base (.str _) | exact TyX.base (.tup (by assumption)) | exact kit_int | exact kit_ib | exact kit_ss | exact kit_tt)
local macro_rules | `(tactic| walk_at "rd1") => `(tactic| first
  | (apply Exists.intro)
  | (refine And.intro ?_ ?_; (focus (walk_at "sd")))
  | (refine L2.iteT ?_)
  | (refine L2.iteF ?_))
local macro_rules | `(tactic| walk_at "rd") => `(tactic| repeat (walk_at "rd1"))
local macro_rules | `(tactic| walk_at "se") => `(tactic| first
  | rfl | assumption
  | exact Sub.at ‹Sub _ _› (by assumption)
  | exact SqL.of (by assumption) | exact SqT.of (by assumption) | exact SqL.of (Sub.at ‹Sub _ _› (by assumption)) | exact SqT.of (Sub.at ‹Sub _ _› (by assumption))
  | exact Or.inl (SqL.of (by assumption)) | exact Or.inr (SqT.of (by assumption)) | exact Or.inl (SqL.of (Sub.at ‹Sub _ _› (by assumption))) | exact Or.inr (SqT.of (Sub.at ‹Sub _ _› (by assumption)))
  | exact TRaw.ins ‹TRaw _ _ _ _ _› | exact TA.miss
  | exact TRaw.n ‹TRaw _ _ _ _ _›
  | exact TRaw.z ‹TRaw _ _ _ _ _›
  | exact TRaw.d ‹TRaw _ _ _ _ _›
  | exact TRaw.r ‹TRaw _ _ _ _ _›
  | exact TRaw.f ‹TRaw _ _ _ _ _›
  | exact TRaw.l ‹TRaw _ _ _ _ _›
  | exact TRaw.u ‹TRaw _ _ _ _ _›
  | exact TRaw.w ‹TRaw _ _ _ _ _› | exact TRaw.a ‹TRaw _ _ _ _ _› rfl
  | exact SqL.of (TRaw.n ‹TRaw _ _ _ _ _›)
  | exact SqL.of (TRaw.z ‹TRaw _ _ _ _ _›)
  | exact SqL.of (TRaw.d ‹TRaw _ _ _ _ _›)
  | exact SqL.of (TRaw.r ‹TRaw _ _ _ _ _›)
  | exact SqL.of (TRaw.f ‹TRaw _ _ _ _ _›)
  | exact SqL.of (TRaw.l ‹TRaw _ _ _ _ _›)
  | exact SqL.of (TRaw.u ‹TRaw _ _ _ _ _›)
  | exact SqL.of (TRaw.w ‹TRaw _ _ _ _ _›) | exact SqL.of (TRaw.a ‹TRaw _ _ _ _ _› rfl)
  | exact ClsV.ty _ | exact TyX.base (.int _) | exact TyX.base (.str _) | exact TyX.base (.tup (by assumption)) | exact kit_int | exact kit_ib | exact kit_ss | exact kit_tt)
local macro_rules | `(tactic| walk_at "re1") => `(tactic| first
  | (apply Exists.intro)
  | (refine And.intro ?_ ?_; (focus (walk_at "se")))
  | (refine L2.iteT ?_)
  | (refine L2.iteF ?_))
local macro_rules | `(tactic| walk_at "re") => `(tactic| repeat (walk_at "re1"))

theorem sc_Turning_node : FnScope ["self", "kind", "one", "other", "size", "drift"] ["self", "kind", "one", "other", "size", "drift"] (defScope s_Turning_node) := ⟨rfl, rfl, rfl, by decide +kernel, rfl, by decide +kernel, by decide +kernel⟩
abbrev sp_Turning_node (K : PySem.W.Frag) : Sp := P6 fun a k o1 o2 sz dr H Q => ∃ (A : TA) (R : Raw) (b : Bool), a = .ref A.t ∧ TRaw K H A R b ∧ R.n.length < 90000 ∧ R.z.length < 90000 ∧ R.d.length < 90000 ∧
  ∀ H' q, Sub (msk (A.fp b) H) H' → H' q = some (.tup [k, o1, o2]) → TRaw K H' A { R with n := R.n ++ [.ref q], z := R.z ++ [sz], d := R.d ++ [dr] } b → Q (.int (R.n.length : Int)) H'
theorem tyL {K : PySem.W.Frag} {H : Hp} {p : Addr} {xs : List V} (h : H p = some (.lst xs)) : tyV K "list" (.ref p) H := Or.inl ⟨rfl, _, Or.inl (Or.inl h)⟩
theorem ok_Turning_node (T : Tx K mg) : Gm P w K mg base 1 (cT K) "node" ["self", "kind", "one", "other", "size", "drift"] [] (sp_Turning_node K) := by
  refine mkm T.F_Turning_node T.c_Turning T.m_Turning_node sc_Turning_node P6.ar (fun _ _ _ _ _ _ us hl => match us, hl with | [_, _, _, _, _, _], _ => rfl) fun cdv A0 outer s H vs Q E hr h => ?_
  obtain ⟨_, k, o1, o2, sz, dr, rfl, A, R, b, rfl, hT, l1, l2, l3, hq⟩ := h
  have cc := T.c_Turning
  have a1 := T.a_Turning_nodes
  have a2 := T.a_Turning_sizes
  have a3 := T.a_Turning_drifts
  refine ⟨_, (pss_cons (ps_expr (pe_bm PySem.F.plainAttrs_list PySem.F.slot_list_append PySem.F.type_list_append mt_append (pe_fld (pv 0) rfl) (pa_cons (pe_tup (pa_cons (pv 1) (pa_cons (pv 2) (pa_cons (pv 3) pa_nil)))) pa_nil)))
  (pss_cons (ps_expr (pe_bm PySem.F.plainAttrs_list PySem.F.slot_list_append PySem.F.type_list_append mt_append (pe_fld (pv 0) rfl) (pa_cons (pv 4) pa_nil)))
  (pss_cons (ps_expr (pe_bm PySem.F.plainAttrs_list PySem.F.slot_list_append PySem.F.type_list_append mt_append (pe_fld (pv 0) rfl) (pa_cons (pv 5) pa_nil)))
  (pss_one (ps_ret (pe_op op_sub (pe_callB call_len_seq rfl T.n_len (by decide +kernel) (pa_cons (pe_fld (pv 0) rfl) pa_nil)) pe_int)))))), ?_⟩
  refine ⟨_, rfl, _, _, _, _, _, rfl, hT.ins, cc, a1, rfl, tyL hT.n, ?_⟩
  refine ⟨_, rfl, _, rfl, _, rfl, by show 3 ≤ sizeLine; decide, fun q nq => ?_⟩
  have hT1 := hT.new (o := .tup [k, o1, o2]) nq
  have s1 : Sub (msk (A.fp b) H) (upd H q (.tup [k, o1, o2])) := msk_sub.new nq
  refine ⟨_, _, _, rfl, rfl, hT1.n, szlt (by omega), ?_⟩
  have hT2 := hT1.set_n (R.n ++ [.ref q])
  have s2 := mskU (o := .lst (R.n ++ [.ref q])) s1 (TA.in_n (A := A) (b := b))
  refine ⟨_, rfl, _, _, _, _, _, rfl, hT2.ins, cc, a2, rfl, tyL hT2.z, _, rfl, _, _, _, rfl, rfl, hT2.z, szlt (by show R.z.length < _; omega), ?_⟩
  have hT3 := hT2.set_z (R.z ++ [sz])
  have s3 := mskU (o := .lst (R.z ++ [sz])) s2 (TA.in_z (A := A) (b := b))
  refine ⟨_, rfl, _, _, _, _, _, rfl, hT3.ins, cc, a3, rfl, tyL hT3.d, _, rfl, _, _, _, rfl, rfl, hT3.d, szlt (by show R.d.length < _; omega), ?_⟩
  have hT4 := hT3.set_d (R.d ++ [dr])
  have s4 := mskU (o := .lst (R.d ++ [dr])) s3 (TA.in_d (A := A) (b := b))
  refine ⟨_, rfl, _, _, _, _, _, rfl, hT4.ins, cc, a1, rfl, _, _, rfl, .inl (SqL.of hT4.n), _, _, rfl, rfl, ?_⟩
  refine cint ?_ (hq _ q s4 ?_ hT4)
  · show (((R.n ++ [V.ref q]).length : Nat) : Int) - 1 = _
    rw [List.length_append, List.length_singleton]; omega
  · have nn := hT1.free T upd_same (fun _ z => nomatch z) (fun _ _ z => nomatch z)
    rw [upd_ne (fun e => nn (by rw [e]; exact TA.in_d)), upd_ne (fun e => nn (by rw [e]; exact TA.in_z)), upd_ne (fun e => nn (by rw [e]; exact TA.in_n)), upd_same]
/-! ### two words in a row, a word many times -/
theorem sc_Turning_two : FnScope ["self", "one", "other"] ["self", "one", "other"] (defScope s_Turning_two) := ⟨rfl, rfl, rfl, by decide +kernel, rfl, by decide +kernel, by decide +kernel⟩
theorem sc_Turning_times : FnScope ["self", "one", "many"] ["self", "one", "many"] (defScope s_Turning_times) := ⟨rfl, rfl, rfl, by decide +kernel, rfl, by decide +kernel, by decide +kernel⟩
abbrev sp_Turning_two (K : PySem.W.Frag) : Sp := P3 fun a x y H Q => ∃ (A : TA) (R : Raw) (b : Bool) (s : Rz.St) (i j : Nat), a = .ref A.t ∧ x = .int (i : Int) ∧ y = .int (j : Int) ∧ TRaw K H A R b ∧ Deep K H R s ∧ i < s.nodes.length ∧ j < s.nodes.length ∧ s.nodes.length < 90000 ∧
  ∀ H' R', Sub (msk (A.fp b) H) H' → TRaw K H' A R' b → Deep K H' R' (s.two i j) → Q (.int (s.nodes.length : Int)) H'
theorem ok_Turning_two (T : Tx K mg) : Gm P w K mg base 2 (cT K) "two" ["self", "one", "other"] [] (sp_Turning_two K) := by
  refine mkm T.F_Turning_two T.c_Turning T.m_Turning_two sc_Turning_two P3.ar (fun _ _ _ _ _ _ us hl => match us, hl with | [_, _, _], _ => rfl) fun cdv A0 outer s0 H vs Q E hr h => ?_
  obtain ⟨_, _, _, rfl, A, R, b, s, i, j, rfl, rfl, rfl, hT, hD, hi, hj, hl, hq⟩ := h
  have cc := T.c_Turning
  have a2 := T.a_Turning_sizes
  have a3 := T.a_Turning_drifts
  have zi := atI_nat (hD.sz hi)
  have zj := atI_nat (hD.sz hj)
  have di := atI_nat (hD.dr hi)
  have dj := atI_nat (hD.dr hj)
  refine ⟨_, (pss_one (ps_ret (cm (ok_Turning_node T) hr (pv 0) (pa_cons (pe_gI T.i_TWO) (pa_cons (pv 1) (pa_cons (pv 2) (pa_cons (pe_op op_add (pe_ix ix_list (pe_fld (pv 0) rfl) (pv 1) (fun _ _ => rfl)) (pe_ix ix_list (pe_fld (pv 0) rfl) (pv 2) (fun _ _ => rfl))) (pa_cons (pe_op op_add (pe_ix ix_list (pe_fld (pv 0) rfl) (pv 1) (fun _ _ => rfl)) (pe_ix ix_list (pe_fld (pv 0) rfl) (pv 2) (fun _ _ => rfl))) pa_nil)))))))), ?_⟩
  have k1 : R.n.length < 90000 := by rw [hD.lenN]; exact hl
  have k2 : R.z.length < 90000 := by rw [hD.lenZ]; exact hl
  have k3 : R.d.length < 90000 := by rw [hD.lenD]; exact hl
  walk_at "re"
  intro H' q s1 hq1 hT1
  have hD1 := (hD.imm (hT.imm T s1)).add (d := ⟨1, i, j, s.sz i + s.sz j, s.dr i + s.dr j⟩) hq1
  refine cint (by rw [hD.lenN]) (hq H' _ s1 ?_ hD1)
  exact hT1
abbrev sp_Turning_times (K : PySem.W.Frag) : Sp := P3 fun a x y H Q => ∃ (A : TA) (R : Raw) (b : Bool) (s : Rz.St) (i m : Nat), a = .ref A.t ∧ x = .int (i : Int) ∧ y = .int (m : Int) ∧ TRaw K H A R b ∧ Deep K H R s ∧ i < s.nodes.length ∧ m ≤ 1000000000000 ∧ s.nodes.length < 90000 ∧
  ∀ H' R', Sub (msk (A.fp b) H) H' → TRaw K H' A R' b → Deep K H' R' (s.tim i m) → Q (.int (s.timI i m : Int)) H'
theorem ok_Turning_times (T : Tx K mg) : Gm P w K mg base 2 (cT K) "times" ["self", "one", "many"] [] (sp_Turning_times K) := by
  refine mkm T.F_Turning_times T.c_Turning T.m_Turning_times sc_Turning_times P3.ar (fun _ _ _ _ _ _ us hl => match us, hl with | [_, _, _], _ => rfl) fun cdv A0 outer s0 H vs Q E hr h => ?_
  obtain ⟨_, _, _, rfl, A, R, b, s, i, m, rfl, rfl, rfl, hT, hD, hi, hm, hl, hq⟩ := h
  have cc := T.c_Turning
  have a2 := T.a_Turning_sizes
  have a3 := T.a_Turning_drifts
  have zi := atI_nat (hD.sz hi)
  have di := atI_nat (hD.dr hi)
  have k1 : R.n.length < 90000 := by rw [hD.lenN]; exact hl
  have k2 : R.z.length < 90000 := by rw [hD.lenZ]; exact hl
  have k3 : R.d.length < 90000 := by rw [hD.lenD]; exact hl
  have c1 : CMul (s.sz i : Int) (m : Int) := cmulR (by omega) (by omega)
  have c2 : CMul (s.dr i) (m : Int) := cmulR (by omega) (by omega)
  refine ⟨_, (pss_one (ps_ret (pe_ifExp (pt_cmpR op_eq (pv 2) pe_int (nomark _)) (pv 1) (cm (ok_Turning_node T) hr (pv 0) (pa_cons (pe_gI T.i_TIMES) (pa_cons (pv 1) (pa_cons (pv 2) (pa_cons (pe_op op_mul (pe_ix ix_list (pe_fld (pv 0) rfl) (pv 1) (fun _ _ => rfl)) (pv 2)) (pa_cons (pe_op op_mul (pe_ix ix_list (pe_fld (pv 0) rfl) (pv 1) (fun _ _ => rfl)) (pv 2)) pa_nil))))))))), ?_⟩
  walk_at "re"
  refine L2.ite2 (fun z => ?_) fun z => ?_
  · have em : m = 1 := by
      rw [decide_eq_true_eq] at z
      injection z with z; omega
    have e1 : s.tim i m = s := by unfold St.tim; rw [if_pos em]
    have e2 : s.timI i m = i := by unfold St.timI; rw [if_pos em]
    rw [e1, e2] at hq
    walk_at "re"
    exact hq H R msk_sub hT hD
  · have em : ¬ m = 1 := fun e => z (by rw [e]; decide)
    have e1 : s.tim i m = s.add ⟨2, i, m, s.sz i * m, s.dr i * (m : Int)⟩ := by unfold St.tim; rw [if_neg em]
    have e2 : s.timI i m = s.nodes.length := by unfold St.timI; rw [if_neg em]
    rw [e1, e2] at hq
    walk_at "re"
    intro H' q s1 hq1 hT1
    have hD1 := (hD.imm (hT.imm T s1)).add (d := ⟨2, i, m, s.sz i * m, s.dr i * (m : Int)⟩) hq1
    have e3 : ((s.sz i * m : Nat) : Int) = (s.sz i : Int) * (m : Int) := Int.natCast_mul _ _
    refine cint (by rw [hD.lenN]) (hq H' _ s1 ?_ hD1)
    dsimp only
    rw [e3]
    exact hT1
end
end Bt
end
section
set_option Elab.async false
set_option linter.all false
set_option maxRecDepth 100000
set_option maxHeartbeats 2000000
set_option autoImplicit false
namespace Bt
open PySem PySem.Spec PyProof.Rows L2 Rz
theorem pre_take (L : Nat → Int) : ∀ (ps : List Nat) (i x : Nat), ps.Nodup → ps[i]? = some x → pre L ps x = tot L (ps.take i)
  | [], i, x, _, h => by simp at h
  | y :: r, 0, x, _, h => by
    rw [List.getElem?_cons_zero] at h
    cases h
    rw [pre_self]; rfl
  | y :: r, i + 1, x, nd, h => by
    rw [List.getElem?_cons_succ] at h
    obtain ⟨n1, n2⟩ := List.nodup_cons.mp nd
    have ne : y ≠ x := fun e => n1 (e ▸ List.mem_of_getElem? h)
    rw [pre_other L r ne, pre_take L r i x n2 h, List.take_succ_cons]; rfl
theorem tot_take_succ (L : Nat → Int) {ps : List Nat} {i x : Nat} (h : ps[i]? = some x) : tot L (ps.take (i + 1)) = tot L (ps.take i) + L x := by
  rw [List.take_add_one, h, tot_app]
  show _ + (L x + 0) = _
  omega
theorem putK_len {κ : Type} [DecidableEq κ] (kvs : List (κ × V)) (k : κ) (v : V) : (putK kvs k v).length ≤ kvs.length + 1 := by
  unfold putK
  split
  · rw [List.length_map]; omega
  · rw [List.length_append]; exact Nat.le_refl _
section
variable {P : Program} {w : World} {K : PySem.W.Frag} {mg : PySem.Str → Option Value} {base : Heap}
local macro_rules | `(tactic| walk_at "sd") => `(tactic| first
  | rfl | assumption
  | exact Sub.at ‹Sub _ _› (by assumption)
  | exact SqL.of (by assumption) | exact SqT.of (by assumption) | exact SqL.of (Sub.at ‹Sub _ _› (by assumption)) | exact SqT.of (Sub.at ‹Sub _ _› (by assumption))
  | exact Or.inl (SqL.of (by assumption)) | exact Or.inr (SqT.of (by assumption)) | exact Or.inl (SqL.of (Sub.at ‹Sub _ _› (by assumption))) | exact Or.inr (SqT.of (Sub.at ‹Sub _ _› (by assumption)))
  | exact ClsV.ty _ | exact TyX.base (.int _) | exact TyX.base (.str _) | exact TyX.base (.tup (by assumption)) | exact kit_int | exact kit_ib | exact kit_ss | exact kit_tt)
local macro_rules | `(tactic| walk_at "rd1") => `(tactic| first
  | (apply Exists.intro)
  | (refine And.intro ?_ ?_; (focus (walk_at "sd")))
  | (refine L2.iteT ?_)
  | (refine L2.iteF ?_))
local macro_rules | `(tactic| walk_at "rd") => `(tactic| repeat (walk_at "rd1"))
local macro_rules | `(tactic| walk_at "se") => `(tactic| first
  | rfl | assumption
  | exact Sub.at ‹Sub _ _› (by assumption)
  | exact SqL.of (by assumption) | exact SqT.of (by assumption) | exact SqL.of (Sub.at ‹Sub _ _› (by assumption)) | exact SqT.of (Sub.at ‹Sub _ _› (by assumption))
  | exact Or.inl (SqL.of (by assumption)) | exact Or.inr (SqT.of (by assumption)) | exact Or.inl (SqL.of (Sub.at ‹Sub _ _› (by assumption))) | exact Or.inr (SqT.of (Sub.at ‹Sub _ _› (by assumption)))
  | exact TRaw.ins ‹TRaw _ _ _ _ _› | exact TA.miss
  | exact TRaw.n ‹TRaw _ _ _ _ _›
  | exact TRaw.z ‹TRaw _ _ _ _ _›
  | exact TRaw.d ‹TRaw _ _ _ _ _›
  | exact TRaw.r ‹TRaw _ _ _ _ _›
  | exact TRaw.f ‹TRaw _ _ _ _ _›
  | exact TRaw.l ‹TRaw _ _ _ _ _›
  | exact TRaw.u ‹TRaw _ _ _ _ _›
  | exact TRaw.w ‹TRaw _ _ _ _ _› | exact TRaw.a ‹TRaw _ _ _ _ _› rfl
  | exact SqL.of (TRaw.n ‹TRaw _ _ _ _ _›)
  | exact SqL.of (TRaw.z ‹TRaw _ _ _ _ _›)
  | exact SqL.of (TRaw.d ‹TRaw _ _ _ _ _›)
  | exact SqL.of (TRaw.r ‹TRaw _ _ _ _ _›)
  | exact SqL.of (TRaw.f ‹TRaw _ _ _ _ _›)
  | exact SqL.of (TRaw.l ‹TRaw _ _ _ _ _›)
  | exact SqL.of (TRaw.u ‹TRaw _ _ _ _ _›)
  | exact SqL.of (TRaw.w ‹TRaw _ _ _ _ _›) | exact SqL.of (TRaw.a ‹TRaw _ _ _ _ _› rfl)
  | exact ClsV.ty _ | exact TyX.base (.int _) | exact TyX.base (.str _) | exact TyX.base (.tup (by assumption)) | exact kit_int | exact kit_ib | exact kit_ss | exact kit_tt)
local macro_rules | `(tactic| walk_at "re1") => `(tactic| first
  | (apply Exists.intro)
  | (refine And.intro ?_ ?_; (focus (walk_at "se")))
  | (refine L2.iteT ?_)
  | (refine L2.iteF ?_))
local macro_rules | `(tactic| walk_at "re") => `(tactic| repeat (walk_at "re1"))

theorem sc_Turning_fronts : FnScope ["self", "row", "found", "place", "piece"] ["self", "row"] (defScope s_Turning_fronts) := ⟨rfl, rfl, rfl, by decide +kernel, rfl, by decide +kernel, by decide +kernel⟩
theorem sc_Turning_moved : FnScope ["self", "pieces", "before", "after", "piece"] ["self", "pieces"] (defScope s_Turning_moved) := ⟨rfl, rfl, rfl, by decide +kernel, rfl, by decide +kernel, by decide +kernel⟩
abbrev sp_Turning_fronts (K : PySem.W.Frag) : Sp := P2 fun a b H Q => ∃ (A : TA) (R : Raw) (tl : Bool) (s : Rz.St) (q : Addr) (ps : List Nat), a = .ref A.t ∧ b = .ref q ∧ TRaw K H A R tl ∧ Deep K H R s ∧ H q = some (.lst (nV ps)) ∧ ps.Nodup ∧ (∀ x ∈ ps, x < s.left.length) ∧ ps.length ≤ 1000 ∧
  ∀ d H' kvs, Sub H H' → H' d = some (.dK kvs) → (∀ x ∈ ps, valV kvs (.inl (x : Int)) = some (.int (pre s.L ps x))) → Q (.ref d) H'
theorem ok_Turning_fronts (T : Tx K mg) : Gm P w K mg base 1 (cT K) "fronts" ["self", "row"] [] (sp_Turning_fronts K) := by
  refine mkm T.F_Turning_fronts T.c_Turning T.m_Turning_fronts sc_Turning_fronts P2.ar (fun _ _ _ _ _ _ us hl => match us, hl with | [_, _], _ => rfl) fun cdv A0 outer s0 H vs Q E hr h => ?_
  obtain ⟨_, _, rfl, A, R, tl, s, q, ps, rfl, rfl, hT, hD, hq1, nd, hx, hlen, hq⟩ := h
  have cc := T.c_Turning
  have a1 := T.a_Turning_left
  refine ⟨_, (pss_cons (ps_par (i := 2) (j := 3) rfl sc_Turning_fronts.nd rfl rfl (by decide) rfl rfl (pa_cons pe_dnewK (pa_cons pe_int pa_nil)) rfl)
  (pss_cons (ps_for PassesOwn.never rfl (pi_list (pv 1)) (pg_name (i := 4) sc_Turning_fronts.nd rfl (by first | exact .inl rfl | exact .inr rfl)) (pss_cons (ps_dput (hu_of hr) (pv 2) (pv 4) (pv 3) rfl)
  (pss_one (ps_aug (i := 3) sc_Turning_fronts.nd rfl (by first | exact .inl rfl | exact .inr rfl) (pe_ix ix_list (pe_fld (pv 0) rfl) (pv 4) (fun _ _ => rfl)) ip_add))))
  (pss_one (ps_ret (pv 2))))), ?_⟩
  intro d nd0
  refine ⟨_, _, rfl, ?_⟩
  refine ⟨_, rfl, q, rfl, ⟨_, SqL.of (Sub.rfl'.new nd0 _ _ hq1)⟩, for_it (walk_list (xs := nV ps)) (fun i σ H' => Bx (Sub H H' ∧ ∃ kvs o, σ = [some (.ref A.t), some (.ref q), some (.ref d), some (.int (tot s.L (ps.take i))), o] ∧ H' d = some (.dK kvs) ∧ kvs.length ≤ i ∧ ∀ x ∈ ps.take i, valV kvs (.inl (x : Int)) = some (.int (pre s.L ps x))))
    ⟨Sub.rfl'.new nd0, [], _, rfl, upd_same, Nat.le_refl _, fun x h => by simp at h⟩ (fun i σ H1 _ h => SqL.of (h.o.1.at hq1)) (fun i x σ H1 H2 hi h hy => ?_) fun σ H1 h => ?_⟩
  · obtain ⟨s1, kvs, o, rfl, hd1, hk, hv⟩ := h.o
    obtain ⟨rfl, hx1⟩ := hy
    obtain ⟨y, hy, rfl⟩ := nV_inv hx1
    have hyl := hx y (List.mem_of_getElem? hy)
    rw [nV_len] at hi
    have hT1 := hT.sub s1
    have hdA : ∀ {p : Addr} {xs : List V}, H2 p = some (.lst xs) → p ≠ d := fun hp e => by rw [e, hd1] at hp; cases hp
    refine ⟨_, rfl, _, rfl, _, rfl, d, _, rfl, DPut.k (k := .inl (y : Int)) hd1 (szlt (by omega)), ?_⟩
    have s2 : Sub H (upd H2 d (.dK (putK kvs (.inl (y : Int)) (.int (tot s.L (ps.take i)))))) := s1.upd nd0
    have hT2 := hT.sub s2
    have hly := atI_nat (hD.L hyl)
    walk_at "re"
    refine ⟨s2, _, _, by rw [tot_take_succ _ hy]; rfl, upd_same, Nat.le_trans (putK_len _ _ _) (by omega), fun x hx => ?_⟩
    rw [valV_put]
    rw [List.take_add_one, hy] at hx
    by_cases e : x = y
    · rw [if_pos (by rw [e]), e, pre_take s.L ps i y nd hy]
    · rw [if_neg (fun z => e (by have := Sum.inl.inj z; omega))]
      rcases List.mem_append.mp hx with z | z
      · exact hv x z
      · exact absurd (by simpa using z) e
  · obtain ⟨s1, kvs, o, rfl, hd1, hk, hv⟩ := h.o
    rw [nV_len, List.take_length] at hv
    walk_at "rd"
    exact hq d H1 kvs s1 hd1 hv
abbrev mvAt (s : Rz.St) (H : Hp) (a : Addr) (x : Nat) : Prop := H a = some (.tup [.int (pre s.L s.upper x), .int (pre s.L s.lower x - pre s.L s.upper x)])
abbrev sp_Turning_moved (K : PySem.W.Frag) : Sp := P2 fun a b H Q => ∃ (A : TA) (R : Raw) (tl : Bool) (s : Rz.St) (q : Addr) (xs : List Nat), a = .ref A.t ∧ b = .ref q ∧ TRaw K H A R tl ∧ Deep K H R s ∧ H q = some (.lst (nV xs)) ∧ s.upper.Nodup ∧ s.lower.Nodup ∧ (∀ x ∈ s.upper, x < s.left.length) ∧ (∀ x ∈ s.lower, x < s.left.length) ∧
  s.upper.length ≤ 1000 ∧ s.lower.length ≤ 1000 ∧ xs.length ≤ 1000 ∧ (∀ x ∈ xs, x ∈ s.upper ∧ x ∈ s.lower) ∧
  ∀ p H' as, Sub H H' → H' p = some (.lst (rV as)) → A2 (mvAt s H') as xs → Q (.ref p) H'
theorem ok_Turning_moved (T : Tx K mg) : Gm P w K mg base 2 (cT K) "moved" ["self", "pieces"] [] (sp_Turning_moved K) := by
  refine mkm T.F_Turning_moved T.c_Turning T.m_Turning_moved sc_Turning_moved P2.ar (fun _ _ _ _ _ _ us hl => match us, hl with | [_, _], _ => rfl) fun cdv A0 outer s0 H vs Q E hr h => ?_
  obtain ⟨_, _, rfl, A, R, tl, s, q, xs, rfl, rfl, hT, hD, hq1, nu, nl, hu, hw, lu, lw, hlen, hx, hq⟩ := h
  have cc := T.c_Turning
  have a1 := T.a_Turning_upper
  have a2 := T.a_Turning_lower
  have hUu : H A.u = some (.lst (nV s.upper)) := by rw [← hD.u]; exact hT.u
  have hUw : H A.w = some (.lst (nV s.lower)) := by rw [← hD.w]; exact hT.w
  refine ⟨_, (pss_cons (ps_asg (pe_tup (pa_cons (cm (ok_Turning_fronts T) hr (pv 0) (pa_cons (pe_fld (pv 0) rfl) pa_nil)) (pa_cons (cm (ok_Turning_fronts T) hr (pv 0) (pa_cons (pe_fld (pv 0) rfl) pa_nil)) pa_nil))) (pg_tup rfl (pgs_cons (pg_name (i := 2) sc_Turning_moved.nd rfl (by first | exact .inl rfl | exact .inr rfl)) (pgs_cons (pg_name (i := 3) sc_Turning_moved.nd rfl (by first | exact .inl rfl | exact .inr rfl)) pgs_nil))))
  (pss_one (ps_ret (pe_lc (own := [("piece", 4)]) (g := (gName 4)) (tt := tYes) (te := (tTup (tCons (tDGet (tVar 2) (tVar 4)) (tCons (tOp (rI0 fun i j => .int (i - j)) (tDGet (tVar 3) (tVar 4)) (tDGet (tVar 2) (tVar 4))) tNil)))) rfl sc_Turning_moved.nd (pi_list (pv 1)) (blkOk_by (N := ["self", "pieces", "before", "after", "piece"]) (sc := defScope s_Turning_moved) (by decide +kernel)) (fun _ _ _ _ _ => (pg_name (i := 4) sc_Turning_moved.nd rfl (by first | exact .inl rfl | exact .inr rfl))) (fun _ _ _ _ _ => pts_nil) (fun _ _ _ _ _ => (pe_tup (pa_cons (pe_dget (hu_of hr) (pv 2) (pv 4) (fun _ _ => rfl)) (pa_cons (pe_op op_sub (pe_dget (hu_of hr) (pv 3) (pv 4) (fun _ _ => rfl)) (pe_dget (hu_of hr) (pv 2) (pv 4) (fun _ _ => rfl))) pa_nil)))))))), ?_⟩
  walk_at "re"
  intro d H1 kv s1 hd1 hv1
  have hT1 := hT.sub s1
  have hD1 := hD.sub s1
  have hUw1 := s1.at hUw
  walk_at "re"
  intro d2 H2 kv2 s2 hd2 hv2
  have hd3 := s2.at hd1
  have s3 : Sub H H2 := s1.tr s2
  refine ⟨by show 2 ≤ sizeLine; decide, fun r nr => ?_⟩
  refine ⟨r, _, rfl, SqT.of upd_same, rfl, ?_⟩
  have s4 : Sub H2 (upd H2 r (.tup [.ref d, .ref d2])) := Sub.rfl'.new nr
  generalize upd H2 r (.tup [.ref d, .ref d2]) = H3 at s4
  have s5 : Sub H H3 := s3.tr s4
  have hd4 := s4.at hd2
  have hd5 := s4.at hd3
  walk_at "re"
  refine ⟨⟨_, SqL.of (s5.at hq1)⟩, fun D hD0 => lc_col (walk_list (xs := nV xs)) hD0 (by rw [nV_len]; omega) (fun i v H' => ∃ a x, v = .ref a ∧ xs[i]? = some x ∧ mvAt s H' a x)
    (fun i v Ha Hb l hl hs ⟨a, x, e, h1, h2⟩ => ⟨a, x, e, h1, hs.at (msk_at h2 (by
      intro z
      have z' : a = D := by simpa using z
      have h3 : Ha a = _ := h2
      rw [z', hl] at h3; cases h3))⟩) (fun Ha hs => SqL.of ((s5.tr hs).at hq1)) (fun i x Ha Hb hi hs hy Q' Nx hq' => ?_) fun acc Ha hs ha hl hR => ?_⟩
  · obtain ⟨rfl, hx1⟩ := hy
    obtain ⟨y, hy, rfl⟩ := nV_inv hx1
    obtain ⟨hyu, hyl⟩ := hx y (List.mem_of_getElem? hy)
    have g1 : DGet Hb d (.int (y : Int)) (some (.int (pre s.L s.upper y))) := by rw [← hv1 y hyu]; exact DGet.k (k := .inl (y : Int)) (hs.at hd5)
    have g2 : DGet Hb d2 (.int (y : Int)) (some (.int (pre s.L s.lower y))) := by rw [← hv2 y hyl]; exact DGet.k (k := .inl (y : Int)) (hs.at hd4)
    walk_at "rd"
    refine ⟨by show 2 ≤ sizeLine; decide, fun t nt => ?_⟩
    exact hq' _ _ (Sub.rfl'.new nt) ⟨t, y, rfl, hy, upd_same⟩
  · have hacc : ∃ as, acc = rV as ∧ A2 (mvAt s Ha) as xs := acc_of acc xs (by rw [hl, nV_len]) hR
    obtain ⟨as, rfl, hA⟩ := hacc
    exact hq D Ha as (s5.tr hs) ha hA
theorem sc_Turning_stage : FnScope ["self", "stop", "total", "size", "pieces", "sizes", "shown", "piece", "steps", "begin", "shift"] ["self", "stop", "total", "size", "pieces"] (defScope s_Turning_stage) := ⟨rfl, rfl, rfl, by decide +kernel, rfl, by decide +kernel, by decide +kernel⟩
theorem made_sub {H1 H2 : Hp} {x dx : Addr} {o1 o2 : HO} (nx : H1 x = none) (nd : H1 dx = none) (s : Sub (msk [x] (upd (upd H1 dx o1) x o2)) H2) : Sub H1 H2 := fun a o h => by
  refine s.at (msk_at ?_ ?_)
  · rw [upd_ne (ne_of_none h nx), upd_ne (ne_of_none h nd)]; exact h
  · intro z
    exact ne_of_none h nx (by simpa using z)
abbrev sp_Turning_stage (K : PySem.W.Frag) : Sp := P5 fun a st t sz ps H Q => ∃ (A : TA) (R : Raw) (s : Rz.St) (stop total : Int) (size : Nat) (q : Addr) (xs : List Nat), a = .ref A.t ∧ st = .int stop ∧ t = .int total ∧ sz = .int (size : Int) ∧ ps = .ref q ∧
  TRaw K H A R true ∧ Deep K H R s ∧ H q = some (.lst (nV xs)) ∧ s.upper.Nodup ∧ s.lower.Nodup ∧ (∀ x ∈ s.upper, x < s.left.length) ∧ (∀ x ∈ s.lower, x < s.left.length) ∧
  s.upper.length ≤ 1000 ∧ s.lower.length ≤ 1000 ∧ xs.length ≤ 1000 ∧ (∀ x ∈ xs, x ∈ s.upper ∧ x ∈ s.lower ∧ x < s.tales.length ∧ s.tale x < s.nodes.length) ∧ s.recs.length < 90000 ∧ 
  ∀ H' R', Sub (msk (A.fp true) H) H' → TRaw K H' A R' true → Deep K H' R' (s.stage stop total size xs) → Q .non H'
theorem ok_Turning_stage (T : Tx K mg) : Gm P w K mg base 3 (cT K) "stage" ["self", "stop", "total", "size", "pieces"] [] (sp_Turning_stage K) := by
  refine mkm T.F_Turning_stage T.c_Turning T.m_Turning_stage sc_Turning_stage P5.ar (fun _ _ _ _ _ _ us hl => match us, hl with | [_, _, _, _, _], _ => rfl) fun cdv A0 outer s0 H vs Q E hr h => ?_
  obtain ⟨_, _, _, _, _, rfl, A, R, s, stop, total, size, q, xs, rfl, rfl, rfl, rfl, rfl, hT, hD, hq1, nu, nl, hu, hw, lu, lw, hlen, hx, lr, hq⟩ := h
  have cc := T.c_Turning
  have a1 := T.a_Turning_sizes
  have a2 := T.a_Turning_tales
  have a3 := T.a_Turning_records
  have a4 := T.a_Turning_end
  refine ⟨_, (pss_cons (ps_setLc (i := 5) (own := [("piece", 7)]) (g := (gName 7)) (tt := tYes) (te := (tOp (rIxL K) (tFld K (tVar 0) "sizes") (tOp (rIxL K) (tFld K (tVar 0) "tales") (tVar 7)))) rfl sc_Turning_stage.nd rfl rfl (sw_true rfl rfl rfl (by decide +kernel)) (pi_list (pv 4)) (blkOk_by (N := ["self", "stop", "total", "size", "pieces", "sizes", "shown", "piece", "steps", "begin", "shift"]) (sc := defScope s_Turning_stage) (by decide +kernel)) (fun _ _ _ _ _ => (pg_name (i := 7) sc_Turning_stage.nd rfl (by first | exact .inl rfl | exact .inr rfl))) (fun _ _ _ _ _ => pts_nil) (fun _ _ _ _ _ => (pe_ix ix_list (pe_fld (pv 0) rfl) (pe_ix ix_list (pe_fld (pv 0) rfl) (pv 7) (fun _ _ => rfl)) (fun _ _ => rfl))))
  (pss_cons (ps_setLc (i := 6) (own := [("steps", 8), ("begin", 9), ("shift", 10)]) (g := (gTup K 2 (gCons (gTup K 2 (gCons (gName 9) (gCons (gName 10) gNil))) (gCons (gName 8) gNil)))) (tt := tYes) (te := (tTup (tCons (tVar 9) (tCons (tVar 10) (tCons (tVar 8) tNil))))) rfl sc_Turning_stage.nd rfl rfl (sw_true rfl rfl rfl (by decide +kernel)) (pi_zip rfl T.n_zip (pa_cons (cm (ok_Turning_moved T) hr (pv 0) (pa_cons (pv 4) pa_nil)) (pa_cons (pv 5) pa_nil))) (blkOk_by (N := ["self", "stop", "total", "size", "pieces", "sizes", "shown", "piece", "steps", "begin", "shift"]) (sc := defScope s_Turning_stage) (by decide +kernel)) (fun _ _ _ _ _ => (pg_tup rfl (pgs_cons (pg_tup rfl (pgs_cons (pg_name (i := 9) sc_Turning_stage.nd rfl (by first | exact .inl rfl | exact .inr rfl)) (pgs_cons (pg_name (i := 10) sc_Turning_stage.nd rfl (by first | exact .inl rfl | exact .inr rfl)) pgs_nil))) (pgs_cons (pg_name (i := 8) sc_Turning_stage.nd rfl (by first | exact .inl rfl | exact .inr rfl)) pgs_nil)))) (fun _ _ _ _ _ => pts_nil) (fun _ _ _ _ _ => (pe_tup (pa_cons (pv 9) (pa_cons (pv 10) (pa_cons (pv 8) pa_nil))))))
  (pss_cons (ps_expr (pe_bm PySem.F.plainAttrs_list PySem.F.slot_list_append PySem.F.type_list_append mt_append (pe_fld (pv 0) rfl) (pa_cons (ci (ok_Stage_init T) hr (pa_cons (pe_fld (pv 0) rfl) (pa_cons (pv 1) (pa_cons (pv 2) (pa_cons (pv 3) (pa_cons (pe_callTy call_tuple_of rfl T.n_tuple (by decide +kernel) (pa_cons (pv 6) pa_nil)) pa_nil)))))) pa_nil)))
  (pss_one (ps_fld (pv 0) (pv 1) rfl))))), ?_⟩
  walk_at "re"
  refine ⟨⟨_, SqL.of hq1⟩, fun D hD0 => lc_val (walk_list (xs := nV xs)) hD0 (by rw [nV_len]; omega) (nV (xs.map fun x => s.sz (s.tale x))) (by rw [nV_len, nV_len, List.length_map]) (fun Ha hs => SqL.of (hs.at hq1)) (fun i x Ha Hb hi hs hy Q' Nx hq' => ?_) fun Ha hs ha => ?_⟩
  · obtain ⟨rfl, hx1⟩ := hy
    obtain ⟨y, hy, rfl⟩ := nV_inv hx1
    obtain ⟨_, _, ht, hn⟩ := hx y (List.mem_of_getElem? hy)
    have hTb := hT.sub hs
    have z1 := atI_nat (hD.tale ht)
    have z2 := atI_nat (hD.sz hn)
    walk_at "re"
    exact hq' _ _ Sub.rfl' (nV_get (by rw [List.getElem?_map, hy]; rfl))
  · have hTa := hT.sub hs
    have hDa := hD.sub hs
    have hqa := hs.at hq1
    have hxm : ∀ x ∈ xs, x ∈ s.upper ∧ x ∈ s.lower := fun x h => ⟨(hx x h).1, (hx x h).2.1⟩
    walk_at "re"
    intro p Hb as sb hp hA
    have hDz := sb.at ha
    have s1 : Sub H Hb := hs.tr sb
    have lA := hA.len
    have lS : (nV (xs.map fun x => s.sz (s.tale x))).length = xs.length := by rw [nV_len, List.length_map]
    refine ⟨_, rfl, p, D, rV as, _, rfl, SqL.of hp, SqL.of hDz, fun D2 hD2 => lc_col (walk_zip (n := xs.length) (by rw [rV_len, lS, lA, Nat.min_self])) hD2 (by omega) (fun i v H' => ∃ a x, v = .ref a ∧ (s.shown xs)[i]? = some x ∧ p3 H' a x)
      (fun i v Ha Hb l hl hs ⟨a, x, e, h1, h2⟩ => ⟨a, x, e, h1, hs.at (msk_at h2 (by
        intro z
        have z' : a = D2 := by simpa using z
        have h3 : Ha a = _ := h2
        rw [z', hl] at h3; cases h3))⟩) (fun Hc hc => ⟨SqL.of (hc.at hp), SqL.of (hc.at hDz)⟩) (fun i x Hc Hd hi hc hy Q' Nx hq' => ?_) fun acc Hc hc hac hl hR => ?_⟩
    · obtain ⟨t, v1, v2, rfl, nt, rfl, e1, e2⟩ := hy
      obtain ⟨tt, ht, rfl⟩ := rV_inv e1
      obtain ⟨zz, hz, rfl⟩ := nV_inv e2
      rw [List.getElem?_map] at hz
      obtain ⟨x0, hx0, hm⟩ := hA.get' ht
      rw [hx0] at hz
      have ez : s.sz (s.tale x0) = zz := Option.some.inj hz
      have sd : Sub Hc (upd Hc t (.tup [.ref tt, .int (zz : Int)])) := Sub.rfl'.new nt
      have hm2 := sd.at (hc.at hm)
      refine ⟨t, _, rfl, SqT.of upd_same, rfl, _, _, rfl, ⟨tt, _, rfl, SqT.of hm2, rfl, ?_⟩⟩
      walk_at "rd"
      refine ⟨by show 3 ≤ sizeLine; decide, fun u nu2 => ?_⟩
      refine hq' _ _ (sd.new nu2) ⟨u, (pre s.L s.upper x0, pre s.L s.lower x0 - pre s.L s.upper x0, s.sz (s.tale x0)), rfl, ?_, ?_⟩
      · unfold St.shown
        rw [List.getElem?_map, hx0]; rfl
      · show upd _ _ _ _ = _
        rw [upd_same, ← ez]
    · obtain ⟨bs, rfl, hB⟩ := acc_of acc (s.shown xs) (by rw [hl]; unfold St.shown; rw [List.length_map]) hR
      have s2 : Sub H Hc := s1.tr hc
      have hTc := hT.sub s2
      have hDc := hD.sub s2
      have hsn : (s.shown xs).length = xs.length := by unfold St.shown; rw [List.length_map]
      walk_at "re"
      refine ⟨tyL hTc.r, ?_⟩
      walk_at "re"
      refine .inl ⟨SqL.of hac, fun l nl2 => ?_⟩
      intro x dx nx ndx nex
      have s3 : Sub Hc (upd Hc l (.tup (rV bs))) := Sub.rfl'.new nl2
      have hl2 : upd Hc l (.tup (rV bs)) l = some (.tup (rV bs)) := upd_same
      generalize upd Hc l (.tup (rV bs)) = He at s3 hl2 nx ndx
      refine ⟨_, _, _, _, _, _, rfl, x, dx, rfl, upd_same, fun Hf sf hf => ⟨rfl, ?_⟩⟩
      have s4 : Sub He Hf := made_sub nx ndx sf
      have s5 : Sub Hc Hf := s3.tr s4
      have hTf := hTc.sub s5
      have hDf := hDc.sub s5
      have lr2 : R.r.length < 90000 := by rw [hD.r.len]; exact lr
      refine ⟨_, _, _, rfl, rfl, hTf.r, szlt (by omega), ?_⟩
      have hT1 := hTf.set_r (R.r ++ [.ref x])
      refine ⟨_, rfl, _, rfl, _, _, _, _, rfl, hT1.ins, cc, a4, TA.fs_len _ _ _, ?_⟩
      rw [TA.put_end]
      have hT2 := hT1.set_fin stop
      have m1 : Sub (msk (A.fp true) H) Hf := msk_sub.tr (s2.tr s5)
      have m2 := mskU (o := .lst (R.r ++ [.ref x])) m1 (TA.in_r (A := A) (b := true))
      have m3 := mskU (o := .ins (cT K) A.dx (A.fs stop true)) m2 (TA.in_t (A := A) (b := true))
      refine hq _ _ m3 hT2 ?_
      have im : Imm K Hf (upd (upd Hf A.r (.lst (R.r ++ [.ref x]))) A.t (.ins (cT K) A.dx (A.fs stop true))) := hTf.imm T (mskU (mskU msk_sub TA.in_r) TA.in_t)
      have hstg : StgAt K Hf x ⟨s.fin, stop, total, size, s.shown xs⟩ := by
        refine ⟨dx, l, bs, ?_, s4.at hl2, hB.mono fun _ _ z => s5.at z, by rw [rV_len] at hl; omega⟩
        exact hf.trans (by rw [hD.fin]; rfl)
      have hDg := hDf.imm im
      refine ⟨hDg.n, hDg.z, hDg.d, ?_, ?_, hDg.l, hDg.u, hDg.w, hDg.a, rfl⟩
      · exact hDg.r.snoc ⟨x, rfl, hstg.imm im⟩
      · have e : bands (s.stage stop total size xs).recs = bands s.recs := bands_st _ _
        rw [e]; exact hDg.f
end
end Bt
end
section
set_option Elab.async false
set_option linter.all false
set_option maxRecDepth 100000
set_option maxHeartbeats 2000000
set_option autoImplicit false
namespace Bt
open PySem PySem.Spec PyProof.Rows L2 Rz
section
variable {K : PySem.W.Frag} {H H' : Hp} {A : TA} {R : Raw} {b : Bool} {s : Rz.St} {mg : PySem.Str → Option Value}
theorem Deep.cut (h : Deep K H R s) {x : Nat} (d : Int) (hx : x < s.left.length) : Deep K H { R with l := R.l.set x (.int (s.L x - d)) } (s.cut x d) := by
  refine ⟨h.n, h.z, h.d, h.r, h.f, ?_, h.u, h.w, h.a, h.fin⟩
  show R.l.set x _ = iV (s.left.set x (s.L x - d))
  rw [h.l, iV_set]
theorem Deep.setA (h : Deep K H R s) (x n : Nat) : Deep K H { R with a := R.a.set x (.int (n : Int)) } { s with tales := s.tales.set x n } := by
  refine ⟨h.n, h.z, h.d, h.r, h.f, h.l, h.u, h.w, ?_, h.fin⟩
  show R.a.set x _ = nV (s.tales.set x n)
  rw [h.a, nV_set]
theorem Deep.setW (h : Deep K H R s) (ws : List Nat) : Deep K H { R with w := nV ws } { s with lower := ws } := ⟨h.n, h.z, h.d, h.r, h.f, h.l, h.u, rfl, h.a, h.fin⟩
theorem Deep.setU (h : Deep K H R s) (ws : List Nat) : Deep K H { R with u := nV ws } { s with upper := ws } := ⟨h.n, h.z, h.d, h.r, h.f, h.l, rfl, h.w, h.a, h.fin⟩
theorem TRaw.out (h : TRaw K H A R true) {p : Addr} (np : H p = none) : p ∉ A.fp true := fun hm => by
  have hm' : p = A.t ∨ p = A.n ∨ p = A.z ∨ p = A.d ∨ p = A.r ∨ p = A.f ∨ p = A.l ∨ p = A.u ∨ p = A.w ∨ p = A.a := by
    unfold TA.fp at hm
    simpa using hm
  rcases hm' with e | e | e | e | e | e | e | e | e | e <;> rw [e] at np
  · rw [h.ins] at np; cases np
  · rw [h.n] at np; cases np
  · rw [h.z] at np; cases np
  · rw [h.d] at np; cases np
  · rw [h.r] at np; cases np
  · rw [h.f] at np; cases np
  · rw [h.l] at np; cases np
  · rw [h.u] at np; cases np
  · rw [h.w] at np; cases np
  · rw [h.a rfl] at np; cases np
end
theorem mskTr {F : List Addr} {H H1 H2 : Hp} (a : Sub (msk F H) H1) (b : Sub (msk F H1) H2) : Sub (msk F H) H2 := fun x o h => by
  by_cases c : x ∈ F
  · rw [msk_in c] at h; cases h
  · exact b.at (msk_at (a.at h) c)
section
variable {P : Program} {w : World} {K : PySem.W.Frag} {mg : PySem.Str → Option Value} {base : Heap}
local macro_rules | `(tactic| walk_at "sd") => `(tactic| first
  | rfl | assumption
  | exact Sub.at ‹Sub _ _› (by assumption)
  | exact SqL.of (by assumption) | exact SqT.of (by assumption) | exact SqL.of (Sub.at ‹Sub _ _› (by assumption)) | exact SqT.of (Sub.at ‹Sub _ _› (by assumption))
  | exact Or.inl (SqL.of (by assumption)) | exact Or.inr (SqT.of (by assumption)) | exact Or.inl (SqL.of (Sub.at ‹Sub _ _› (by assumption))) | exact Or.inr (SqT.of (Sub.at ‹Sub _ _› (by assumption)))
  | exact ClsV.ty _ | exact TyX.base (.int _) | exact TyX.base (.str _) | exact TyX.base (.tup (by assumption)) | exact kit_int | exact kit_ib | exact kit_ss | exact kit_tt)
local macro_rules | `(tactic| walk_at "rd1") => `(tactic| first
  | (apply Exists.intro)
  | (refine And.intro ?_ ?_; (focus (walk_at "sd")))
  | (refine L2.iteT ?_)
  | (refine L2.iteF ?_))
local macro_rules | `(tactic| walk_at "rd") => `(tactic| repeat (walk_at "rd1"))
local macro_rules | `(tactic| walk_at "se") => `(tactic| first
  | rfl | assumption
  | exact Sub.at ‹Sub _ _› (by assumption)
  | exact SqL.of (by assumption) | exact SqT.of (by assumption) | exact SqL.of (Sub.at ‹Sub _ _› (by assumption)) | exact SqT.of (Sub.at ‹Sub _ _› (by assumption))
  | exact Or.inl (SqL.of (by assumption)) | exact Or.inr (SqT.of (by assumption)) | exact Or.inl (SqL.of (Sub.at ‹Sub _ _› (by assumption))) | exact Or.inr (SqT.of (Sub.at ‹Sub _ _› (by assumption)))
  | exact TRaw.ins ‹TRaw _ _ _ _ _› | exact TA.miss
  | exact TRaw.n ‹TRaw _ _ _ _ _›
  | exact TRaw.z ‹TRaw _ _ _ _ _›
  | exact TRaw.d ‹TRaw _ _ _ _ _›
  | exact TRaw.r ‹TRaw _ _ _ _ _›
  | exact TRaw.f ‹TRaw _ _ _ _ _›
  | exact TRaw.l ‹TRaw _ _ _ _ _›
  | exact TRaw.u ‹TRaw _ _ _ _ _›
  | exact TRaw.w ‹TRaw _ _ _ _ _› | exact TRaw.a ‹TRaw _ _ _ _ _› rfl
  | exact SqL.of (TRaw.n ‹TRaw _ _ _ _ _›)
  | exact SqL.of (TRaw.z ‹TRaw _ _ _ _ _›)
  | exact SqL.of (TRaw.d ‹TRaw _ _ _ _ _›)
  | exact SqL.of (TRaw.r ‹TRaw _ _ _ _ _›)
  | exact SqL.of (TRaw.f ‹TRaw _ _ _ _ _›)
  | exact SqL.of (TRaw.l ‹TRaw _ _ _ _ _›)
  | exact SqL.of (TRaw.u ‹TRaw _ _ _ _ _›)
  | exact SqL.of (TRaw.w ‹TRaw _ _ _ _ _›) | exact SqL.of (TRaw.a ‹TRaw _ _ _ _ _› rfl)
  | exact ClsV.ty _ | exact TyX.base (.int _) | exact TyX.base (.str _) | exact TyX.base (.tup (by assumption)) | exact kit_int | exact kit_ib | exact kit_ss | exact kit_tt)
local macro_rules | `(tactic| walk_at "re1") => `(tactic| first
  | (apply Exists.intro)
  | (refine And.intro ?_ ?_; (focus (walk_at "se")))
  | (refine L2.iteT ?_)
  | (refine L2.iteF ?_))
local macro_rules | `(tactic| walk_at "re") => `(tactic| repeat (walk_at "re1"))

theorem sc_Turning_upper_wins : FnScope ["self", "winner", "spot", "losers", "total", "word", "many", "loss", "more", "piece"] ["self", "winner"] (defScope s_Turning_upper_wins) := ⟨rfl, rfl, rfl, by decide +kernel, rfl, by decide +kernel, by decide +kernel⟩
/-- what the shortening's parts want -/
structure Fit0 (n : Int) (T : Int → Int) (m : Nat) (s : Rz.St) : Prop where
  g : Good n T m s
  b : Bd m s
  n12 : n ≤ 1000000000000
  m6 : m ≤ 6
  rl : s.recs.length ≤ 1000
theorem Fit0.nl {n T m s} (f : Fit0 n T m s) : s.nodes.length ≤ 7006 := by have := f.b.len; have := f.m6; have := f.rl; omega
theorem Fit0.ul {n T m s} (f : Fit0 n T m s) : s.upper.length ≤ 6 := by have := f.b.up; have := f.m6; omega
theorem Fit0.wl {n T m s} (f : Fit0 n T m s) : s.lower.length ≤ 6 := by have := f.ul; have := f.g.perm.length_eq; omega
theorem Fit0.memL {n T m s} (f : Fit0 n T m s) {x : Nat} (h : x ∈ s.lower) : x ∈ s.upper := f.g.perm.mem_iff.mpr h
theorem Fit0.ltl {n T m s} (f : Fit0 n T m s) {x : Nat} (h : x ∈ s.upper) : x < s.left.length := by rw [f.g.ll]; exact f.g.lt x h
theorem Fit0.ltt {n T m s} (f : Fit0 n T m s) {x : Nat} (h : x ∈ s.upper) : x < s.tales.length := by rw [f.g.tl]; exact f.g.lt x h
/-- the lists of numbers that the comprehensions make -/
theorem sum_comp {L : Nat → Int} (ls : List Nat) : (ls.map L).sum = tot L ls := map_sum L ls
abbrev sp_Turning_upper_wins (K : PySem.W.Frag) : Sp := P2 fun a b H Q => ∃ (A : TA) (R : Raw) (s : Rz.St) (n : Int) (T : Int → Int) (m x y : Nat) (us ls : List Nat), a = .ref A.t ∧ b = .int (x : Int) ∧ TRaw K H A R true ∧ Deep K H R s ∧ Fit0 n T m s ∧ s.upper = us ++ [x] ∧ s.lower = ls ++ [y] ∧ x ≠ y ∧
  ∀ H' R', Sub (msk (A.fp true) H) H' → TRaw K H' A R' true → Deep K H' R' (upW s x) → Q .non H'
theorem ok_Turning_upper_wins (T : Tx K mg) : Gm P w K mg base 4 (cT K) "upper_wins" ["self", "winner"] [] (sp_Turning_upper_wins K) := by
  refine mkm T.F_Turning_upper_wins T.c_Turning T.m_Turning_upper_wins sc_Turning_upper_wins P2.ar (fun _ _ _ _ _ _ us hl => match us, hl with | [_, _], _ => rfl) fun cdv A0 outer s0 H vs Q E hr h => ?_
  obtain ⟨_, _, rfl, A, R, s, n, TT, m, x, y, us, ls, rfl, rfl, hT, hD, hf, hu, hl, ne, hq⟩ := h
  have F := up_facts hf.g hu hl ne
  have cc := T.c_Turning
  have a1 := T.a_Turning_lower
  have a2 := T.a_Turning_left
  have a3 := T.a_Turning_tales
  have a4 := T.a_Turning_end
  have a5 := T.a_Turning_sizes
  have hw1 : H A.w = some (.lst (nV s.lower)) := by rw [← hD.w]; exact hT.w
  have hxu : x ∈ s.upper := by rw [hu]; simp
  have n12 := hf.n12
  have fle := hf.g.le
  have hLx := atI_nat (hD.L (hf.ltl hxu))
  have hTx := atI_nat (hD.tale (hf.ltt hxu))
  refine ⟨_, (pss_cons (ps_set (i := 2) sc_Turning_upper_wins.nd rfl (by first | exact .inl rfl | exact .inr rfl) (pe_op op_add (pe_bm PySem.F.plainAttrs_list PySem.F.slot_list_index PySem.F.type_list_index mt_index (pe_fld (pv 0) rfl) (pa_cons (pv 1) pa_nil)) pe_int))
  (pss_cons (ps_set (i := 3) sc_Turning_upper_wins.nd rfl (by first | exact .inl rfl | exact .inr rfl) (pe_slice sl_list (pe_fld (pv 0) rfl) (po_some (pv 2)) po_none))
  (pss_cons (ps_par (i := 4) (j := 5) rfl sc_Turning_upper_wins.nd rfl rfl (by decide) rfl rfl (pa_cons (pe_callB (cr_sum rfl) rfl T.n_sum (by decide +kernel) (pa_cons (pe_lc (own := [("piece", 9)]) (g := (gName 9)) (tt := tYes) (te := (tOp (rIxL K) (tFld K (tVar 0) "left") (tVar 9))) rfl sc_Turning_upper_wins.nd (pi_list (pv 3)) (blkOk_by (N := ["self", "winner", "spot", "losers", "total", "word", "many", "loss", "more", "piece"]) (sc := defScope s_Turning_upper_wins) (by decide +kernel)) (fun _ _ _ _ _ => (pg_name (i := 9) sc_Turning_upper_wins.nd rfl (by first | exact .inl rfl | exact .inr rfl))) (fun _ _ _ _ _ => pts_nil) (fun _ _ _ _ _ => (pe_ix ix_list (pe_fld (pv 0) rfl) (pv 9) (fun _ _ => rfl)))) pa_nil)) (pa_cons (pe_ix ix_list (pe_fld (pv 0) rfl) (pv 1) (fun _ _ => rfl)) pa_nil)) rfl)
  (pss_cons (ps_set (i := 6) sc_Turning_upper_wins.nd rfl (by first | exact .inl rfl | exact .inr rfl) (pe_op op_fdivW (pe_op op_sub (pe_ix ix_list (pe_fld (pv 0) rfl) (pv 1) (fun _ _ => rfl)) pe_int) (pv 4)))
  (Evl.pss_cut (ps_if (pt_cmpR op_eq (pv 6) pe_int (nomark _)) (pss_cons (ps_set (i := 3) sc_Turning_upper_wins.nd rfl (by first | exact .inl rfl | exact .inr rfl) (pe_slice sl_list (pv 3) (po_some (pe_un un_neg pe_int)) po_none))
  (pss_one (ps_expr (pe_bm PySem.F.plainAttrs_list PySem.F.slot_list_insert PySem.F.type_list_insert mt_insert (pe_fld (pv 0) rfl) (pa_cons (pv 2) (pa_cons (pe_bm0 PySem.F.plainAttrs_list PySem.F.slot_list_pop PySem.F.type_list_pop mt_pop (pe_fld (pv 0) rfl)) pa_nil)))))) pss_nil)
  (pss_cons (ps_set (i := 7) sc_Turning_upper_wins.nd rfl (by first | exact .inl rfl | exact .inr rfl) (pe_op op_mul (pe_callB (cr_sum rfl) rfl T.n_sum (by decide +kernel) (pa_cons (pe_lc (own := [("piece", 9)]) (g := (gName 9)) (tt := tYes) (te := (tOp (rIxL K) (tFld K (tVar 0) "left") (tVar 9))) rfl sc_Turning_upper_wins.nd (pi_list (pv 3)) (blkOk_by (N := ["self", "winner", "spot", "losers", "total", "word", "many", "loss", "more", "piece"]) (sc := defScope s_Turning_upper_wins) (by decide +kernel)) (fun _ _ _ _ _ => (pg_name (i := 9) sc_Turning_upper_wins.nd rfl (by first | exact .inl rfl | exact .inr rfl))) (fun _ _ _ _ _ => pts_nil) (fun _ _ _ _ _ => (pe_ix ix_list (pe_fld (pv 0) rfl) (pv 9) (fun _ _ => rfl)))) pa_nil)) (pe_callB (call_max2 rfl) rfl T.n_max (by decide +kernel) (pa_cons (pv 6) (pa_cons pe_int pa_nil)))))
  (pss_cons (ps_expr (cm (ok_Turning_stage T) hr (pv 0) (pa_cons (pe_op op_sub (pe_fld (pv 0) rfl) (pv 7)) (pa_cons (pv 4) (pa_cons (pe_ix ix_list (pe_fld (pv 0) rfl) (pv 5) (fun _ _ => rfl)) (pa_cons (pe_lst pa_nil) pa_nil))))))
  (pss_cons (ps_set (i := 8) sc_Turning_upper_wins.nd rfl (by first | exact .inl rfl | exact .inr rfl) (cm (ok_Turning_times T) hr (pv 0) (pa_cons (pv 5) (pa_cons (pe_callB (call_max2 rfl) rfl T.n_max (by decide +kernel) (pa_cons (pv 6) (pa_cons pe_int pa_nil))) pa_nil))))
  (pss_cons (ps_for PassesOwn.never rfl (pi_list (pv 3)) (pg_name (i := 9) sc_Turning_upper_wins.nd rfl (by first | exact .inl rfl | exact .inr rfl)) (pss_one (ps_asg (cm (ok_Turning_two T) hr (pv 0) (pa_cons (pe_ix ix_list (pe_fld (pv 0) rfl) (pv 9) (fun _ _ => rfl)) (pa_cons (pv 8) pa_nil))) (pg_sub (pe_fld (pv 0) rfl) (pv 9) set_list))))
  (pss_one (ps_augS (pe_fld (pv 0) rfl) (pv 1) get_list (pv 7) ip_sub set_list))))))))))), ?_⟩
  refine ⟨_, rfl, _, _, _, _, _, rfl, hT.ins, cc, a1, rfl, tyL hw1, _, rfl, ?_⟩
  refine ⟨A.w, nV s.lower, .int (x : Int), s.lower.idxOf x, .int (x : Int), rfl, rfl, SqL.of hw1, rfl, nV_flat _, nV_get (idx_at F.mem), eqV_self _, no_before, ?_⟩
  walk_at "re"
  intro p np
  have ecut : cutV (nV s.lower) (some ((s.lower.idxOf x : Int) + 1)) none = nV (upD s x) := by
    rw [show ((s.lower.idxOf x : Int) + 1) = ((s.lower.idxOf x + 1 : Nat) : Int) from rfl, cut_from, nV_drop]; rfl
  rw [ecut]
  have s1 : Sub H (upd H p (.lst (nV (upD s x)))) := Sub.rfl'.new np
  have hp1 : upd H p (.lst (nV (upD s x))) p = some (.lst (nV (upD s x))) := upd_same
  generalize upd H p (.lst (nV (upD s x))) = H1 at s1 hp1
  have hlenD : (upD s x).length ≤ 6 := Nat.le_trans (by unfold upD; rw [List.length_drop]; exact Nat.sub_le _ _) hf.wl
  refine ⟨_, rfl, p, rfl, ⟨_, SqL.of hp1⟩, fun D hD0 => lc_val (walk_list (xs := nV (upD s x))) hD0 (by rw [nV_len]; omega) (iV ((upD s x).map s.L)) (by rw [nV_len, iV_len, List.length_map]) (fun Ha hs => SqL.of (hs.at hp1)) (fun i v Ha Hb hi hs hy Q' Nx hq' => ?_) fun Ha hs ha => ?_⟩
  · obtain ⟨rfl, hx1⟩ := hy
    obtain ⟨y1, hy, rfl⟩ := nV_inv hx1
    have hTb := hT.sub (s1.tr hs)
    have z1 := atI_nat (hD.L (hf.ltl (hf.memL (F.sub y1 (List.mem_of_getElem? hy)))))
    walk_at "re"
    exact hq' _ _ Sub.rfl' (iV_get (by rw [List.getElem?_map, hy]; rfl))
  have s2 : Sub H Ha := s1.tr hs
  have hTa := hT.sub s2
  have hDa := hD.sub s2
  have hpa := hs.at hp1
  walk_at "re"
  rw [sum_comp]
  have cd : CDivW (s.L x - 1) (tot s.L (upD s x)) := cdiv12 F.t1 (by have := F.t2; omega)
  have hfresh : p ∉ A.fp true := hT.out np
  refine ⟨cd, fun σ H' => Bx (∃ R' q, σ = [some (.ref A.t), some (.int (x : Int)), some (.int ((s.lower.idxOf x : Int) + 1)), some (.ref q), some (.int (tot s.L (upD s x))), some (.int (s.tale x : Int)), some (.int (upM s x)), none, none, none] ∧
    Sub (msk (A.fp true) H) H' ∧ TRaw K H' A R' true ∧ Deep K H' R' (upS s x) ∧ H' q = some (.lst (nV (upLs s x))) ∧ q ∉ A.fp true), ?_, fun σ Hc h => ?_⟩
  · walk_at "re"
    refine L2.ite2 (fun z => ?_) fun z => ?_
    · have hm : upM s x = 0 := by
        rw [decide_eq_true_eq] at z
        injection z
      walk_at "re"
      intro p2 np2
      have enD : nV (upD s x) ≠ [] := fun e => F.ne (List.eq_nil_of_length_eq_zero (by rw [← nV_len, e]; rfl))
      rw [cut_last _ enD, nV_len, nV_drop]
      have e2 : upLs s x = (upD s x).drop ((upD s x).length - 1) := if_pos hm
      rw [← e2]
      have s3 : Sub H (upd Ha p2 (.lst (nV (upLs s x)))) := s2.new np2
      have hp2 : upd Ha p2 (.lst (nV (upLs s x))) p2 = some (.lst (nV (upLs s x))) := upd_same
      have f2 : p2 ∉ A.fp true := hTa.out np2
      generalize upd Ha p2 (.lst (nV (upLs s x))) = H2 at s3 hp2
      have hT2 := hT.sub s3
      have hD2 := hD.sub s3
      have hw2 := s3.at hw1
      have neL : s.lower ≠ [] := by rw [hl]; simp
      refine ⟨_, rfl, _, _, _, _, _, rfl, hT2.ins, cc, a1, rfl, tyL hw2, _, rfl, _, rfl, _, _, _, _, _, rfl, hT2.ins, cc, a1, rfl, tyL hw2, ?_⟩
      refine ⟨_, _, _, rfl, rfl, hw2, nV_last neL, ?_⟩
      have hT3 := hT2.set_w (nV s.lower).dropLast
      have s4 := mskU (o := .lst (nV s.lower).dropLast) (msk_sub.tr s3) (TA.in_w (A := A) (b := true))
      have dl : (nV s.lower).dropLast.length ≤ 6 := by rw [List.length_dropLast, nV_len]; have := hf.wl; omega
      refine ⟨_, _, _, _, rfl, rfl, hT3.w, szlt (by show (nV s.lower).dropLast.length < _; omega), by omega, ?_, ?_⟩
      · exact p63 (k := s.lower.idxOf x + 1) (by have := F.spot; rw [List.length_dropLast] at this; have := hf.wl; omega)
      · have hT4 := hT3.set_w (nV (s.lower.dropLast.insertIdx (s.lower.idxOf x + 1) s.lastL))
        have s5 := mskU (o := .lst (nV (s.lower.dropLast.insertIdx (s.lower.idxOf x + 1) s.lastL))) s4 (TA.in_w (A := A) (b := true))
        have e3 : (nV s.lower).dropLast.take ((s.lower.idxOf x : Int) + 1).toNat ++ [.int ((s.lower.getD (s.lower.length - 1) 0 : Nat) : Int)] ++ (nV s.lower).dropLast.drop ((s.lower.idxOf x : Int) + 1).toNat = nV (s.lower.dropLast.insertIdx (s.lower.idxOf x + 1) s.lastL) := by
          rw [show ((s.lower.idxOf x : Int) + 1).toNat = s.lower.idxOf x + 1 from rfl, insert_at _ _ _ F.spot, nV_app, nV_app, nV_dropLast, nV_take, nV_drop]; rfl
        show Bx _
        dsimp only
        rw [e3]
        refine ⟨_, p2, rfl, s5, hT4, ?_, ?_, f2⟩
        · have e1 : upS s x = { s with lower := s.lower.dropLast.insertIdx (s.lower.idxOf x + 1) s.lastL } := if_pos hm
          rw [e1]
          exact (hD2.imm (hT2.imm T (mskU (mskU msk_sub TA.in_w) TA.in_w))).setW _
        · have nw : p2 ≠ A.w := fun e => f2 (by rw [e]; exact TA.in_w)
          rw [upd_ne nw, upd_ne nw]; exact hp2
    · have hm : ¬ upM s x = 0 := fun e => z (by
        rw [decide_eq_true_eq]
        show V.int (upM s x) = _
        rw [e])
      have e1 : upS s x = s := if_neg hm
      have e2 : upLs s x = upD s x := if_neg hm
      rw [e1, e2]
      exact ⟨R, p, rfl, msk_sub.tr s2, hTa, hDa, hpa, hfresh⟩
  · obtain ⟨R1, q, rfl, m1, hT1, hD1, hq1, fq⟩ := h.o
    obtain ⟨sb, su⟩ := upS_same s x
    have hlenL : (upLs s x).length ≤ 6 := by
      unfold upLs
      split
      · rw [List.length_drop]; omega
      · exact hlenD
    have lt1 : ∀ z ∈ s.upper, z < (upS s x).left.length := fun z hz => by rw [sb.left]; exact hf.ltl hz
    have tt1 : ∀ z ∈ s.upper, z < (upS s x).tales.length := fun z hz => by rw [sb.tales]; exact hf.ltt hz
    have memL1 : ∀ z ∈ upLs s x, z ∈ s.upper := fun z hz => hf.memL (F.subL z hz)
    refine ⟨_, rfl, q, rfl, ⟨_, SqL.of hq1⟩, fun D2 hD20 => lc_val (walk_list (xs := nV (upLs s x))) hD20 (by rw [nV_len]; omega) (iV ((upLs s x).map s.L)) (by rw [nV_len, iV_len, List.length_map]) (fun Ha hs => SqL.of (hs.at hq1)) (fun i v Hd Hb hi hs2 hy Q' Nx hq' => ?_) fun Hd hsd hd => ?_⟩
    · obtain ⟨rfl, hx1⟩ := hy
      obtain ⟨y1, hy, rfl⟩ := nV_inv hx1
      have hTb := hT1.sub hs2
      have z1 := atI_nat (hD1.L (lt1 y1 (memL1 y1 (List.mem_of_getElem? hy))))
      rw [sb.L] at z1
      walk_at "re"
      exact hq' _ _ Sub.rfl' (iV_get (by rw [List.getElem?_map, hy]; rfl))
    · have hTd := hT1.sub hsd
      have hDd := hD1.sub hsd
      have hqd := hsd.at hq1
      have md : Sub (msk (A.fp true) H) Hd := m1.tr hsd
      walk_at "re"
      rw [sum_comp, max_k F.m0 (k := upK s x) rfl]
      have kle : upK s x ≤ 1000000000000 := by
        unfold upK
        have := F.m1
        have := F.lw
        split
        · decide
        · omega
      refine ⟨cmulR (by omega) (by omega), ?_⟩
      have z2 := hD1.fin
      rw [sb.fin] at z2
      have tlx : s.tale x < s.nodes.length := tale_lt hf.g hxu
      have z3 := atI_nat (hDd.sz (i := s.tale x) (by rw [sb.nodes]; exact tlx))
      walk_at "re"
      refine ⟨by show 0 ≤ sizeLine; decide, fun e nE => ?_⟩
      have s5 : Sub Hd (upd Hd e (.lst [])) := Sub.rfl'.new nE
      have he : upd Hd e (.lst []) e = some (.lst []) := upd_same
      generalize upd Hd e (.lst []) = He at s5 he
      have hTe := hTd.sub s5
      have hDe := hDd.sub s5
      have me : Sub (msk (A.fp true) H) He := md.tr s5
      have pl := hf.g.perm.length_eq
      have lwl := hf.wl
      have lul := hf.ul
      have nnl := hf.nl
      have rrl := hf.rl
      have lowl := F.perm.length_eq
      rw [hD1.fin]
      refine ⟨_, _, _, _, _, rfl, A, _, upS s x, _, _, _, e, [], rfl, rfl, rfl, rfl, rfl, hTe, hDe, he, ?_, ?_, ?_, ?_, ?_, ?_, ?_, ?_, ?_, fun H3 R3 m3 hT3 hD3 => ?_⟩
      · rw [su]; exact hf.g.nu
      · exact F.perm.nodup_iff.mpr (hf.g.perm.nodup_iff.mp hf.g.nu)
      · rw [su]; exact lt1
      · exact fun z hz => lt1 z (hf.memL (F.perm.mem_iff.mp hz))
      · rw [su]; omega
      · omega
      · show 0 ≤ 1000; decide
      · intro z hz; simp at hz
      · rw [sb.recs]; omega
      have hq3 : H3 q = some (.lst (nV (upLs s x))) := m3.at (msk_at (s5.at hqd) fq)
      have mm3 : Sub (msk (A.fp true) H) H3 := mskTr me m3
      have hD3' : Deep K H3 R3 (upS2 s x) := hD3
      have n2 : (upS2 s x).nodes = s.nodes := sb.nodes
      have t2 : (upS2 s x).tales = s.tales := sb.tales
      have c1 : s.tale x < (upS2 s x).nodes.length := by rw [n2]; exact tlx
      have c2 : (upS2 s x).nodes.length < 90000 := by rw [n2]; omega
      walk_at "re"
      refine ⟨congrArg V.int (max_k F.m0 (k := upK s x) rfl), ?_⟩
      walk_at "re"
      intro H4 R4 m4 hT4 hD4
      have hq4 : H4 q = some (.lst (nV (upLs s x))) := m4.at (msk_at hq3 fq)
      have mm4 : Sub (msk (A.fp true) H) H4 := mskTr mm3 m4
      have tl2 := tim_len (upS2 s x) (s.tale x) (upK s x)
      have ts2 := tim_same (upS2 s x) (s.tale x) (upK s x)
      have lt2 : ∀ z ∈ upLs s x, z < ((upS2 s x).tim (s.tale x) (upK s x)).tales.length := fun z hz => by rw [ts2.2, t2]; exact hf.ltt (memL1 z hz)
      have ml := timI_lt (s := upS2 s x) (a := s.tale x) (k := upK s x) c1
      generalize hs3 : (upS2 s x).tim (s.tale x) (upK s x) = s3 at hD4 tl2 ts2 lt2 ml
      generalize hmo : (upS2 s x).timI (s.tale x) (upK s x) = mo at ml
      have tl3 : ∀ z ∈ upLs s x, s3.tale z < s3.nodes.length := fun z hz => by
        have h1 := tale_lt hf.g (memL1 z hz)
        have h2 : s3.tale z = s.tale z := by unfold St.tale; rw [ts2.2, t2]
        rw [h2]; rw [n2] at tl2; omega
      rw [n2] at tl2
      refine ⟨_, rfl, q, rfl, ⟨_, SqL.of hq4⟩, for_it (walk_list (xs := nV (upLs s x))) (fun i σ H' => Bx (∃ R' o, σ = [some (.ref A.t), some (.int (x : Int)), some (.int ((s.lower.idxOf x : Int) + 1)), some (.ref q), some (.int (tot s.L (upD s x))), some (.int (s.tale x : Int)), some (.int (upM s x)), some (.int (upX s x)), some (.int (mo : Int)), o] ∧
        Sub (msk (A.fp true) H) H' ∧ TRaw K H' A R' true ∧ Deep K H' R' (((upLs s x).take i).foldl (St.after mo) s3) ∧ H' q = some (.lst (nV (upLs s x)))))
        ⟨R4, none, rfl, mm4, hT4, hD4, hq4⟩ (fun i σ H1 _ h => let ⟨_, _, _, _, _, _, h⟩ := h.o; SqL.of h) (fun i v σ H5 H6 hi h5 hy => ?_) fun σ H5 h5 => ?_⟩
      · obtain ⟨R5, o, rfl, m5, hT5, hD5, hq5⟩ := h5.o
        obtain ⟨rfl, hx1⟩ := hy
        obtain ⟨y1, hy, rfl⟩ := nV_inv hx1
        rw [nV_len] at hi
        have hym := List.mem_of_getElem? hy
        have fk := foldk_after mo ((upLs s x).take i) s3 fun z hz => lt2 z (List.mem_of_mem_take hz)
        have ltk : ((upLs s x).take i).length = i := by rw [List.length_take]; omega
        rw [ltk] at fk
        have esucc : (upLs s x).take (i + 1) = (upLs s x).take i ++ [y1] := by rw [List.take_add_one, hy]; rfl
        have q1 := fk.tale y1 (tl3 y1 hym)
        have q2 : mo < (((upLs s x).take i).foldl (St.after mo) s3).nodes.length := by rw [fk.nodes]; omega
        have q3 : (((upLs s x).take i).foldl (St.after mo) s3).nodes.length < 90000 := by rw [fk.nodes]; omega
        have q4 : y1 < (((upLs s x).take i).foldl (St.after mo) s3).tales.length := by rw [fk.tl]; exact lt2 y1 hym
        rw [esucc, List.foldl_append]
        generalize ((upLs s x).take i).foldl (St.after mo) s3 = si at hD5 fk q1 q2 q3 q4
        have q5 := atI_nat (hD5.tale q4)
        walk_at "re"
        intro H7 R7 m7 hT7 hD7
        have la : R7.a.length = si.tales.length := by rw [hD7.a, nV_len]; rfl
        refine ⟨_, rfl, _, _, _, _, _, rfl, hT7.ins, cc, a3, rfl, _, rfl, A.a, R7.a, _, y1, rfl, rfl, hT7.a rfl, ix_nat (by omega), ?_⟩
        have hT8 := hT7.set_a (R7.a.set y1 (.int (si.nodes.length : Int)))
        have m8 := mskU (o := .lst (R7.a.set y1 (.int (si.nodes.length : Int)))) (mskTr m5 m7) (TA.in_a (A := A))
        refine ⟨_, _, rfl, m8, hT8, ?_, ?_⟩
        · exact (hD7.imm (hT7.imm T (mskU msk_sub TA.in_a))).setA y1 si.nodes.length
        · rw [upd_ne (fun e => fq (by rw [e]; exact TA.in_a))]
          exact m7.at (msk_at hq5 fq)
      · obtain ⟨R5, o, rfl, m5, hT5, hD5, hq5⟩ := h5.o
        rw [nV_len, List.take_length] at hD5
        have fk := foldk_after mo (upLs s x) s3 lt2
        have xl : x < ((upLs s x).foldl (St.after mo) s3).left.length := by rw [fk.left, ts2.1]; exact lt1 x hxu
        have eL : ((upLs s x).foldl (St.after mo) s3).L x = s.L x := by
          unfold St.L
          rw [fk.left, ts2.1]
          show (upS s x).left.getD x 0 = _
          rw [sb.left]
        have q5 := atI_nat (hD5.L xl)
        have ll5 : R5.l.length = ((upLs s x).foldl (St.after mo) s3).left.length := by rw [hD5.l, iV_len]
        refine ⟨_, rfl, _, _, _, _, _, rfl, hT5.ins, cc, a2, rfl, _, rfl, A.l, R5.l, _, _, rfl, rfl, SqL.of hT5.l, q5, _, rfl, _, _, rfl, rfl, A.l, R5.l, _, x, rfl, rfl, hT5.l, ix_nat (by omega), ?_⟩
        have hT6 := hT5.set_l (R5.l.set x (.int (((upLs s x).foldl (St.after mo) s3).L x - upX s x)))
        have m6 := mskU (o := .lst (R5.l.set x (.int (((upLs s x).foldl (St.after mo) s3).L x - upX s x)))) m5 (TA.in_l (A := A) (b := true))
        refine hq _ _ m6 hT6 ?_
        rw [upW_eq, hs3, hmo]
        exact (hD5.imm (hT5.imm T (mskU msk_sub TA.in_l))).cut (upX s x) xl
end
end Bt
end
section
set_option Elab.async false
set_option linter.all false
set_option maxRecDepth 100000
set_option maxHeartbeats 2000000
set_option autoImplicit false
namespace Bt
open PySem PySem.Spec PyProof.Rows L2 Rz
theorem loS2_same (s : Rz.St) (w : Nat) : SameBut (loS2 s w) (loS1 s w) := by
  unfold loS2
  split
  · exact ⟨rfl, rfl, rfl, rfl, rfl⟩
  · exact ⟨rfl, rfl, rfl, rfl, rfl⟩
section
variable {P : Program} {w : World} {K : PySem.W.Frag} {mg : PySem.Str → Option Value} {base : Heap}
local macro_rules | `(tactic| walk_at "sd") => `(tactic| first
  | rfl | assumption
  | exact Sub.at ‹Sub _ _› (by assumption)
  | exact SqL.of (by assumption) | exact SqT.of (by assumption) | exact SqL.of (Sub.at ‹Sub _ _› (by assumption)) | exact SqT.of (Sub.at ‹Sub _ _› (by assumption))
  | exact Or.inl (SqL.of (by assumption)) | exact Or.inr (SqT.of (by assumption)) | exact Or.inl (SqL.of (Sub.at ‹Sub _ _› (by assumption))) | exact Or.inr (SqT.of (Sub.at ‹Sub _ _› (by assumption)))
  | exact ClsV.ty _ | exact TyX.base (.int _) | exact TyX.base (.str _) | exact TyX.base (.tup (by assumption)) | exact kit_int | exact kit_ib | exact kit_ss | exact kit_tt)
local macro_rules | `(tactic| walk_at "rd1") => `(tactic| first
  | (apply Exists.intro)
  | (refine And.intro ?_ ?_; (focus (walk_at "sd")))
  | (refine L2.iteT ?_)
  | (refine L2.iteF ?_))
local macro_rules | `(tactic| walk_at "rd") => `(tactic| repeat (walk_at "rd1"))
local macro_rules | `(tactic| walk_at "se") => `(tactic| first
  | rfl | assumption
  | exact Sub.at ‹Sub _ _› (by assumption)
  | exact SqL.of (by assumption) | exact SqT.of (by assumption) | exact SqL.of (Sub.at ‹Sub _ _› (by assumption)) | exact SqT.of (Sub.at ‹Sub _ _› (by assumption))
  | exact Or.inl (SqL.of (by assumption)) | exact Or.inr (SqT.of (by assumption)) | exact Or.inl (SqL.of (Sub.at ‹Sub _ _› (by assumption))) | exact Or.inr (SqT.of (Sub.at ‹Sub _ _› (by assumption)))
  | exact TRaw.ins ‹TRaw _ _ _ _ _› | exact TA.miss
  | exact TRaw.n ‹TRaw _ _ _ _ _›
  | exact TRaw.z ‹TRaw _ _ _ _ _›
  | exact TRaw.d ‹TRaw _ _ _ _ _›
  | exact TRaw.r ‹TRaw _ _ _ _ _›
  | exact TRaw.f ‹TRaw _ _ _ _ _›
  | exact TRaw.l ‹TRaw _ _ _ _ _›
  | exact TRaw.u ‹TRaw _ _ _ _ _›
  | exact TRaw.w ‹TRaw _ _ _ _ _› | exact TRaw.a ‹TRaw _ _ _ _ _› rfl
  | exact SqL.of (TRaw.n ‹TRaw _ _ _ _ _›)
  | exact SqL.of (TRaw.z ‹TRaw _ _ _ _ _›)
  | exact SqL.of (TRaw.d ‹TRaw _ _ _ _ _›)
  | exact SqL.of (TRaw.r ‹TRaw _ _ _ _ _›)
  | exact SqL.of (TRaw.f ‹TRaw _ _ _ _ _›)
  | exact SqL.of (TRaw.l ‹TRaw _ _ _ _ _›)
  | exact SqL.of (TRaw.u ‹TRaw _ _ _ _ _›)
  | exact SqL.of (TRaw.w ‹TRaw _ _ _ _ _›) | exact SqL.of (TRaw.a ‹TRaw _ _ _ _ _› rfl)
  | exact ClsV.ty _ | exact TyX.base (.int _) | exact TyX.base (.str _) | exact TyX.base (.tup (by assumption)) | exact kit_int | exact kit_ib | exact kit_ss | exact kit_tt)
local macro_rules | `(tactic| walk_at "re1") => `(tactic| first
  | (apply Exists.intro)
  | (refine And.intro ?_ ?_; (focus (walk_at "se")))
  | (refine L2.iteT ?_)
  | (refine L2.iteF ?_))
local macro_rules | `(tactic| walk_at "re") => `(tactic| repeat (walk_at "re1"))

theorem sc_Turning_lower_wins : FnScope ["self", "winner", "spot", "losers", "total", "word", "many", "shown", "loss", "more", "piece"] ["self", "winner"] (defScope s_Turning_lower_wins) := ⟨rfl, rfl, rfl, by decide +kernel, rfl, by decide +kernel, by decide +kernel⟩
abbrev sp_Turning_lower_wins (K : PySem.W.Frag) : Sp := P2 fun a b H Q => ∃ (A : TA) (R : Raw) (s : Rz.St) (n : Int) (T : Int → Int) (m x y : Nat) (us ls : List Nat), a = .ref A.t ∧ b = .int (x : Int) ∧ TRaw K H A R true ∧ Deep K H R s ∧ Fit0 n T m s ∧ s.lower = ls ++ [x] ∧ s.upper = us ++ [y] ∧ x ≠ y ∧
  ∀ H' R', Sub (msk (A.fp true) H) H' → TRaw K H' A R' true → Deep K H' R' (loW s x) → Q .non H'
theorem ok_Turning_lower_wins (T : Tx K mg) : Gm P w K mg base 4 (cT K) "lower_wins" ["self", "winner"] [] (sp_Turning_lower_wins K) := by
  refine mkm T.F_Turning_lower_wins T.c_Turning T.m_Turning_lower_wins sc_Turning_lower_wins P2.ar (fun _ _ _ _ _ _ us hl => match us, hl with | [_, _], _ => rfl) fun cdv A0 outer s0 H vs Q E hr h => ?_
  obtain ⟨_, _, rfl, A, R, s, n, TT, m, x, y, us, ls, rfl, rfl, hT, hD, hf, hl, hu, ne, hq⟩ := h
  have F := lo_facts hf.g hl hu ne
  have cc := T.c_Turning
  have a1 := T.a_Turning_upper
  have a2 := T.a_Turning_left
  have a3 := T.a_Turning_tales
  have a4 := T.a_Turning_end
  have a5 := T.a_Turning_sizes
  have hw1 : H A.u = some (.lst (nV s.upper)) := by rw [← hD.u]; exact hT.u
  have hxu : x ∈ s.upper := F.mem
  have n12 := hf.n12
  have fle := hf.g.le
  have hLx := atI_nat (hD.L (hf.ltl hxu))
  have hTx := atI_nat (hD.tale (hf.ltt hxu))
  refine ⟨_, (pss_cons (ps_set (i := 2) sc_Turning_lower_wins.nd rfl (by first | exact .inl rfl | exact .inr rfl) (pe_op op_add (pe_bm PySem.F.plainAttrs_list PySem.F.slot_list_index PySem.F.type_list_index mt_index (pe_fld (pv 0) rfl) (pa_cons (pv 1) pa_nil)) pe_int))
  (pss_cons (ps_set (i := 3) sc_Turning_lower_wins.nd rfl (by first | exact .inl rfl | exact .inr rfl) (pe_slice sl_list (pe_fld (pv 0) rfl) (po_some (pv 2)) po_none))
  (pss_cons (ps_par (i := 4) (j := 5) rfl sc_Turning_lower_wins.nd rfl rfl (by decide) rfl rfl (pa_cons (pe_callB (cr_sum rfl) rfl T.n_sum (by decide +kernel) (pa_cons (pe_lc (own := [("piece", 10)]) (g := (gName 10)) (tt := tYes) (te := (tOp (rIxL K) (tFld K (tVar 0) "left") (tVar 10))) rfl sc_Turning_lower_wins.nd (pi_list (pv 3)) (blkOk_by (N := ["self", "winner", "spot", "losers", "total", "word", "many", "shown", "loss", "more", "piece"]) (sc := defScope s_Turning_lower_wins) (by decide +kernel)) (fun _ _ _ _ _ => (pg_name (i := 10) sc_Turning_lower_wins.nd rfl (by first | exact .inl rfl | exact .inr rfl))) (fun _ _ _ _ _ => pts_nil) (fun _ _ _ _ _ => (pe_ix ix_list (pe_fld (pv 0) rfl) (pv 10) (fun _ _ => rfl)))) pa_nil)) (pa_cons (pe_ix ix_list (pe_fld (pv 0) rfl) (pv 1) (fun _ _ => rfl)) pa_nil)) rfl)
  (pss_cons (ps_set (i := 6) sc_Turning_lower_wins.nd rfl (by first | exact .inl rfl | exact .inr rfl) (pe_op op_fdivW (pe_op op_sub (pe_ix ix_list (pe_fld (pv 0) rfl) (pv 1) (fun _ _ => rfl)) pe_int) (pv 4)))
  (Evl.pss_cut (ps_set (i := 7) sc_Turning_lower_wins.nd rfl (by first | exact .inl rfl | exact .inr rfl) (pe_ifExp (pt_cmpR op_gt (pv 6) pe_int (nomark _)) (pv 3) (pe_slice sl_list (pv 3) (po_some (pe_un un_neg pe_int)) po_none)))
  (pss_cons (ps_set (i := 8) sc_Turning_lower_wins.nd rfl (by first | exact .inl rfl | exact .inr rfl) (pe_op op_mul (pe_callB (cr_sum rfl) rfl T.n_sum (by decide +kernel) (pa_cons (pe_lc (own := [("piece", 10)]) (g := (gName 10)) (tt := tYes) (te := (tOp (rIxL K) (tFld K (tVar 0) "left") (tVar 10))) rfl sc_Turning_lower_wins.nd (pi_list (pv 7)) (blkOk_by (N := ["self", "winner", "spot", "losers", "total", "word", "many", "shown", "loss", "more", "piece"]) (sc := defScope s_Turning_lower_wins) (by decide +kernel)) (fun _ _ _ _ _ => (pg_name (i := 10) sc_Turning_lower_wins.nd rfl (by first | exact .inl rfl | exact .inr rfl))) (fun _ _ _ _ _ => pts_nil) (fun _ _ _ _ _ => (pe_ix ix_list (pe_fld (pv 0) rfl) (pv 10) (fun _ _ => rfl)))) pa_nil)) (pe_callB (call_max2 rfl) rfl T.n_max (by decide +kernel) (pa_cons (pv 6) (pa_cons pe_int pa_nil)))))
  (pss_cons (ps_expr (cm (ok_Turning_stage T) hr (pv 0) (pa_cons (pe_op op_sub (pe_fld (pv 0) rfl) (pv 8)) (pa_cons (pv 4) (pa_cons (pe_ix ix_list (pe_fld (pv 0) rfl) (pv 5) (fun _ _ => rfl)) (pa_cons (pv 3) pa_nil))))))
  (Evl.pss_cut (ps_if (pt_cmpR op_eq (pv 6) pe_int (nomark _)) (pss_one (ps_expr (pe_bm PySem.F.plainAttrs_list PySem.F.slot_list_insert PySem.F.type_list_insert mt_insert (pe_fld (pv 0) rfl) (pa_cons (pv 2) (pa_cons (pe_bm0 PySem.F.plainAttrs_list PySem.F.slot_list_pop PySem.F.type_list_pop mt_pop (pe_fld (pv 0) rfl)) pa_nil))))) pss_nil)
  (pss_cons (ps_set (i := 9) sc_Turning_lower_wins.nd rfl (by first | exact .inl rfl | exact .inr rfl) (cm (ok_Turning_times T) hr (pv 0) (pa_cons (pv 5) (pa_cons (pe_callB (call_max2 rfl) rfl T.n_max (by decide +kernel) (pa_cons (pv 6) (pa_cons pe_int pa_nil))) pa_nil))))
  (pss_cons (ps_for PassesOwn.never rfl (pi_list (pv 7)) (pg_name (i := 10) sc_Turning_lower_wins.nd rfl (by first | exact .inl rfl | exact .inr rfl)) (pss_one (ps_asg (cm (ok_Turning_two T) hr (pv 0) (pa_cons (pv 9) (pa_cons (pe_ix ix_list (pe_fld (pv 0) rfl) (pv 10) (fun _ _ => rfl)) pa_nil))) (pg_sub (pe_fld (pv 0) rfl) (pv 10) set_list))))
  (pss_one (ps_augS (pe_fld (pv 0) rfl) (pv 1) get_list (pv 8) ip_sub set_list)))))))))))), ?_⟩
  refine ⟨_, rfl, _, _, _, _, _, rfl, hT.ins, cc, a1, rfl, tyL hw1, _, rfl, ?_⟩
  refine ⟨A.u, nV s.upper, .int (x : Int), s.upper.idxOf x, .int (x : Int), rfl, rfl, SqL.of hw1, rfl, nV_flat _, nV_get (idx_at F.mem), eqV_self _, no_before, ?_⟩
  walk_at "re"
  intro p np
  have ecut : cutV (nV s.upper) (some ((s.upper.idxOf x : Int) + 1)) none = nV (loD s x) := by
    rw [show ((s.upper.idxOf x : Int) + 1) = ((s.upper.idxOf x + 1 : Nat) : Int) from rfl, cut_from, nV_drop]; rfl
  rw [ecut]
  have s1 : Sub H (upd H p (.lst (nV (loD s x)))) := Sub.rfl'.new np
  have hp1 : upd H p (.lst (nV (loD s x))) p = some (.lst (nV (loD s x))) := upd_same
  generalize upd H p (.lst (nV (loD s x))) = H1 at s1 hp1
  have hlenD : (loD s x).length ≤ 6 := Nat.le_trans (by unfold loD; rw [List.length_drop]; exact Nat.sub_le _ _) hf.ul
  refine ⟨_, rfl, p, rfl, ⟨_, SqL.of hp1⟩, fun D hD0 => lc_val (walk_list (xs := nV (loD s x))) hD0 (by rw [nV_len]; omega) (iV ((loD s x).map s.L)) (by rw [nV_len, iV_len, List.length_map]) (fun Ha hs => SqL.of (hs.at hp1)) (fun i v Ha Hb hi hs hy Q' Nx hq' => ?_) fun Ha hs ha => ?_⟩
  · obtain ⟨rfl, hx1⟩ := hy
    obtain ⟨y1, hy, rfl⟩ := nV_inv hx1
    have hTb := hT.sub (s1.tr hs)
    have z1 := atI_nat (hD.L (hf.ltl (F.sub y1 (List.mem_of_getElem? hy))))
    walk_at "re"
    exact hq' _ _ Sub.rfl' (iV_get (by rw [List.getElem?_map, hy]; rfl))
  have s2 : Sub H Ha := s1.tr hs
  have hTa := hT.sub s2
  have hDa := hD.sub s2
  have hpa := hs.at hp1
  walk_at "re"
  rw [sum_comp]
  have cd : CDivW (s.L x - 1) (tot s.L (loD s x)) := cdiv12 F.t1 (by have := F.t2; omega)
  have hfresh : p ∉ A.fp true := hT.out np
  refine ⟨cd, fun σ H' => Bx (∃ q, σ = [some (.ref A.t), some (.int (x : Int)), some (.int ((s.upper.idxOf x : Int) + 1)), some (.ref p), some (.int (tot s.L (loD s x))), some (.int (s.tale x : Int)), some (.int (loM s x)), some (.ref q), none, none, none] ∧
    Sub H H' ∧ H' p = some (.lst (nV (loD s x))) ∧ H' q = some (.lst (nV (loLs s x))) ∧ q ∉ A.fp true), ?_, fun σ Hc h => ?_⟩
  · walk_at "re"
    refine L2.ite2 (fun z => ?_) fun z => ?_
    · have hm : ¬ loM s x = 0 := fun e => by
        have z' : (0 : Int) < loM s x := of_decide_eq_true z
        omega
      have e2 : loLs s x = loD s x := if_neg hm
      walk_at "re"
      rw [e2]
      exact ⟨p, rfl, s2, hpa, hpa, hfresh⟩
    · have hm : loM s x = 0 := by
        have z' : ¬ (0 : Int) < loM s x := fun c => z (decide_eq_true c)
        have := F.m0
        omega
      walk_at "re"
      intro p2 np2
      have enD : nV (loD s x) ≠ [] := fun e => F.ne (List.eq_nil_of_length_eq_zero (by rw [← nV_len, e]; rfl))
      rw [cut_last _ enD, nV_len, nV_drop]
      have e2 : loLs s x = (loD s x).drop ((loD s x).length - 1) := if_pos hm
      rw [← e2]
      have s3 : Sub Ha (upd Ha p2 (.lst (nV (loLs s x)))) := Sub.rfl'.new np2
      exact ⟨p2, rfl, s2.tr s3, s3.at hpa, upd_same, hTa.out np2⟩
  obtain ⟨q, rfl, sc, hpc, hqc, fq⟩ := h.o
  have hTc := hT.sub sc
  have hDc := hD.sub sc
  have hlenL : (loLs s x).length ≤ 6 := by
    unfold loLs
    split
    · rw [List.length_drop]; omega
    · exact hlenD
  refine ⟨_, rfl, q, rfl, ⟨_, SqL.of hqc⟩, fun D2 hD20 => lc_val (walk_list (xs := nV (loLs s x))) hD20 (by rw [nV_len]; omega) (iV ((loLs s x).map s.L)) (by rw [nV_len, iV_len, List.length_map]) (fun Ha hs => SqL.of (hs.at hqc)) (fun i v Hd Hb hi hs2 hy Q' Nx hq' => ?_) fun Hd hsd hd => ?_⟩
  · obtain ⟨rfl, hx1⟩ := hy
    obtain ⟨y1, hy, rfl⟩ := nV_inv hx1
    have hTb := hTc.sub hs2
    have z1 := atI_nat (hDc.L (hf.ltl (F.subL y1 (List.mem_of_getElem? hy))))
    walk_at "re"
    exact hq' _ _ Sub.rfl' (iV_get (by rw [List.getElem?_map, hy]; rfl))
  have hTd := hTc.sub hsd
  have hDd := hDc.sub hsd
  have hqd := hsd.at hqc
  have hpd := hsd.at hpc
  have sd : Sub H Hd := sc.tr hsd
  walk_at "re"
  rw [sum_comp, max_k F.m0 (k := loK s x) rfl]
  have kle : loK s x ≤ 1000000000000 := by
    unfold loK
    have := F.m1
    have := F.lw
    split
    · decide
    · omega
  refine ⟨cmulR (by omega) (by omega), ?_⟩
  have tlx : s.tale x < s.nodes.length := tale_lt hf.g hxu
  have z3 := atI_nat (hDd.sz tlx)
  have pl := hf.g.perm.length_eq
  have lwl := hf.wl
  have lul := hf.ul
  have nnl := hf.nl
  have rrl := hf.rl
  have g1 := hf.g.nu
  have g2 := hf.g.perm.nodup_iff.mp hf.g.nu
  have g3 : ∀ z ∈ s.upper, z < s.left.length := fun z hz => hf.ltl hz
  have g4 : ∀ z ∈ s.lower, z < s.left.length := fun z hz => hf.ltl (hf.memL hz)
  have g5 : s.upper.length ≤ 1000 := by omega
  have g6 : s.lower.length ≤ 1000 := by omega
  have g7 : (loD s x).length ≤ 1000 := by omega
  have g8 : ∀ z ∈ loD s x, z ∈ s.upper ∧ z ∈ s.lower ∧ z < s.tales.length ∧ s.tale z < s.nodes.length := fun z hz => ⟨F.sub z hz, hf.g.perm.mem_iff.mp (F.sub z hz), hf.ltt (F.sub z hz), tale_lt hf.g (F.sub z hz)⟩
  have g9 : s.recs.length < 90000 := by omega
  walk_at "re"
  rw [hD.fin]
  intro H3 R3 m3 hT3 hD3
  have hq3 : H3 q = some (.lst (nV (loLs s x))) := m3.at (msk_at hqd fq)
  have mm3 : Sub (msk (A.fp true) H) H3 := mskTr (msk_sub.tr sd) m3
  have hD3' : Deep K H3 R3 (loS1 s x) := hD3
  have hu3 : H3 A.u = some (.lst (nV s.upper)) := by
    have e : R3.u = nV s.upper := hD3'.u
    rw [← e]; exact hT3.u
  refine ⟨fun σ H' => Bx (∃ R', σ = [some (.ref A.t), some (.int (x : Int)), some (.int ((s.upper.idxOf x : Int) + 1)), some (.ref p), some (.int (tot s.L (loD s x))), some (.int (s.tale x : Int)), some (.int (loM s x)), some (.ref q), some (.int (loX s x)), none, none] ∧
    Sub (msk (A.fp true) H) H' ∧ TRaw K H' A R' true ∧ Deep K H' R' (loS2 s x) ∧ H' q = some (.lst (nV (loLs s x)))), ?_, fun σ H4 h4 => ?_⟩
  · walk_at "re"
    refine L2.ite2 (fun z => ?_) fun z => ?_
    · have hm : loM s x = 0 := by
        rw [decide_eq_true_eq] at z
        injection z
      have neL : s.upper ≠ [] := by rw [hu]; simp
      refine ⟨_, rfl, _, _, _, _, _, rfl, hT3.ins, cc, a1, rfl, tyL hu3, _, rfl, _, rfl, _, _, _, _, _, rfl, hT3.ins, cc, a1, rfl, tyL hu3, ?_⟩
      refine ⟨_, _, _, rfl, rfl, hu3, nV_last neL, ?_⟩
      have hT5 := hT3.set_u (nV s.upper).dropLast
      have s5 := mskU (o := .lst (nV s.upper).dropLast) mm3 (TA.in_u (A := A) (b := true))
      have dl : (nV s.upper).dropLast.length ≤ 6 := by rw [List.length_dropLast, nV_len]; omega
      refine ⟨_, _, _, _, rfl, rfl, hT5.u, szlt (by show (nV s.upper).dropLast.length < _; omega), by omega, ?_, ?_⟩
      · exact p63 (k := s.upper.idxOf x + 1) (by have := F.spot; rw [List.length_dropLast] at this; omega)
      · have hT6 := hT5.set_u (nV (s.upper.dropLast.insertIdx (s.upper.idxOf x + 1) s.lastU))
        have s6 := mskU (o := .lst (nV (s.upper.dropLast.insertIdx (s.upper.idxOf x + 1) s.lastU))) s5 (TA.in_u (A := A) (b := true))
        have e3 : (nV s.upper).dropLast.take ((s.upper.idxOf x : Int) + 1).toNat ++ [.int ((s.upper.getD (s.upper.length - 1) 0 : Nat) : Int)] ++ (nV s.upper).dropLast.drop ((s.upper.idxOf x : Int) + 1).toNat = nV (s.upper.dropLast.insertIdx (s.upper.idxOf x + 1) s.lastU) := by
          rw [show ((s.upper.idxOf x : Int) + 1).toNat = s.upper.idxOf x + 1 from rfl, insert_at _ _ _ F.spot, nV_app, nV_app, nV_dropLast, nV_take, nV_drop]; rfl
        show Bx _
        dsimp only
        rw [e3]
        refine ⟨_, rfl, s6, hT6, ?_, ?_⟩
        · have e1 : loS2 s x = { loS1 s x with upper := s.upper.dropLast.insertIdx (s.upper.idxOf x + 1) s.lastU } := if_pos hm
          rw [e1]
          exact (hD3'.imm (hT3.imm T (mskU (mskU msk_sub TA.in_u) TA.in_u))).setU _
        · have nw : q ≠ A.u := fun e => fq (by rw [e]; exact TA.in_u)
          rw [upd_ne nw, upd_ne nw]; exact hq3
    · have hm : ¬ loM s x = 0 := fun e => z (by
        rw [decide_eq_true_eq]
        show V.int (loM s x) = _
        rw [e])
      have e1 : loS2 s x = loS1 s x := if_neg hm
      rw [e1]
      exact ⟨_, rfl, mm3, hT3, hD3', hq3⟩
  obtain ⟨R4, rfl, mm4, hT4, hD4, hq4⟩ := h4.o
  have sb := loS2_same s x
  have n2 : (loS2 s x).nodes = s.nodes := sb.nodes
  have t2 : (loS2 s x).tales = s.tales := sb.tales
  have l2 : (loS2 s x).left = s.left := sb.left
  have c1 : s.tale x < (loS2 s x).nodes.length := by rw [n2]; exact tlx
  have c2 : (loS2 s x).nodes.length < 90000 := by rw [n2]; omega
  walk_at "re"
  refine ⟨congrArg V.int (max_k F.m0 (k := loK s x) rfl), ?_⟩
  walk_at "re"
  intro H5 R5 m5 hT5 hD5
  have hq5 : H5 q = some (.lst (nV (loLs s x))) := m5.at (msk_at hq4 fq)
  have mm5 : Sub (msk (A.fp true) H) H5 := mskTr mm4 m5
  have tl2 := tim_len (loS2 s x) (s.tale x) (loK s x)
  have ts2 := tim_same (loS2 s x) (s.tale x) (loK s x)
  have lt2 : ∀ z ∈ loLs s x, z < ((loS2 s x).tim (s.tale x) (loK s x)).tales.length := fun z hz => by rw [ts2.2, t2]; exact hf.ltt (F.subL z hz)
  have ml := timI_lt (s := loS2 s x) (a := s.tale x) (k := loK s x) c1
  generalize hs3 : (loS2 s x).tim (s.tale x) (loK s x) = s3 at hD5 tl2 ts2 lt2 ml
  generalize hmo : (loS2 s x).timI (s.tale x) (loK s x) = mo at ml
  have tl3 : ∀ z ∈ loLs s x, s3.tale z < s3.nodes.length := fun z hz => by
    have h1 := tale_lt hf.g (F.subL z hz)
    have h2 : s3.tale z = s.tale z := by unfold St.tale; rw [ts2.2, t2]
    rw [h2]; rw [n2] at tl2; omega
  rw [n2] at tl2
  refine ⟨_, rfl, q, rfl, ⟨_, SqL.of hq5⟩, for_it (walk_list (xs := nV (loLs s x))) (fun i σ H' => Bx (∃ R' o, σ = [some (.ref A.t), some (.int (x : Int)), some (.int ((s.upper.idxOf x : Int) + 1)), some (.ref p), some (.int (tot s.L (loD s x))), some (.int (s.tale x : Int)), some (.int (loM s x)), some (.ref q), some (.int (loX s x)), some (.int (mo : Int)), o] ∧
    Sub (msk (A.fp true) H) H' ∧ TRaw K H' A R' true ∧ Deep K H' R' (((loLs s x).take i).foldl (St.ahead mo) s3) ∧ H' q = some (.lst (nV (loLs s x)))))
    ⟨R5, none, rfl, mm5, hT5, hD5, hq5⟩ (fun i σ H1 _ h => let ⟨_, _, _, _, _, _, h⟩ := h.o; SqL.of h) (fun i v σ H6 H7 hi h6 hy => ?_) fun σ H6 h6 => ?_⟩
  · obtain ⟨R6, o, rfl, m6, hT6, hD6, hq6⟩ := h6.o
    obtain ⟨rfl, hx1⟩ := hy
    obtain ⟨y1, hy, rfl⟩ := nV_inv hx1
    rw [nV_len] at hi
    have hym := List.mem_of_getElem? hy
    have fk := foldk_ahead mo ((loLs s x).take i) s3 fun z hz => lt2 z (List.mem_of_mem_take hz)
    have ltk : ((loLs s x).take i).length = i := by rw [List.length_take]; omega
    rw [ltk] at fk
    have esucc : (loLs s x).take (i + 1) = (loLs s x).take i ++ [y1] := by rw [List.take_add_one, hy]; rfl
    have q1 := fk.tale y1 (tl3 y1 hym)
    have q2 : mo < (((loLs s x).take i).foldl (St.ahead mo) s3).nodes.length := by rw [fk.nodes]; omega
    have q3 : (((loLs s x).take i).foldl (St.ahead mo) s3).nodes.length < 90000 := by rw [fk.nodes]; omega
    have q4 : y1 < (((loLs s x).take i).foldl (St.ahead mo) s3).tales.length := by rw [fk.tl]; exact lt2 y1 hym
    rw [esucc, List.foldl_append]
    generalize ((loLs s x).take i).foldl (St.ahead mo) s3 = si at hD6 fk q1 q2 q3 q4
    have q5 := atI_nat (hD6.tale q4)
    walk_at "re"
    intro H8 R8 m8 hT8 hD8
    have la : R8.a.length = si.tales.length := by rw [hD8.a, nV_len]; rfl
    refine ⟨_, rfl, _, _, _, _, _, rfl, hT8.ins, cc, a3, rfl, _, rfl, A.a, R8.a, _, y1, rfl, rfl, hT8.a rfl, ix_nat (by omega), ?_⟩
    have hT9 := hT8.set_a (R8.a.set y1 (.int (si.nodes.length : Int)))
    have m9 := mskU (o := .lst (R8.a.set y1 (.int (si.nodes.length : Int)))) (mskTr m6 m8) (TA.in_a (A := A))
    refine ⟨_, _, rfl, m9, hT9, ?_, ?_⟩
    · exact (hD8.imm (hT8.imm T (mskU msk_sub TA.in_a))).setA y1 si.nodes.length
    · rw [upd_ne (fun e => fq (by rw [e]; exact TA.in_a))]
      exact m8.at (msk_at hq6 fq)
  · obtain ⟨R6, o, rfl, m6, hT6, hD6, hq6⟩ := h6.o
    rw [nV_len, List.take_length] at hD6
    have fk := foldk_ahead mo (loLs s x) s3 lt2
    have xl : x < ((loLs s x).foldl (St.ahead mo) s3).left.length := by rw [fk.left, ts2.1, l2]; exact hf.ltl hxu
    have q5 := atI_nat (hD6.L xl)
    have ll5 : R6.l.length = ((loLs s x).foldl (St.ahead mo) s3).left.length := by rw [hD6.l, iV_len]
    refine ⟨_, rfl, _, _, _, _, _, rfl, hT6.ins, cc, a2, rfl, _, rfl, A.l, R6.l, _, _, rfl, rfl, SqL.of hT6.l, q5, _, rfl, _, _, rfl, rfl, A.l, R6.l, _, x, rfl, rfl, hT6.l, ix_nat (by omega), ?_⟩
    have hT9 := hT6.set_l (R6.l.set x (.int (((loLs s x).foldl (St.ahead mo) s3).L x - loX s x)))
    have m9 := mskU (o := .lst (R6.l.set x (.int (((loLs s x).foldl (St.ahead mo) s3).L x - loX s x)))) m6 (TA.in_l (A := A) (b := true))
    refine hq _ _ m9 hT9 ?_
    rw [loW_eq, hs3, hmo]
    exact (hD6.imm (hT6.imm T (mskU msk_sub TA.in_l))).cut (loX s x) xl
end
end Bt
end
section
set_option Elab.async false
set_option linter.all false
set_option maxRecDepth 100000
set_option maxHeartbeats 2000000
set_option autoImplicit false
namespace Bt
open PySem PySem.Spec PyProof.Rows L2 Rz
theorem nV_getLast (us : List Nat) (a : Nat) : (nV (us ++ [a])).getLast? = some (.int (a : Int)) := by rw [nV_app]; exact List.getLast?_concat
section
variable {P : Program} {w : World} {K : PySem.W.Frag} {mg : PySem.Str → Option Value} {base : Heap}
local macro_rules | `(tactic| walk_at "sd") => `(tactic| first
  | rfl | assumption
  | exact Sub.at ‹Sub _ _› (by assumption)
  | exact SqL.of (by assumption) | exact SqT.of (by assumption) | exact SqL.of (Sub.at ‹Sub _ _› (by assumption)) | exact SqT.of (Sub.at ‹Sub _ _› (by assumption))
  | exact Or.inl (SqL.of (by assumption)) | exact Or.inr (SqT.of (by assumption)) | exact Or.inl (SqL.of (Sub.at ‹Sub _ _› (by assumption))) | exact Or.inr (SqT.of (Sub.at ‹Sub _ _› (by assumption)))
  | exact ClsV.ty _ | exact TyX.base (.int _) | exact TyX.base (.str _) | exact TyX.base (.tup (by assumption)) | exact kit_int | exact kit_ib | exact kit_ss | exact kit_tt)
local macro_rules | `(tactic| walk_at "rd1") => `(tactic| first
  | (apply Exists.intro)
  | (refine And.intro ?_ ?_; (focus (walk_at "sd")))
  | (refine L2.iteT ?_)
  | (refine L2.iteF ?_))
local macro_rules | `(tactic| walk_at "rd") => `(tactic| repeat (walk_at "rd1"))
local macro_rules | `(tactic| walk_at "se") => `(tactic| first
  | rfl | assumption
  | exact Sub.at ‹Sub _ _› (by assumption)
  | exact SqL.of (by assumption) | exact SqT.of (by assumption) | exact SqL.of (Sub.at ‹Sub _ _› (by assumption)) | exact SqT.of (Sub.at ‹Sub _ _› (by assumption))
  | exact Or.inl (SqL.of (by assumption)) | exact Or.inr (SqT.of (by assumption)) | exact Or.inl (SqL.of (Sub.at ‹Sub _ _› (by assumption))) | exact Or.inr (SqT.of (Sub.at ‹Sub _ _› (by assumption)))
  | exact TRaw.ins ‹TRaw _ _ _ _ _› | exact TA.miss
  | exact TRaw.n ‹TRaw _ _ _ _ _›
  | exact TRaw.z ‹TRaw _ _ _ _ _›
  | exact TRaw.d ‹TRaw _ _ _ _ _›
  | exact TRaw.r ‹TRaw _ _ _ _ _›
  | exact TRaw.f ‹TRaw _ _ _ _ _›
  | exact TRaw.l ‹TRaw _ _ _ _ _›
  | exact TRaw.u ‹TRaw _ _ _ _ _›
  | exact TRaw.w ‹TRaw _ _ _ _ _› | exact TRaw.a ‹TRaw _ _ _ _ _› rfl
  | exact SqL.of (TRaw.n ‹TRaw _ _ _ _ _›)
  | exact SqL.of (TRaw.z ‹TRaw _ _ _ _ _›)
  | exact SqL.of (TRaw.d ‹TRaw _ _ _ _ _›)
  | exact SqL.of (TRaw.r ‹TRaw _ _ _ _ _›)
  | exact SqL.of (TRaw.f ‹TRaw _ _ _ _ _›)
  | exact SqL.of (TRaw.l ‹TRaw _ _ _ _ _›)
  | exact SqL.of (TRaw.u ‹TRaw _ _ _ _ _›)
  | exact SqL.of (TRaw.w ‹TRaw _ _ _ _ _›) | exact SqL.of (TRaw.a ‹TRaw _ _ _ _ _› rfl)
  | exact ClsV.ty _ | exact TyX.base (.int _) | exact TyX.base (.str _) | exact TyX.base (.tup (by assumption)) | exact kit_int | exact kit_ib | exact kit_ss | exact kit_tt)
local macro_rules | `(tactic| walk_at "re1") => `(tactic| first
  | (apply Exists.intro)
  | (refine And.intro ?_ ?_; (focus (walk_at "se")))
  | (refine L2.iteT ?_)
  | (refine L2.iteF ?_))
local macro_rules | `(tactic| walk_at "re") => `(tactic| repeat (walk_at "re1"))

theorem sc_Turning_shorten : FnScope ["self", "one", "other"] ["self"] (defScope s_Turning_shorten) := ⟨rfl, rfl, rfl, by decide +kernel, rfl, by decide +kernel, by decide +kernel⟩
abbrev sp_Turning_shorten (K : PySem.W.Frag) : Sp := P1 fun a H Q => ∃ (A : TA) (R : Raw) (s : Rz.St) (n : Int) (T : Int → Int) (m : Nat), a = .ref A.t ∧ TRaw K H A R true ∧ Deep K H R s ∧ Fit0 n T m s ∧ s.upper ≠ [] ∧
  ∀ H' R', Sub (msk (A.fp true) H) H' → TRaw K H' A R' true → Deep K H' R' (shorten s) → Q .non H'
theorem ok_Turning_shorten (T : Tx K mg) : Gm P w K mg base 5 (cT K) "shorten" ["self"] [] (sp_Turning_shorten K) := by
  refine mkm T.F_Turning_shorten T.c_Turning T.m_Turning_shorten sc_Turning_shorten P1.ar (fun _ _ _ _ _ _ us hl => match us, hl with | [_], _ => rfl) fun cdv A0 outer s0 H vs Q E hr h => ?_
  obtain ⟨_, rfl, A, R, s, n, TT, m, rfl, hT, hD, hf, hne, hq⟩ := h
  have cc := T.c_Turning
  have a1 := T.a_Turning_upper
  have a2 := T.a_Turning_left
  have a3 := T.a_Turning_tales
  have a4 := T.a_Turning_end
  have a5 := T.a_Turning_lower
  have a6 := T.a_Turning_found
  have a7 := T.a_Turning_records
  have pl := hf.g.perm.length_eq
  have hlo : s.lower ≠ [] := fun z => by
    rw [z] at pl
    exact hne (List.eq_nil_of_length_eq_zero pl)
  obtain ⟨us, x, hu⟩ := snoc_of s.upper hne
  obtain ⟨ls, y, hl⟩ := snoc_of s.lower hlo
  have ea : s.lastU = x := by unfold St.lastU; rw [hu]; exact last_at _ _
  have eb : s.lastL = y := by unfold St.lastL; rw [hl]; exact last_at _ _
  have hx : x ∈ s.upper := by rw [hu]; simp
  have hyl : y ∈ s.lower := by rw [hl]; simp
  have hy : y ∈ s.upper := hf.memL hyl
  have hU : H A.u = some (.lst (nV s.upper)) := by rw [← hD.u]; exact hT.u
  have hW : H A.w = some (.lst (nV s.lower)) := by rw [← hD.w]; exact hT.w
  have iU : atI (nV s.upper) (-1) = some (.int (x : Int)) := at_neg (by rw [hu]; exact nV_getLast us x)
  have iW : atI (nV s.lower) (-1) = some (.int (y : Int)) := at_neg (by rw [hl]; exact nV_getLast ls y)
  have Lx := atI_nat (hD.L (hf.ltl hx))
  have Ly := atI_nat (hD.L (hf.ltl hy))
  have Tx' := atI_nat (hD.tale (hf.ltt hx))
  have rrl := hf.rl
  have nnl := hf.nl
  have hul := hf.ul
  have lU : (nV s.upper)[(nV s.upper).length - 1]? = some (.int (x : Int)) := by have := nV_last hne; rw [this]; exact congrArg (fun z : Nat => some (V.int (z : Int))) ea
  have lW : (nV s.lower)[(nV s.lower).length - 1]? = some (.int (y : Int)) := by have := nV_last hlo; rw [this]; exact congrArg (fun z : Nat => some (V.int (z : Int))) eb
  unfold shorten at hq
  dsimp only at hq
  rw [ea, eb] at hq
  refine ⟨_, (pss_cons (ps_par (i := 1) (j := 2) rfl sc_Turning_shorten.nd rfl rfl (by decide) rfl rfl (pa_cons (pe_ix ix_list (pe_fld (pv 0) rfl) (pe_un un_neg pe_int) (fun _ _ => rfl)) (pa_cons (pe_ix ix_list (pe_fld (pv 0) rfl) (pe_un un_neg pe_int) (fun _ _ => rfl)) pa_nil)) rfl)
  (pss_one (ps_if (pt_cmpR op_eq (pv 1) (pv 2) (nomark _)) (pss_cons (ps_expr (pe_bm PySem.F.plainAttrs_list PySem.F.slot_list_append PySem.F.type_list_append mt_append (pe_fld (pv 0) rfl) (pa_cons (pe_tup (pa_cons (pe_op op_sub (pe_fld (pv 0) rfl) (pe_ix ix_list (pe_fld (pv 0) rfl) (pv 1) (fun _ _ => rfl))) (pa_cons (pe_ix ix_list (pe_fld (pv 0) rfl) (pv 1) (fun _ _ => rfl)) (pa_cons (pe_ix ix_list (pe_fld (pv 0) rfl) (pv 1) (fun _ _ => rfl)) pa_nil)))) pa_nil)))
  (pss_cons (ps_expr (pe_bm PySem.F.plainAttrs_list PySem.F.slot_list_append PySem.F.type_list_append mt_append (pe_fld (pv 0) rfl) (pa_cons pe_non pa_nil)))
  (pss_cons (ps_fldaug (pv 0) (pe_ix ix_list (pe_fld (pv 0) rfl) (pv 1) (fun _ _ => rfl)) in_sub)
  (pss_cons (ps_expr (pe_bm0 PySem.F.plainAttrs_list PySem.F.slot_list_pop PySem.F.type_list_pop mt_pop (pe_fld (pv 0) rfl)))
  (pss_one (ps_expr (pe_bm0 PySem.F.plainAttrs_list PySem.F.slot_list_pop PySem.F.type_list_pop mt_pop (pe_fld (pv 0) rfl)))))))) (pss_one (ps_if (pt_cmpR op_eq (pe_ix ix_list (pe_fld (pv 0) rfl) (pv 1) (fun _ _ => rfl)) (pe_ix ix_list (pe_fld (pv 0) rfl) (pv 2) (fun _ _ => rfl)) (nomark _)) (pss_cons (ps_expr (cm (ok_Turning_stage T) hr (pv 0) (pa_cons (pe_op op_sub (pe_fld (pv 0) rfl) (pe_ix ix_list (pe_fld (pv 0) rfl) (pv 1) (fun _ _ => rfl))) (pa_cons (pe_ix ix_list (pe_fld (pv 0) rfl) (pv 1) (fun _ _ => rfl)) (pa_cons pe_int (pa_cons (pe_lst (pa_cons (pv 1) pa_nil)) pa_nil))))))
  (pss_cons (ps_asg (cm (ok_Turning_two T) hr (pv 0) (pa_cons (pe_ix ix_list (pe_fld (pv 0) rfl) (pv 2) (fun _ _ => rfl)) (pa_cons (pe_ix ix_list (pe_fld (pv 0) rfl) (pv 1) (fun _ _ => rfl)) pa_nil))) (pg_sub (pe_fld (pv 0) rfl) (pv 2) set_list))
  (pss_cons (ps_expr (pe_bm0 PySem.F.plainAttrs_list PySem.F.slot_list_pop PySem.F.type_list_pop mt_pop (pe_fld (pv 0) rfl)))
  (pss_cons (ps_expr (pe_bm0 PySem.F.plainAttrs_list PySem.F.slot_list_pop PySem.F.type_list_pop mt_pop (pe_fld (pv 0) rfl)))
  (pss_one (ps_asg (pv 2) (pg_sub (pe_fld (pv 0) rfl) (pe_bm PySem.F.plainAttrs_list PySem.F.slot_list_index PySem.F.type_list_index mt_index (pe_fld (pv 0) rfl) (pa_cons (pv 1) pa_nil)) set_list))))))) (pss_one (ps_if (pt_cmpR op_gt (pe_ix ix_list (pe_fld (pv 0) rfl) (pv 1) (fun _ _ => rfl)) (pe_ix ix_list (pe_fld (pv 0) rfl) (pv 2) (fun _ _ => rfl)) (nomark _)) (pss_one (ps_expr (cm (ok_Turning_upper_wins T) hr (pv 0) (pa_cons (pv 1) pa_nil)))) (pss_one (ps_expr (cm (ok_Turning_lower_wins T) hr (pv 0) (pa_cons (pv 2) pa_nil))))))))))), ?_⟩
  walk_at "re"
  refine L2.ite2 (fun z => ?_) fun z => ?_
  · have exy : x = y := by
      rw [decide_eq_true_eq] at z
      injection z with z; omega
    subst exy
    rw [if_pos rfl] at hq
    refine ⟨_, rfl, _, _, _, _, _, rfl, hT.ins, cc, a6, rfl, tyL hT.f, ?_⟩
    walk_at "re"
    refine ⟨by show 3 ≤ sizeLine; decide, fun q nq => ?_⟩
    have s1 : Sub H (upd H q (.tup [.int (R.fin - s.L x), .int (s.L x), .int (s.tale x : Int)])) := Sub.rfl'.new nq
    have hq1 : upd H q (.tup [.int (R.fin - s.L x), .int (s.L x), .int (s.tale x : Int)]) q = some (.tup [.int (R.fin - s.L x), .int (s.L x), .int (s.tale x : Int)]) := upd_same
    have fq := (hT.new (o := .tup [.int (R.fin - s.L x), .int (s.L x), .int (s.tale x : Int)]) nq).free T hq1 (fun _ z => nomatch z) (fun _ _ z => nomatch z)
    have hT1 := hT.sub s1
    have lf : R.f.length ≤ s.recs.length := by
      obtain ⟨fs, e, h2⟩ := hD.f
      rw [e, rV_len, h2.len]
      exact List.length_filterMap_le _ _
    have lr : R.r.length = s.recs.length := hD.r.len
    refine ⟨_, _, _, rfl, rfl, hT1.f, szlt (by omega), ?_⟩
    have hT2 := hT1.set_f (R.f ++ [.ref q])
    have m2 := mskU (o := .lst (R.f ++ [.ref q])) (msk_sub.tr s1) (TA.in_f (A := A) (b := true))
    refine ⟨_, rfl, _, _, _, _, _, rfl, hT2.ins, cc, a7, rfl, tyL hT2.r, _, _, _, rfl, rfl, hT2.r, szlt (by show R.r.length < _; omega), ?_⟩
    have hT3 := hT2.set_r (R.r ++ [.non])
    have m3 := mskU (o := .lst (R.r ++ [.non])) m2 (TA.in_r (A := A) (b := true))
    refine ⟨_, rfl, _, _, _, _, _, rfl, hT3.ins, cc, a4, rfl, _, rfl, _, _, _, _, _, rfl, hT3.ins, cc, a2, rfl, _, rfl, _, _, _, _, rfl, rfl, SqL.of hT3.l, Lx, _, _, rfl, rfl, _, _, hT3.ins, TA.fs_len _ _ _, ?_⟩
    rw [TA.put_end]
    have hT4 := hT3.set_fin (R.fin - s.L x)
    have m4 := mskU (o := .ins (cT K) A.dx (A.fs (R.fin - s.L x) true)) m3 (TA.in_t (A := A) (b := true))
    refine ⟨_, rfl, _, _, _, _, _, rfl, hT4.ins, cc, a1, rfl, tyL hT4.u, _, _, _, rfl, rfl, hT4.u, by rw [hD.u]; exact lU, ?_⟩
    have hT5 := hT4.set_u R.u.dropLast
    have m5 := mskU (o := .lst R.u.dropLast) m4 (TA.in_u (A := A) (b := true))
    refine ⟨_, rfl, _, _, _, _, _, rfl, hT5.ins, cc, a5, rfl, tyL hT5.w, _, _, _, rfl, rfl, hT5.w, by show R.w[R.w.length - 1]? = _; rw [hD.w]; exact lW, ?_⟩
    have hT6 := hT5.set_w R.w.dropLast
    have m6 := mskU (o := .lst R.w.dropLast) m5 (TA.in_w (A := A) (b := true))
    refine hq _ _ m6 hT6 ?_
    have im := hT1.imm T (mskU (o := .lst R.w.dropLast) (mskU (o := .lst R.u.dropLast) (mskU (o := .ins (cT K) A.dx (A.fs (R.fin - s.L x) true)) (mskU (o := .lst (R.r ++ [.non])) (mskU (o := .lst (R.f ++ [.ref q])) msk_sub (TA.in_f (A := A) (b := true))) TA.in_r) TA.in_t) TA.in_u) TA.in_w)
    have hDg := (hD.sub s1).imm im
    have hq2 := im.tup _ _ hq1
    obtain ⟨fs, ef, hf2⟩ := hDg.f
    refine ⟨hDg.n, hDg.z, hDg.d, ?_, ⟨fs ++ [q], ?_, ?_⟩, hDg.l, ?_, ?_, hDg.a, ?_⟩
    · exact hDg.r.snoc rfl
    · show R.f ++ [.ref q] = _
      rw [ef, rV_snoc]
    · have e : bands (bnd s x).recs = bands s.recs ++ [(s.fin - s.L x, s.L x, s.tale x)] := bands_bd _ _ _ _
      rw [e]
      refine hf2.snoc ?_
      show _ = _
      rw [hq2, hD.fin]
    · show R.u.dropLast = nV s.upper.dropLast
      rw [hD.u, nV_dropLast]
    · show R.w.dropLast = nV s.lower.dropLast
      rw [hD.w, nV_dropLast]
    · show R.fin - s.L x = s.fin - s.L x
      rw [hD.fin]
  · have exy : x ≠ y := fun e => z (by rw [e]; exact decide_eq_true rfl)
    rw [if_neg exy] at hq
    walk_at "re"
    refine L2.ite2 (fun z2 => ?_) fun z2 => ?_
    · have eL : s.L x = s.L y := by
        rw [decide_eq_true_eq] at z2
        injection z2
      rw [if_pos eL] at hq
      walk_at "re"
      refine ⟨by show 1 ≤ sizeLine; decide, fun q nq => ?_⟩
      have s1 : Sub H (upd H q (.lst (nV [x]))) := Sub.rfl'.new nq
      have hq1 : upd H q (.lst (nV [x])) q = some (.lst (nV [x])) := upd_same
      have hT1 := hT.sub s1
      have hD1 := hD.sub s1
      have hWm : x ∈ s.lower := hf.g.perm.mem_iff.mp hx
      have g1 := hf.g.nu
      have g2 := hf.g.perm.nodup_iff.mp hf.g.nu
      have g3 : ∀ z ∈ s.upper, z < s.left.length := fun z hz => hf.ltl hz
      have g4 : ∀ z ∈ s.lower, z < s.left.length := fun z hz => hf.ltl (hf.memL hz)
      have g5 : s.upper.length ≤ 1000 := by omega
      have g6 : s.lower.length ≤ 1000 := by omega
      have g8 : ∀ z ∈ [x], z ∈ s.upper ∧ z ∈ s.lower ∧ z < s.tales.length ∧ s.tale z < s.nodes.length := fun z hz => by
        rw [List.mem_singleton.mp hz]
        exact ⟨hx, hWm, hf.ltt hx, tale_lt hf.g hx⟩
      have g9 : s.recs.length < 90000 := by omega
      refine ⟨_, _, _, _, _, rfl, A, R, s, R.fin - s.L x, s.L x, 0, q, [x], rfl, rfl, rfl, rfl, rfl, hT1, hD1, hq1, g1, g2, g3, g4, g5, g6, by show 1 ≤ 1000; decide, g8, g9, fun H2 R2 m2 hT2 hD2 => ?_⟩
      rw [hD.fin] at hD2
      have mm2 : Sub (msk (A.fp true) H) H2 := mskTr (msk_sub.tr s1) m2
      generalize hs1 : s.stage (s.fin - s.L x) (s.L x) 0 [x] = s1' at hD2
      have e1 : s1'.nodes = s.nodes := by rw [← hs1]; rfl
      have e2 : s1'.tales = s.tales := by rw [← hs1]; rfl
      have e3 : s1'.upper = s.upper := by rw [← hs1]; rfl
      have e4 : s1'.lower = s.lower := by rw [← hs1]; rfl
      have et : ∀ z, s1'.tale z = s.tale z := fun z => by unfold St.tale; rw [e2]
      have k1 := atI_nat (hD2.tale (i := y) (by rw [e2]; exact hf.ltt hy))
      have k2 := atI_nat (hD2.tale (i := x) (by rw [e2]; exact hf.ltt hx))
      have k3 : s1'.tale y < s1'.nodes.length := by rw [et, e1]; exact tale_lt hf.g hy
      have k4 : s1'.tale x < s1'.nodes.length := by rw [et, e1]; exact tale_lt hf.g hx
      have k5 : s1'.nodes.length < 90000 := by rw [e1]; omega
      walk_at "re"
      intro H3 R3 m3 hT3 hD3
      have mm3 : Sub (msk (A.fp true) H) H3 := mskTr mm2 m3
      have la : R3.a.length = s1'.tales.length := by rw [hD3.a, nV_len]; rfl
      have lty := hf.ltt hy
      refine ⟨_, rfl, _, _, _, _, _, rfl, hT3.ins, cc, a3, rfl, _, rfl, A.a, R3.a, _, y, rfl, rfl, hT3.a rfl, ix_nat (by rw [la, e2]; exact lty), ?_⟩
      have hT4 := hT3.set_a (R3.a.set y (.int (s1'.nodes.length : Int)))
      have m4 := mskU (o := .lst (R3.a.set y (.int (s1'.nodes.length : Int)))) mm3 (TA.in_a (A := A))
      have u3 : R3.u = nV s.upper := by have e : R3.u = nV s1'.upper := hD3.u; rw [e, e3]
      have w3 : R3.w = nV s.lower := by have e : R3.w = nV s1'.lower := hD3.w; rw [e, e4]
      refine ⟨_, rfl, _, _, _, _, _, rfl, hT4.ins, cc, a1, rfl, tyL hT4.u, _, _, _, rfl, rfl, hT4.u, by show R3.u[R3.u.length - 1]? = _; rw [u3]; exact lU, ?_⟩
      have hT5 := hT4.set_u R3.u.dropLast
      have m5 := mskU (o := .lst R3.u.dropLast) m4 (TA.in_u (A := A) (b := true))
      refine ⟨_, rfl, _, _, _, _, _, rfl, hT5.ins, cc, a5, rfl, tyL hT5.w, _, _, _, rfl, rfl, hT5.w, by show R3.w[R3.w.length - 1]? = _; rw [w3]; exact lW, ?_⟩
      have hT6 := hT5.set_w R3.w.dropLast
      have m6 := mskU (o := .lst R3.w.dropLast) m5 (TA.in_w (A := A) (b := true))
      have hdl : x ∈ s.lower.dropLast := by
        rw [hl, List.dropLast_concat]
        rw [hl] at hWm
        rcases List.mem_append.mp hWm with c | c
        · exact c
        · exact absurd (by simpa using c) exy
      have wdl : R3.w.dropLast = nV s.lower.dropLast := by rw [w3, nV_dropLast]
      refine ⟨_, rfl, _, rfl, _, _, _, _, _, rfl, hT6.ins, cc, a5, rfl, _, rfl, _, _, _, _, _, rfl, hT6.ins, cc, a5, rfl, tyL hT6.w, _, rfl, ?_⟩
      refine ⟨A.w, nV s.lower.dropLast, .int (x : Int), s.lower.dropLast.idxOf x, .int (x : Int), rfl, rfl, (by rw [← wdl]; exact SqL.of hT6.w), rfl, nV_flat _, nV_get (idx_at hdl), eqV_self _, no_before, ?_⟩
      refine ⟨A.w, R3.w.dropLast, _, s.lower.dropLast.idxOf x, rfl, rfl, hT6.w, ix_nat (by rw [wdl, nV_len]; exact List.idxOf_lt_length_of_mem hdl), ?_⟩
      have hT7 := hT6.set_w (R3.w.dropLast.set (s.lower.dropLast.idxOf x) (.int (y : Int)))
      have m7 := mskU (o := .lst (R3.w.dropLast.set (s.lower.dropLast.idxOf x) (.int (y : Int)))) m6 (TA.in_w (A := A) (b := true))
      refine hq _ _ m7 hT7 ?_
      have im := hT3.imm T (mskU (o := .lst (R3.w.dropLast.set (s.lower.dropLast.idxOf x) (.int (y : Int)))) (mskU (o := .lst R3.w.dropLast) (mskU (o := .lst R3.u.dropLast) (mskU (o := .lst (R3.a.set y (.int (s1'.nodes.length : Int)))) msk_sub (TA.in_a (A := A))) TA.in_u) TA.in_w) TA.in_w)
      have hDg := (hD3.imm im).setA y s1'.nodes.length
      have eW : eqW s x y = { St.after (s1'.tale x) s1' y with upper := s.upper.dropLast, lower := s.lower.dropLast.set (s.lower.dropLast.idxOf x) y } := by
        rw [← e3, ← e4, ← hs1]; rfl
      rw [eW]
      refine ⟨hDg.n, hDg.z, hDg.d, hDg.r, hDg.f, hDg.l, ?_, ?_, hDg.a, hDg.fin⟩
      · show R3.u.dropLast = nV s.upper.dropLast
        rw [u3, nV_dropLast]
      · show R3.w.dropLast.set _ _ = nV (s.lower.dropLast.set _ y)
        rw [wdl, nV_set]
    · have eL : s.L x ≠ s.L y := fun e => z2 (by rw [e]; exact decide_eq_true rfl)
      rw [if_neg eL] at hq
      walk_at "re"
      refine L2.ite2 (fun z3 => ?_) fun z3 => ?_
      · rw [if_pos (of_decide_eq_true z3)] at hq
        walk_at "re"
        exact hq
      · rw [if_neg (fun c => z3 (decide_eq_true c))] at hq
        have exy2 : y ≠ x := exy.symm
        walk_at "re"
        exact hq
end
end Bt
end
section
set_option Elab.async false
set_option linter.all false
set_option maxRecDepth 100000
set_option maxHeartbeats 2000000
set_option autoImplicit false
namespace Bt
open PySem PySem.Spec PyProof.Rows L2 Rz
/-! ### an object that is being built: its fields point at new lists -/
structure Bld (K : PySem.W.Frag) (H0 H : Hp) (t dx : Addr) (fs : List (PySem.Str × V)) (C : List (Addr × List V)) : Prop where
  ins : H t = some (.ins (cT K) dx fs)
  at_ : ∀ q ∈ C, H q.1 = some (.lst q.2)
  nd : (t :: C.map (·.1)).Nodup
  fr : ∀ q ∈ C, H0 q.1 = none
  sub : Sub (msk [t] H0) H
section
variable {K : PySem.W.Frag} {H0 H H' : Hp} {t dx p : Addr} {fs : List (PySem.Str × V)} {C : List (Addr × List V)}
theorem Bld.sub' (b : Bld K H0 H t dx fs C) (s : Sub H H') : Bld K H0 H' t dx fs C := ⟨s.at b.ins, fun q hq => s.at (b.at_ q hq), b.nd, b.fr, b.sub.tr s⟩
theorem Bld.put (b : Bld K H0 H t dx fs C) (f : PySem.Str) (v : V) : Bld K H0 (upd H t (.ins (cT K) dx (putF f v fs))) t dx (putF f v fs) C := by
  refine ⟨upd_same, fun q hq => ?_, b.nd, b.fr, b.sub.upd (msk_in (by simp))⟩
  rw [upd_ne]
  · exact b.at_ q hq
  · intro e
    exact (List.nodup_cons.mp b.nd).1 (by rw [← e]; exact List.mem_map_of_mem hq)
theorem Bld.lay (b : Bld K H0 H t dx fs C) (xs : List V) (np : H p = none) : Bld K H0 (upd H p (.lst xs)) t dx fs ((p, xs) :: C) := by
  have pt : p ≠ t := fun e => by rw [e, b.ins] at np; cases np
  have pC : ∀ q ∈ C, p ≠ q.1 := fun q hq e => by rw [e, b.at_ q hq] at np; cases np
  have b2 := b.sub' (Sub.rfl'.new (o := .lst xs) np)
  obtain ⟨n1, n2⟩ := List.nodup_cons.mp b.nd
  refine ⟨b2.ins, fun q hq => ?_, ?_, fun q hq => ?_, b2.sub⟩
  · rcases List.mem_cons.mp hq with e | e
    · rw [e]; exact upd_same
    · exact b2.at_ q e
  · rw [List.map_cons, List.nodup_cons, List.nodup_cons]
    refine ⟨fun m => ?_, fun m => ?_, n2⟩
    · rcases List.mem_cons.mp m with e | e
      · exact pt e.symm
      · exact n1 e
    · obtain ⟨q, hq, e⟩ := List.mem_map.mp m
      exact pC q hq e.symm
  · rcases List.mem_cons.mp hq with e | e
    · rw [e]
      cases h : H0 p with
      | none => rfl
      | some o =>
        have := b.sub.at (msk_at h (by simpa using pt))
        rw [np] at this; cases this
    · exact b.fr q e
end
theorem exN_sum (ls : List Int) : exN ls = ls.sum := by
  unfold exN
  rw [← map_sum]
  congr 1
  apply List.ext_getElem?
  intro i
  rw [List.getElem?_map]
  rcases Nat.lt_or_ge i ls.length with h | h
  · rw [List.getElem?_range h, List.getElem?_eq_getElem h]
    show some (ls.getD i 0) = _
    rw [List.getD_eq_getElem?_getD, List.getElem?_eq_getElem h]; rfl
  · rw [List.getElem?_eq_none (by rw [List.length_range]; exact h), List.getElem?_eq_none h]; rfl
theorem rgV_nV (n : Nat) : rgV 0 (n : Int) = nV (List.range n) := by
  unfold rgV nV
  rw [show ((n : Int) - 0).toNat = n by omega]
  refine List.map_congr_left fun i _ => ?_
  rw [Int.zero_add]
section
variable {K : PySem.W.Frag} {H H' : Hp} {A : TA} {R : Raw} {b : Bool} {s : Rz.St} {mg : PySem.Str → Option Value}
theorem TRaw.outF (h : TRaw K H A R false) {p : Addr} (np : H p = none) : p ∉ A.fp false := fun hm => by
  have hm' : p = A.t ∨ p = A.n ∨ p = A.z ∨ p = A.d ∨ p = A.r ∨ p = A.f ∨ p = A.l ∨ p = A.u ∨ p = A.w := by
    unfold TA.fp at hm
    simpa using hm
  rcases hm' with e | e | e | e | e | e | e | e | e <;> rw [e] at np
  · rw [h.ins] at np; cases np
  · rw [h.n] at np; cases np
  · rw [h.z] at np; cases np
  · rw [h.d] at np; cases np
  · rw [h.r] at np; cases np
  · rw [h.f] at np; cases np
  · rw [h.l] at np; cases np
  · rw [h.u] at np; cases np
  · rw [h.w] at np; cases np
theorem TRaw.off (h : TRaw K H A R b) {p : Addr} {o : HO} (np : p ∉ A.fp b) : TRaw K (upd H p o) A R b := by
  have k : ∀ a ∈ A.fp b, a ≠ p := fun a ha e => np (e ▸ ha)
  refine ⟨by rw [upd_ne (k _ TA.in_t)]; exact h.ins, by rw [upd_ne (k _ TA.in_n)]; exact h.n, by rw [upd_ne (k _ TA.in_z)]; exact h.z, by rw [upd_ne (k _ TA.in_d)]; exact h.d, by rw [upd_ne (k _ TA.in_r)]; exact h.r,
    by rw [upd_ne (k _ TA.in_f)]; exact h.f, by rw [upd_ne (k _ TA.in_l)]; exact h.l, by rw [upd_ne (k _ TA.in_u)]; exact h.u, by rw [upd_ne (k _ TA.in_w)]; exact h.w, fun e => ?_, h.nd⟩
  subst e
  rw [upd_ne (k _ TA.in_a)]; exact h.a rfl
theorem Imm.updL {p : Addr} {xs : List V} {o : HO} (h : H p = some (.lst xs)) : Imm K H (upd H p o) :=
  ⟨fun a ys ha => by rw [upd_ne (fun e => by rw [e, h] at ha; cases ha)]; exact ha, fun a dx fs ha => by rw [upd_ne (fun e => by rw [e, h] at ha; cases ha)]; exact ha⟩
theorem Imm.updT (T : Tx K mg) {p dx : Addr} {fs : List (PySem.Str × V)} {o : HO} (h : H p = some (.ins (cT K) dx fs)) : Imm K H (upd H p o) :=
  ⟨fun a ys ha => by rw [upd_ne (fun e => by rw [e, h] at ha; cases ha)]; exact ha, fun a dx' fs' ha => by
    rw [upd_ne (fun e => by
      rw [e, h] at ha
      injection ha with ha
      injection ha with h1
      exact cST T h1.symm)]; exact ha⟩
end
section
variable {P : Program} {w : World} {K : PySem.W.Frag} {mg : PySem.Str → Option Value} {base : Heap}
local macro_rules | `(tactic| walk_at "sd") => `(tactic| first
  | rfl | assumption
  | exact Sub.at ‹Sub _ _› (by assumption)
  | exact SqL.of (by assumption) | exact SqT.of (by assumption) | exact SqL.of (Sub.at ‹Sub _ _› (by assumption)) | exact SqT.of (Sub.at ‹Sub _ _› (by assumption))
  | exact Or.inl (SqL.of (by assumption)) | exact Or.inr (SqT.of (by assumption)) | exact Or.inl (SqL.of (Sub.at ‹Sub _ _› (by assumption))) | exact Or.inr (SqT.of (Sub.at ‹Sub _ _› (by assumption)))
  | exact ClsV.ty _ | exact TyX.base (.int _) | exact TyX.base (.str _) | exact TyX.base (.tup (by assumption)) | exact kit_int | exact kit_ib | exact kit_ss | exact kit_tt)
local macro_rules | `(tactic| walk_at "rd1") => `(tactic| first
  | (apply Exists.intro)
  | (refine And.intro ?_ ?_; (focus (walk_at "sd")))
  | (refine L2.iteT ?_)
  | (refine L2.iteF ?_))
local macro_rules | `(tactic| walk_at "rd") => `(tactic| repeat (walk_at "rd1"))
local macro_rules | `(tactic| walk_at "se") => `(tactic| first
  | rfl | assumption
  | exact Sub.at ‹Sub _ _› (by assumption)
  | exact SqL.of (by assumption) | exact SqT.of (by assumption) | exact SqL.of (Sub.at ‹Sub _ _› (by assumption)) | exact SqT.of (Sub.at ‹Sub _ _› (by assumption))
  | exact Or.inl (SqL.of (by assumption)) | exact Or.inr (SqT.of (by assumption)) | exact Or.inl (SqL.of (Sub.at ‹Sub _ _› (by assumption))) | exact Or.inr (SqT.of (Sub.at ‹Sub _ _› (by assumption)))
  | exact TRaw.ins ‹TRaw _ _ _ _ _› | exact TA.miss
  | exact TRaw.n ‹TRaw _ _ _ _ _›
  | exact TRaw.z ‹TRaw _ _ _ _ _›
  | exact TRaw.d ‹TRaw _ _ _ _ _›
  | exact TRaw.r ‹TRaw _ _ _ _ _›
  | exact TRaw.f ‹TRaw _ _ _ _ _›
  | exact TRaw.l ‹TRaw _ _ _ _ _›
  | exact TRaw.u ‹TRaw _ _ _ _ _›
  | exact TRaw.w ‹TRaw _ _ _ _ _› | exact TRaw.a ‹TRaw _ _ _ _ _› rfl
  | exact SqL.of (TRaw.n ‹TRaw _ _ _ _ _›)
  | exact SqL.of (TRaw.z ‹TRaw _ _ _ _ _›)
  | exact SqL.of (TRaw.d ‹TRaw _ _ _ _ _›)
  | exact SqL.of (TRaw.r ‹TRaw _ _ _ _ _›)
  | exact SqL.of (TRaw.f ‹TRaw _ _ _ _ _›)
  | exact SqL.of (TRaw.l ‹TRaw _ _ _ _ _›)
  | exact SqL.of (TRaw.u ‹TRaw _ _ _ _ _›)
  | exact SqL.of (TRaw.w ‹TRaw _ _ _ _ _›) | exact SqL.of (TRaw.a ‹TRaw _ _ _ _ _› rfl)
  | exact ClsV.ty _ | exact TyX.base (.int _) | exact TyX.base (.str _) | exact TyX.base (.tup (by assumption)) | exact kit_int | exact kit_ib | exact kit_ss | exact kit_tt)
local macro_rules | `(tactic| walk_at "re1") => `(tactic| first
  | (apply Exists.intro)
  | (refine And.intro ?_ ?_; (focus (walk_at "se")))
  | (refine L2.iteT ?_)
  | (refine L2.iteF ?_))
local macro_rules | `(tactic| walk_at "re") => `(tactic| repeat (walk_at "re1"))

theorem sc_Turning_init : FnScope ["self", "exchange", "lengths", "order", "moves", "begin", "shift", "block"] ["self", "exchange"] (defScope s_Turning_init) := ⟨rfl, rfl, rfl, by decide +kernel, rfl, by decide +kernel, by decide +kernel⟩
/-- a finished turning -/
structure TOk (K : PySem.W.Frag) (H : Hp) (A : TA) (s : Rz.St) : Prop where
  ex : ∃ R, TRaw K H A R true ∧ Deep K H R s
structure Done (ls : List Int) (od : List Nat) (s : Rz.St) : Prop where
  f : Fit0 (exN ls) (mv ls od) ls.length s
  fits : Fits (exN ls) s.recs
  up : s.upper = []
  rl : s.recs.length ≤ 200
  mp : Mp s.nodes
abbrev sp_Turning_init (K : PySem.W.Frag) : Sp := P2 fun a b H Q => ∃ (t dx e : Addr) (ls : List Int) (od : List Nat), a = .ref t ∧ b = .ref e ∧ H t = some (.ins (cT K) dx []) ∧ ExT H e ls od ∧ ExOk ls od ∧ Ends 200 (st0 ls od) ∧
  ∀ H' A s, Sub (msk [t] H) H' → A.t = t → TOk K H' A s → Done ls od s → (∀ a ∈ A.fp true, a ≠ t → H a = none) → Q .non H'
theorem ok_Turning_init (T : Tx K mg) : Gi P w K mg base 6 "Turning" (cT K) ["self", "exchange"] (sp_Turning_init K) := by
  refine mki T.F_Turning_init T.k_Turning T.g_Turning sc_Turning_init P2.ar (fun _ _ _ _ _ _ us hl => match us, hl with | [_, _], _ => rfl) fun cdv A0 outer s0 H vs Q E hr h => ?_
  obtain ⟨_, _, rfl, t, dx, e, ls, od, rfl, rfl, ht, ⟨l, o, he, hl, ho⟩, ok, hend, hq⟩ := h
  have cc := T.c_Turning
  have x1 := T.a_Turning_nodes
  have x2 := T.a_Turning_sizes
  have x3 := T.a_Turning_drifts
  have x4 := T.a_Turning_records
  have x5 := T.a_Turning_found
  have x6 := T.a_Turning_left
  have x7 := T.a_Turning_upper
  have x8 := T.a_Turning_lower
  have x9 := T.a_Turning_end
  have x10 := T.a_Turning_tales
  have one := ok.one
  have six := ok.len
  have lo := ok.lenO
  have et : e ≠ t := fun z => by rw [z, ht] at he; cases he
  have lt : l ≠ t := fun z => by rw [z, ht] at hl; cases hl
  have ot : o ≠ t := fun z => by rw [z, ht] at ho; cases ho
  have kl : msk [t] H l = some (.tup (iV ls)) := msk_at hl (by simpa using lt)
  have ko : msk [t] H o = some (.tup (nV od)) := msk_at ho (by simpa using ot)
  have B0 : Bld K H H t dx [] [] := ⟨ht, fun _ h => by simp at h, by simp, fun _ h => by simp at h, msk_sub⟩
  refine ⟨_, (pss_cons (ps_asg (pv 1) (pg_tup rfl (pgs_cons (pg_name (i := 2) sc_Turning_init.nd rfl (by first | exact .inl rfl | exact .inr rfl)) (pgs_cons (pg_name (i := 3) sc_Turning_init.nd rfl (by first | exact .inl rfl | exact .inr rfl)) pgs_nil))))
  (pss_cons (ps_fld (pv 0) (pe_lst pa_nil) rfl)
  (pss_cons (ps_fld (pv 0) (pe_lst pa_nil) rfl)
  (pss_cons (ps_fld (pv 0) (pe_lst pa_nil) rfl)
  (pss_cons (ps_fld (pv 0) (pe_lst pa_nil) rfl)
  (pss_cons (ps_fld (pv 0) (pe_lst pa_nil) rfl)
  (pss_cons (ps_fld (pv 0) (pe_callTy call_list_of rfl T.n_list (by decide +kernel) (pa_cons (pv 2) pa_nil)) rfl)
  (pss_cons (ps_fld (pv 0) (pe_listRg rfl rfl T.n_list (prg_1 rfl T.n_range (pe_callB call_len_seq rfl T.n_len (by decide +kernel) (pa_cons (pv 2) pa_nil)))) rfl)
  (pss_cons (ps_fld (pv 0) (pe_callTy call_list_of rfl T.n_list (by decide +kernel) (pa_cons (pv 3) pa_nil)) rfl)
  (pss_cons (ps_fld (pv 0) (pe_callB (cr_sumT rfl) rfl T.n_sum (by decide +kernel) (pa_cons (pv 2) pa_nil)) rfl)
  (pss_cons (ps_set (i := 4) sc_Turning_init.nd rfl (by first | exact .inl rfl | exact .inr rfl) (pe_lc (own := [("begin", 5), ("shift", 6)]) (g := (gTup K 2 (gCons (gName 5) (gCons (gName 6) gNil)))) (tt := tYes) (te := (tVar 6)) rfl sc_Turning_init.nd (pi_list (cm (ok_Turning_moved T) hr (pv 0) (pa_cons (pe_fld (pv 0) rfl) pa_nil))) (blkOk_by (N := ["self", "exchange", "lengths", "order", "moves", "begin", "shift", "block"]) (sc := defScope s_Turning_init) (by decide +kernel)) (fun _ _ _ _ _ => (pg_tup rfl (pgs_cons (pg_name (i := 5) sc_Turning_init.nd rfl (by first | exact .inl rfl | exact .inr rfl)) (pgs_cons (pg_name (i := 6) sc_Turning_init.nd rfl (by first | exact .inl rfl | exact .inr rfl)) pgs_nil)))) (fun _ _ _ _ _ => pts_nil) (fun _ _ _ _ _ => (pv 6))))
  (pss_cons (ps_fld (pv 0) (pe_lc (own := [("block", 7)]) (g := (gName 7)) (tt := tYes) (te := (tMeth (cT K) "node" (sp_Turning_node K) [] E0 (tVar 0) (tCons (tC (.int 0)) (tCons (tVar 7) (tCons (tC (.int 0)) (tCons (tC (.int 1)) (tCons (tOp (rIxL K) (tVar 4) (tVar 7)) tNil))))))) rfl sc_Turning_init.nd (pi_range1 rfl T.n_range (pa_cons (pe_callB call_len_seq rfl T.n_len (by decide +kernel) (pa_cons (pv 2) pa_nil)) pa_nil)) (blkOk_by (N := ["self", "exchange", "lengths", "order", "moves", "begin", "shift", "block"]) (sc := defScope s_Turning_init) (by decide +kernel)) (fun _ _ _ _ _ => (pg_name (i := 7) sc_Turning_init.nd rfl (by first | exact .inl rfl | exact .inr rfl))) (fun _ _ _ _ _ => pts_nil) (fun _ _ _ _ _ => (cm (ok_Turning_node T) hr (pv 0) (pa_cons (pe_gI T.i_BLOCK) (pa_cons (pv 7) (pa_cons pe_int (pa_cons pe_int (pa_cons (pe_ix ix_list (pv 4) (pv 7) (fun _ _ => rfl)) pa_nil)))))))) rfl)
  (pss_one (ps_while PassesOwn.never (pt_cmpR (op_neD hr.units) (pe_fld (pv 0) rfl) (pe_lst pa_nil) (nomark _)) (pss_one (ps_expr (cm0 (ok_Turning_shorten T) hr (pv 0)))))))))))))))))), ?_⟩
  walk_at "re"
  refine ⟨by show 0 ≤ sizeLine; decide, fun p1 n1 => ?_⟩
  have B1 := (B0.lay [] n1).put "nodes" (.ref p1)
  refine ⟨_, rfl, t, _, _, _, rfl, (B0.lay [] n1).ins, cc, x1, by show 0 < 1000; decide, ?_⟩
  refine ⟨by show 0 ≤ sizeLine; decide, fun p2 n2 => ?_⟩
  have B2 := (B1.lay [] n2).put "sizes" (.ref p2)
  refine ⟨_, rfl, t, _, _, _, rfl, (B1.lay [] n2).ins, cc, x2, by show 1 < 1000; decide, ?_⟩
  refine ⟨by show 0 ≤ sizeLine; decide, fun p3 n3 => ?_⟩
  have B3 := (B2.lay [] n3).put "drifts" (.ref p3)
  refine ⟨_, rfl, t, _, _, _, rfl, (B2.lay [] n3).ins, cc, x3, by show 2 < 1000; decide, ?_⟩
  refine ⟨by show 0 ≤ sizeLine; decide, fun p4 n4 => ?_⟩
  have B4 := (B3.lay [] n4).put "records" (.ref p4)
  refine ⟨_, rfl, t, _, _, _, rfl, (B3.lay [] n4).ins, cc, x4, by show 3 < 1000; decide, ?_⟩
  refine ⟨by show 0 ≤ sizeLine; decide, fun p5 n5 => ?_⟩
  have B5 := (B4.lay [] n5).put "found" (.ref p5)
  refine ⟨_, rfl, t, _, _, _, rfl, (B4.lay [] n5).ins, cc, x5, by show 4 < 1000; decide, ?_⟩
  refine ⟨_, rfl, _, _, rfl, .inr (SqT.of (B5.sub.at kl)), fun p6 n6 => ?_⟩
  have B6 := (B5.lay (iV ls) n6).put "left" (.ref p6)
  refine ⟨_, rfl, t, _, _, _, rfl, (B5.lay (iV ls) n6).ins, cc, x6, by show 5 < 1000; decide, ?_⟩
  refine ⟨_, rfl, _, _, rfl, .inr (SqT.of (B6.sub.at kl)), _, rfl, RgOk.of_le (by decide) (by rw [iV_len]; omega) (by decide) (by omega), fun p7 n7 => ?_⟩
  rw [iV_len, rgV_nV]
  have B7 := (B6.lay (nV (List.range ls.length)) n7).put "upper" (.ref p7)
  refine ⟨_, rfl, t, _, _, _, rfl, (B6.lay _ n7).ins, cc, x7, by show 6 < 1000; decide, ?_⟩
  refine ⟨_, rfl, _, _, rfl, .inr (SqT.of (B7.sub.at ko)), fun p8 n8 => ?_⟩
  have B8 := (B7.lay (nV od) n8).put "lower" (.ref p8)
  refine ⟨_, rfl, t, _, _, _, rfl, (B7.lay _ n8).ins, cc, x8, by show 7 < 1000; decide, ?_⟩
  refine ⟨_, rfl, _, _, rfl, SqT.of (B8.sub.at kl), ?_⟩
  have B9 := B8.put "end" (.int ls.sum)
  refine ⟨_, rfl, t, _, _, _, rfl, B8.ins, cc, x9, by show 8 < 1000; decide, ?_⟩
  clear B0 B1 B2 B3 B4 B5 B6 B7
  generalize hH : upd _ t (HO.ins (cT K) dx (putF "end" (V.int ls.sum) _)) = H9 at B9 ⊢
  clear B8 hH n1 n2 n3 n4 n5 n6 n7 n8
  obtain ⟨A, hAt, hAdx, hA⟩ : ∃ A : TA, A.t = t ∧ A.dx = dx ∧ A = ⟨t, dx, p1, p2, p3, p4, p5, p6, p7, p8, t⟩ := ⟨_, rfl, rfl, rfl⟩
  have hT : TRaw K H9 A ⟨[], [], [], [], [], iV ls, nV (List.range ls.length), nV od, [], ls.sum⟩ false := by
    rw [hA]
    refine ⟨B9.ins, B9.at_ (p1, []) (by simp), B9.at_ (p2, []) (by simp), B9.at_ (p3, []) (by simp), B9.at_ (p4, []) (by simp), B9.at_ (p5, []) (by simp), B9.at_ (p6, iV ls) (by simp), B9.at_ (p7, nV (List.range ls.length)) (by simp), B9.at_ (p8, nV od) (by simp), (fun z => nomatch z), ?_⟩
    obtain ⟨m1, m2⟩ := List.nodup_cons.mp B9.nd
    refine List.nodup_cons.mpr ⟨fun z => m1 ?_, ?_⟩
    · have z' : t ∈ [p1, p2, p3, p4, p5, p6, p7, p8] := z
      have : t ∈ [p1, p2, p3, p4, p5, p6, p7, p8].reverse := List.mem_reverse.mpr z'
      exact this
    · exact (List.reverse_perm _).nodup_iff.mpr m2
  have hfr : ∀ a ∈ A.fp false, a ≠ t → H a = none := by
    rw [hA]
    intro a ha hne
    have ha' : a ∈ [t, p1, p2, p3, p4, p5, p6, p7, p8] := ha
    rcases List.mem_cons.mp ha' with z | z
    · exact absurd z hne
    · have z2 : a ∈ [p1, p2, p3, p4, p5, p6, p7, p8].reverse := List.mem_reverse.mpr z
      obtain ⟨q, hq1, hq2⟩ := List.mem_map.mp (show a ∈ List.map (fun q : Addr × List V => q.1) [(p8, nV od), (p7, nV (List.range ls.length)), (p6, iV ls), (p5, []), (p4, []), (p3, []), (p2, []), (p1, [])] from z2)
      rw [← hq2]
      exact B9.fr q hq1
  have sub9 := B9.sub
  clear B9
  clear hA
  subst hAdx
  subst hAt
  have hD : Deep K H9 ⟨[], [], [], [], [], iV ls, nV (List.range ls.length), nV od, [], ls.sum⟩ ⟨[], [], ls, List.range ls.length, od, exN ls, []⟩ := ⟨⟨[], rfl, A2.nil⟩, rfl, rfl, A2.nil, ⟨[], rfl, A2.nil⟩, rfl, rfl, rfl, rfl, (exN_sum ls).symm⟩
  have q1 := List.nodup_range (n := ls.length)
  have q2 := ok.nd
  have q3 : ∀ x ∈ List.range ls.length, x < ls.length := fun x hx => List.mem_range.mp hx
  have q4 : ∀ x ∈ od, x < ls.length := fun x hx => by have := ok.lt x hx; omega
  have q5 : (List.range ls.length).length ≤ 1000 := by rw [List.length_range]; omega
  have q6 : od.length ≤ 1000 := by omega
  have q7 : ∀ x ∈ List.range ls.length, x ∈ List.range ls.length ∧ x ∈ od := fun x hx => ⟨hx, ok.ex.perm.mem_iff.mp hx⟩
  have hup := hT.u
  walk_at "re"
  intro mp Hb as sb hmp hA2
  refine ⟨mp, rfl, ⟨_, SqL.of hmp⟩, fun D hD0 => lc_val (walk_list (xs := rV as)) hD0 (by rw [rV_len, hA2.len]; omega) (iV ((List.range ls.length).map (exSh ls od))) (by rw [rV_len, iV_len, List.length_map, hA2.len]) (fun Ha hs => SqL.of (hs.at hmp)) (fun i v Ha Hc hi hs hy Q' Nx hq' => ?_) fun Ha hs ha => ?_⟩
  · obtain ⟨rfl, hx1⟩ := hy
    obtain ⟨a, ha, rfl⟩ := rV_inv hx1
    obtain ⟨x0, hx0, hm⟩ := hA2.get' ha
    have hm2 := hs.at hm
    refine ⟨a, _, rfl, SqT.of hm2, rfl, ?_⟩
    walk_at "rd"
    exact hq' _ _ Sub.rfl' (iV_get (by rw [List.getElem?_map, hx0]; rfl))
  have sa : Sub H9 Ha := sb.tr hs
  have hTa := hT.sub sa
  have hDa := hD.sub sa
  have suba : Sub (msk [A.t] H) Ha := sub9.tr sa
  have hla := suba.at kl
  have fD : D ∉ A.fp false := (hT.sub sb).outF hD0
  walk_at "re"
  rw [iV_len]
  refine ⟨by omega, by omega, ?_⟩
  rw [show ((ls.length : Int)).toNat = ls.length from rfl]
  intro D2 hD2
  have fD2 : D2 ∉ A.fp false := hTa.outF hD2
  refine lc_it (walk_range (lo := 0) (n := ls.length)) (fun i H' => Bx (∃ R', Sub (msk (A.fp false) Ha) H' ∧ TRaw K H' A R' false ∧ Deep K H' R' ⟨(List.range i).map fun x => ⟨0, x, 0, 1, exSh ls od x⟩, [], ls, List.range ls.length, od, exN ls, []⟩ ∧ H' D2 = some (.lst (nV (List.range i)))))
    ⟨_, msk_sub.new hD2, hTa.new hD2, (hDa.sub (Sub.rfl'.new hD2)), upd_same⟩ (fun _ _ _ _ => trivial) (fun i x H1 H2 hi h hy => ?_) fun H1 h => ?_
  · obtain ⟨R', m1, hT1, hD1, hd1⟩ := h.o
    obtain ⟨rfl, rfl⟩ := hy
    have hDm : H2 D = some (.lst (iV ((List.range ls.length).map (exSh ls od)))) := m1.at (msk_at ha fD)
    have hmv : atI (iV ((List.range ls.length).map (exSh ls od))) (0 + (i : Int)) = some (.int (exSh ls od i)) := by
      rw [Int.zero_add]
      exact atI_nat (iV_get (by rw [List.getElem?_map, List.getElem?_range hi]; rfl))
    have ln : R'.n.length = i := by rw [hD1.lenN]; show ((List.range i).map _).length = i; rw [List.length_map, List.length_range]
    have k1 : R'.n.length < 90000 := by omega
    have k2 : R'.z.length < 90000 := by rw [hD1.lenZ, ← hD1.lenN]; omega
    have k3 : R'.d.length < 90000 := by rw [hD1.lenD, ← hD1.lenN]; omega
    walk_at "re"
    intro H3 q m3 hq3 hT3
    have hq3 : H3 q = some (.tup [.int ((0 : Nat) : Int), .int (i : Int), .int ((0 : Nat) : Int)]) := by
      have e0 : (0 : Int) + (i : Int) = (i : Int) := Int.zero_add _
      dsimp only at hq3
      rw [e0] at hq3
      exact hq3
    have hd3 : H3 D2 = some (.lst (nV (List.range i))) := m3.at (msk_at hd1 fD2)
    refine ⟨_, hd3, szlt (by rw [nV_len, List.length_range]; omega), ⟨_, (mskTr m1 m3).upd ?_, hT3.off fD2, ?_, ?_⟩⟩
    · rw [msk_out fD2]; exact hD2
    · have hDd := ((hD1.imm (hT1.imm T m3)).add (d := ⟨0, i, 0, 1, exSh ls od i⟩) hq3).imm (Imm.updL (o := .lst (nV (List.range i) ++ [.int (R'.n.length : Int)])) hd3)
      have e : (⟨(List.range (i + 1)).map fun x => ⟨0, x, 0, 1, exSh ls od x⟩, [], ls, List.range ls.length, od, exN ls, []⟩ : Rz.St) = St.add ⟨(List.range i).map fun x => ⟨0, x, 0, 1, exSh ls od x⟩, [], ls, List.range ls.length, od, exN ls, []⟩ ⟨0, i, 0, 1, exSh ls od i⟩ := by
        unfold St.add
        rw [List.range_succ, List.map_append]; rfl
      rw [e]
      exact hDd
    · rw [upd_same, ln, nV_snoc, ← List.range_succ]
  obtain ⟨R', m1, hT1, hD1, hd1⟩ := h.o
  refine ⟨_, rfl, A.t, _, _, _, rfl, hT1.ins, cc, x10, TA.fs_len _ _ _, ?_⟩
  obtain ⟨A', hA'⟩ : ∃ X : TA, X = { A with a := D2 } := ⟨_, rfl⟩
  have efs : putF "tales" (.ref D2) (A.fs R'.fin false) = A'.fs R'.fin true := by rw [hA']; rfl
  rw [efs]
  have eAt : A'.t = A.t := by rw [hA']
  have efp : A'.fp true = A.fp false ++ [D2] := by rw [hA']; rfl
  have h2t : D2 ≠ A.t := fun e => fD2 (by rw [e]; exact TA.in_t)
  have hTc : TRaw K (upd H1 A.t (.ins (cT K) A.dx (A'.fs R'.fin true))) A' { R' with a := nV (List.range ls.length) } true := by
    have k : ∀ {i : Nat} {x : Addr}, (A.fp false)[i]? = some x → i ≠ 0 → x ≠ A.t := fun hi hne => hT1.ne hi (j := 0) rfl hne
    rw [hA']
    refine ⟨upd_same, ?_, ?_, ?_, ?_, ?_, ?_, ?_, ?_, fun _ => ?_, ?_⟩
    · show upd _ _ _ A.n = _
      rw [upd_ne (k (i := 1) rfl (by decide))]; exact hT1.n
    · show upd _ _ _ A.z = _
      rw [upd_ne (k (i := 2) rfl (by decide))]; exact hT1.z
    · show upd _ _ _ A.d = _
      rw [upd_ne (k (i := 3) rfl (by decide))]; exact hT1.d
    · show upd _ _ _ A.r = _
      rw [upd_ne (k (i := 4) rfl (by decide))]; exact hT1.r
    · show upd _ _ _ A.f = _
      rw [upd_ne (k (i := 5) rfl (by decide))]; exact hT1.f
    · show upd _ _ _ A.l = _
      rw [upd_ne (k (i := 6) rfl (by decide))]; exact hT1.l
    · show upd _ _ _ A.u = _
      rw [upd_ne (k (i := 7) rfl (by decide))]; exact hT1.u
    · show upd _ _ _ A.w = _
      rw [upd_ne (k (i := 8) rfl (by decide))]; exact hT1.w
    · show upd _ _ _ D2 = _
      rw [upd_ne h2t]; exact hd1
    · show (A.fp false ++ [D2]).Nodup
      rw [List.nodup_append]
      refine ⟨hT1.nd, by simp, fun a ha b hb e => ?_⟩
      rw [List.mem_singleton.mp hb] at e
      exact fD2 (e ▸ ha)
  have hDc : Deep K (upd H1 A.t (.ins (cT K) A.dx (A'.fs R'.fin true))) { R' with a := nV (List.range ls.length) } (st0 ls od) := by
    have h1 := hD1.imm (Imm.updT T (o := .ins (cT K) A.dx (A'.fs R'.fin true)) hT1.ins)
    exact ⟨h1.n, h1.z, h1.d, h1.r, h1.f, h1.l, h1.u, h1.w, rfl, h1.fin⟩
  have mc : Sub (msk [A.t] H) (upd H1 A.t (.ins (cT K) A.dx (A'.fs R'.fin true))) := by
    refine Sub.upd (fun a o h => ?_) (msk_in (by simp))
    have h0 : a ∉ A.fp false := fun hm => by
      have hne : a ≠ A.t := fun e => by rw [e, msk_in (by simp)] at h; cases h
      rw [msk_out (by simpa using hne), hfr a hm hne] at h; cases h
    exact m1.at (msk_at (suba.at h) h0)
  have frA : ∀ a ∈ A'.fp true, a ≠ A.t → H a = none := fun a ha hne => by
    rw [efp] at ha
    rcases List.mem_append.mp ha with z | z
    · exact hfr a z hne
    · rw [List.mem_singleton.mp z]
      cases hh : H D2 with
      | none => rfl
      | some o =>
        have := suba.at (msk_at hh (by simpa using h2t))
        rw [hD2] at this; cases this
  have nle : exN ls ≤ 1000000000000 := by rw [exN_sum]; exact ok.le
  refine ⟨fun m σ H' => Bx (∃ R s, σ = [some (.ref A.t), some (.ref e), some (.ref l), some (.ref o), some (.ref D), none, none, none] ∧ Rz.Ends m s ∧ s.recs.length + m ≤ 200 ∧ Sub (msk [A.t] H) H' ∧ TRaw K H' A' R true ∧ Deep K H' R s ∧ Good (exN ls) (mv ls od) ls.length s ∧ Bd ls.length s ∧ Fits (exN ls) s.recs ∧ Mp s.nodes),
    ⟨200, _, st0 ls od, rfl, hend, Nat.le_refl _, mc, hTc, hDc, good0 ok.ex, bd0 ls od, fits0 _, mp0 ls od⟩, fun m σ Hw hw => ?_⟩
  obtain ⟨R2, s2, rfl, en, rl, mw, hT2, hD2', g2, b2, f2, mp2⟩ := hw.o
  have hu2 : Hw A'.u = some (.lst (nV s2.upper)) := by rw [← hD2'.u]; exact hT2.u
  have hI2 := hT2.ins
  rw [eAt] at hI2
  refine ⟨_, rfl, _, _, _, _, _, rfl, hI2, cc, x7, rfl, by show 0 ≤ sizeLine; decide, fun q nq => ?_⟩
  have sq : Sub Hw (upd Hw q (.lst [])) := Sub.rfl'.new nq
  refine ⟨_, _, dp_nL (SqL.of (sq.at hu2)), dp_eL upd_same, sh_iL _, sh_eL, _, rfl, ?_⟩
  rw [eq_L0]
  by_cases c : s2.upper = []
  · refine ifF (by rw [c]; decide) ?_
    have hT3 := hT2.sub sq
    exact hq _ A' s2 (mw.tr sq) eAt ⟨_, hT3, hD2'.sub sq⟩ ⟨⟨g2, b2, nle, six, by omega⟩, f2, c, by omega, mp2⟩ frA
  · refine ifT (by cases h : s2.upper with
      | nil => exact absurd h c
      | cons a r => rfl) ?_
    cases m with
    | zero => exact absurd en c
    | succ k =>
      have en2 : Rz.Ends k (shorten s2) := by
        rcases en with z | z
        · exact absurd z c
        · exact z
      have rl2 := (bd_shorten g2 (by omega) six c b2).2
      refine ⟨fun σ' H' => Bx (∃ R s, σ' = [some (.ref A.t), some (.ref e), some (.ref l), some (.ref o), some (.ref D), none, none, none] ∧ Rz.Ends k s ∧ s.recs.length + k ≤ 200 ∧ Sub (msk [A.t] H) H' ∧ TRaw K H' A' R true ∧ Deep K H' R s ∧ Good (exN ls) (mv ls od) ls.length s ∧ Bd ls.length s ∧ Fits (exN ls) s.recs ∧ Mp s.nodes), fun σ' H' h => ⟨k, Nat.lt_succ_self k, h⟩, ?_⟩
      have hT3 := hT2.sub sq
      refine ⟨_, rfl, A.t, _, _, rfl, sq.at hI2, TA.miss, ?_⟩
      refine ⟨_, rfl, A', R2, s2, exN ls, mv ls od, ls.length, by rw [eAt], hT3, hD2'.sub sq, ⟨g2, b2, nle, six, by omega⟩, c, fun H' R' m' hT' hD' => ?_⟩
      refine ⟨R', shorten s2, rfl, en2, by omega, fun a o h => ?_, hT', hD', (good_shorten g2 c).1, (bd_shorten g2 (by omega) six c b2).1, fits_shorten g2 nle c f2, mp_shorten g2 nle c mp2⟩
      have h0 : a ∉ A'.fp true := fun hm => by
        have hne : a ≠ A.t := fun e => by rw [e, msk_in (by simp)] at h; cases h
        rw [msk_out (by simpa using hne), frA a hm hne] at h; cases h
      exact m'.at (msk_at ((mw.tr sq).at h) h0)
end
end Bt
end
section
set_option Elab.async false
set_option linter.all false
set_option maxRecDepth 100000
set_option maxHeartbeats 2000000
set_option autoImplicit false
namespace Bt
open PySem PySem.Spec PyProof.Rows L2 Rz
theorem TOk.sub {K : PySem.W.Frag} {H H' : Hp} {A : TA} {s : Rz.St} (h : TOk K H A s) (i : Sub H H') : TOk K H' A s := let ⟨R, a, b⟩ := h.ex; ⟨R, a.sub i, b.sub i⟩
section
variable {P : Program} {w : World} {K : PySem.W.Frag} {mg : PySem.Str → Option Value} {base : Heap}
local macro_rules | `(tactic| walk_at "sd") => `(tactic| first
  | rfl | assumption
  | exact Sub.at ‹Sub _ _› (by assumption)
  | exact SqL.of (by assumption) | exact SqT.of (by assumption) | exact SqL.of (Sub.at ‹Sub _ _› (by assumption)) | exact SqT.of (Sub.at ‹Sub _ _› (by assumption))
  | exact Or.inl (SqL.of (by assumption)) | exact Or.inr (SqT.of (by assumption)) | exact Or.inl (SqL.of (Sub.at ‹Sub _ _› (by assumption))) | exact Or.inr (SqT.of (Sub.at ‹Sub _ _› (by assumption)))
  | exact ClsV.ty _ | exact TyX.base (.int _) | exact TyX.base (.str _) | exact TyX.base (.tup (by assumption)) | exact kit_int | exact kit_ib | exact kit_ss | exact kit_tt)
local macro_rules | `(tactic| walk_at "rd1") => `(tactic| first
  | (apply Exists.intro)
  | (refine And.intro ?_ ?_; (focus (walk_at "sd")))
  | (refine L2.iteT ?_)
  | (refine L2.iteF ?_))
local macro_rules | `(tactic| walk_at "rd") => `(tactic| repeat (walk_at "rd1"))
local macro_rules | `(tactic| walk_at "se") => `(tactic| first
  | rfl | assumption
  | exact Sub.at ‹Sub _ _› (by assumption)
  | exact SqL.of (by assumption) | exact SqT.of (by assumption) | exact SqL.of (Sub.at ‹Sub _ _› (by assumption)) | exact SqT.of (Sub.at ‹Sub _ _› (by assumption))
  | exact Or.inl (SqL.of (by assumption)) | exact Or.inr (SqT.of (by assumption)) | exact Or.inl (SqL.of (Sub.at ‹Sub _ _› (by assumption))) | exact Or.inr (SqT.of (Sub.at ‹Sub _ _› (by assumption)))
  | exact TRaw.ins ‹TRaw _ _ _ _ _› | exact TA.miss
  | exact TRaw.n ‹TRaw _ _ _ _ _›
  | exact TRaw.z ‹TRaw _ _ _ _ _›
  | exact TRaw.d ‹TRaw _ _ _ _ _›
  | exact TRaw.r ‹TRaw _ _ _ _ _›
  | exact TRaw.f ‹TRaw _ _ _ _ _›
  | exact TRaw.l ‹TRaw _ _ _ _ _›
  | exact TRaw.u ‹TRaw _ _ _ _ _›
  | exact TRaw.w ‹TRaw _ _ _ _ _› | exact TRaw.a ‹TRaw _ _ _ _ _› rfl
  | exact SqL.of (TRaw.n ‹TRaw _ _ _ _ _›)
  | exact SqL.of (TRaw.z ‹TRaw _ _ _ _ _›)
  | exact SqL.of (TRaw.d ‹TRaw _ _ _ _ _›)
  | exact SqL.of (TRaw.r ‹TRaw _ _ _ _ _›)
  | exact SqL.of (TRaw.f ‹TRaw _ _ _ _ _›)
  | exact SqL.of (TRaw.l ‹TRaw _ _ _ _ _›)
  | exact SqL.of (TRaw.u ‹TRaw _ _ _ _ _›)
  | exact SqL.of (TRaw.w ‹TRaw _ _ _ _ _›) | exact SqL.of (TRaw.a ‹TRaw _ _ _ _ _› rfl)
  | exact ClsV.ty _ | exact TyX.base (.int _) | exact TyX.base (.str _) | exact TyX.base (.tup (by assumption)) | exact kit_int | exact kit_ib | exact kit_ss | exact kit_tt)
local macro_rules | `(tactic| walk_at "re1") => `(tactic| first
  | (apply Exists.intro)
  | (refine And.intro ?_ ?_; (focus (walk_at "se")))
  | (refine L2.iteT ?_)
  | (refine L2.iteF ?_))
local macro_rules | `(tactic| walk_at "re") => `(tactic| repeat (walk_at "re1"))

theorem sc_Turning_all_bands : FnScope ["self"] ["self"] (defScope s_Turning_all_bands) := ⟨rfl, rfl, rfl, by decide +kernel, rfl, by decide +kernel, by decide +kernel⟩
theorem sc_Turning_front : FnScope ["self", "word", "steps", "kind", "one", "other"] ["self", "word", "steps"] (defScope s_Turning_front) := ⟨rfl, rfl, rfl, by decide +kernel, rfl, by decide +kernel, by decide +kernel⟩
theorem sc_Turning_drift : FnScope ["self", "word", "steps", "found", "one", "many"] ["self", "word", "steps"] (defScope s_Turning_drift) := ⟨rfl, rfl, rfl, by decide +kernel, rfl, by decide +kernel, by decide +kernel⟩
theorem sc_Turning_position : FnScope ["self", "place", "steps", "index", "begin", "word", "record", "more", "width", "size"] ["self", "place"] (defScope s_Turning_position) := ⟨rfl, rfl, rfl, by decide +kernel, rfl, by decide +kernel, by decide +kernel⟩
abbrev sp_Turning_all_bands (K : PySem.W.Frag) : Sp := P1 fun a H Q => ∃ (A : TA) (s : Rz.St), a = .ref A.t ∧ TOk K H A s ∧ ∀ p H' as, Sub H H' → H' p = some (.lst (rV as)) → A2 (p3 H') as (bands s.recs).reverse → Q (.ref p) H'
theorem A2.rev {α β : Type} {R : α → β → Prop} {xs : List α} {ys : List β} (h : A2 R xs ys) : A2 R xs.reverse ys.reverse := by
  refine ⟨by rw [List.length_reverse, List.length_reverse, h.len], fun i x y hx hy => ?_⟩
  have hi : i < xs.length := by have := (List.getElem?_eq_some_iff.mp hx).1; rwa [List.length_reverse] at this
  rw [List.getElem?_reverse hi] at hx
  rw [List.getElem?_reverse (by rw [← h.len]; exact hi)] at hy
  rw [← h.len] at hy
  exact h.at_ _ x y hx hy
theorem ok_Turning_all_bands (T : Tx K mg) : Gm P w K mg base 1 (cT K) "all_bands" ["self"] [] (sp_Turning_all_bands K) := by
  refine mkm T.F_Turning_all_bands T.c_Turning T.m_Turning_all_bands sc_Turning_all_bands P1.ar (fun _ _ _ _ _ _ us hl => match us, hl with | [_], _ => rfl) fun cdv A0 outer s0 H vs Q E hr h => ?_
  obtain ⟨_, rfl, A, s, rfl, ⟨R, hT, hD⟩, hq⟩ := h
  have cc := T.c_Turning
  have a1 := T.a_Turning_found
  obtain ⟨fs, ef, hf⟩ := hD.f
  have hF := hT.f
  rw [ef] at hF
  refine ⟨_, (pss_one (ps_ret (pe_revL (pe_fld (pv 0) rfl)))), ?_⟩
  walk_at "re"
  intro p np
  have e : (rV fs).reverse = rV fs.reverse := by unfold rV; rw [List.map_reverse]
  have s1 : Sub H (upd H p (.lst (rV fs.reverse))) := Sub.rfl'.new np
  refine hq p _ fs.reverse (by rw [e]; exact s1) (by rw [upd_same, e]) ?_
  rw [e]
  exact (hf.mono fun x y h => s1.at h).rev
/-! ### what stands in front, how far one is -/
abbrev sp_Turning_front (K : PySem.W.Frag) : Sp := P3 fun a b c H Q => ∃ (A : TA) (s : Rz.St) (i j : Nat) (t : Tr), a = .ref A.t ∧ b = .int (i : Int) ∧ c = .int (j : Int) ∧ TOk K H A s ∧ IsT s.nodes i t ∧ Mp s.nodes ∧ (∀ d ∈ s.nodes, d.size < 2 ^ 8900) ∧ 0 < j ∧ j < t.size ∧
  ∀ p H' (one many nxt : Nat), Sub H H' → H' p = some (.tup [.int (one : Int), .int (many : Int), .int (nxt : Int)]) → Front s.nodes t j one many nxt → Q (.ref p) H'
theorem Deep.nd {K : PySem.W.Frag} {H : Hp} {R : Raw} {s : Rz.St} (h : Deep K H R s) {i : Nat} {d : Nd} (e : s.nodes[i]? = some d) : ∃ a, R.n[i]? = some (.ref a) ∧ ndAt H a d := by
  obtain ⟨as, e1, h2⟩ := h.n
  obtain ⟨a, ha, r⟩ := h2.get e
  exact ⟨a, by rw [e1]; exact rV_get ha, r⟩
theorem ok_Turning_front (T : Tx K mg) : Gm P w K mg base 1 (cT K) "front" ["self", "word", "steps"] [] (sp_Turning_front K) := by
  refine mkm T.F_Turning_front T.c_Turning T.m_Turning_front sc_Turning_front P3.ar (fun _ _ _ _ _ _ us hl => match us, hl with | [_, _, _], _ => rfl) fun cdv A0 outer s0 H vs Q E hr h => ?_
  obtain ⟨_, _, _, rfl, A, s, i, j, t, rfl, rfl, rfl, ⟨R, hT, hD⟩, ht, hp, hz, j0, j1, hq⟩ := h
  have cc := T.c_Turning
  have a1 := T.a_Turning_nodes
  have a2 := T.a_Turning_sizes
  refine ⟨_, (pss_cons (ps_asg (pe_ix ix_list (pe_fld (pv 0) rfl) (pv 1) (fun _ _ => rfl)) (pg_tup rfl (pgs_cons (pg_name (i := 3) sc_Turning_front.nd rfl (by first | exact .inl rfl | exact .inr rfl)) (pgs_cons (pg_name (i := 4) sc_Turning_front.nd rfl (by first | exact .inl rfl | exact .inr rfl)) (pgs_cons (pg_name (i := 5) sc_Turning_front.nd rfl (by first | exact .inl rfl | exact .inr rfl)) pgs_nil)))))
  (pss_cons (ps_if (pt_cmpR op_eq (pv 3) (pe_gI T.i_TIMES) (nomark _)) (pss_one (ps_ret (pe_tup (pa_cons (pv 4) (pa_cons (pe_op op_fdivW (pv 2) (pe_ix ix_list (pe_fld (pv 0) rfl) (pv 4) (fun _ _ => rfl))) (pa_cons (pv 4) pa_nil)))))) pss_nil)
  (pss_one (ps_ret (pe_ifExp (pt_cmpR op_ge (pv 2) (pe_ix ix_list (pe_fld (pv 0) rfl) (pv 4) (fun _ _ => rfl)) (nomark _)) (pe_tup (pa_cons (pv 4) (pa_cons pe_int (pa_cons (pv 5) pa_nil)))) (pe_tup (pa_cons (pv 4) (pa_cons pe_int (pa_cons (pv 4) pa_nil))))))))), ?_⟩
  cases ht with
  | blk e =>
    have : j < 1 := j1
    omega
  | @two _ a b x y e ha hb =>
    obtain ⟨q, hq1, hn⟩ := hD.nd e
    have hq2 := atI_nat hq1
    have hn' : H q = some (.tup [.int ((1 : Nat) : Int), .int (a : Int), .int (b : Int)]) := hn
    have z1 := atI_nat (hD.sz ha.lt)
    rw [ha.sz] at z1
    obtain ⟨f1, f2⟩ := front_two ha hb j1
    walk_at "re"
    refine L2.ite2 (fun z => ?_) fun z => ?_
    · have z' : (x.size : Int) ≤ (j : Int) := of_decide_eq_true z
      walk_at "re"
      refine ⟨by show 3 ≤ sizeLine; decide, fun p np => ?_⟩
      exact hq p _ a 1 b (Sub.rfl'.new np) upd_same (f1 (by omega))
    · have z' : ¬ (x.size : Int) ≤ (j : Int) := fun c => z (decide_eq_true c)
      walk_at "re"
      refine ⟨by show 3 ≤ sizeLine; decide, fun p np => ?_⟩
      exact hq p _ a 0 a (Sub.rfl'.new np) upd_same (f2 (by omega))
  | @tim _ a m x e ha =>
    obtain ⟨q, hq1, hn⟩ := hD.nd e
    have hq2 := atI_nat hq1
    have hn' : H q = some (.tup [.int ((2 : Nat) : Int), .int (a : Int), .int (m : Int)]) := hn
    have z1 := atI_nat (hD.sz ha.lt)
    rw [ha.sz] at z1
    have xp := size_pos hp ha
    obtain ⟨kk, b1, b2, ea⟩ := ha.at
    have xlt : x.size < 2 ^ 8900 := hz _ (List.mem_of_getElem? ea)
    have cd : CDivW (j : Int) (x.size : Int) := wide_div (b := 8900) (by omega) (by rw [Int.natAbs_natCast]; exact xlt) (by decide) (by decide)
    walk_at "re"
    refine ⟨by show 3 ≤ sizeLine; decide, fun p np => ?_⟩
    exact hq p _ a (j / x.size) a (Sub.rfl'.new np) upd_same (front_tim hp ha (hp _ (List.mem_of_getElem? e) rfl).2 j1)
abbrev sp_Turning_drift (K : PySem.W.Frag) : Sp := P3 fun a b c H Q => ∃ (A : TA) (s : Rz.St) (i j : Nat) (t : Tr), a = .ref A.t ∧ b = .int (i : Int) ∧ c = .int (j : Int) ∧ TOk K H A s ∧ IsT s.nodes i t ∧ Mp s.nodes ∧ (∀ d ∈ s.nodes, d.size < 2 ^ 8900) ∧ j < t.size ∧
  ∀ H', Sub H H' → Q (.int (t.off j)) H'
theorem ok_Turning_drift (T : Tx K mg) : Gm P w K mg base 2 (cT K) "drift" ["self", "word", "steps"] [] (sp_Turning_drift K) := by
  refine mkm T.F_Turning_drift T.c_Turning T.m_Turning_drift sc_Turning_drift P3.ar (fun _ _ _ _ _ _ us hl => match us, hl with | [_, _, _], _ => rfl) fun cdv A0 outer s0 H vs Q E hr h => ?_
  obtain ⟨_, _, _, rfl, A, s, i, j, t, rfl, rfl, rfl, hT, ht, hp, hz, j1, hq⟩ := h
  have cc := T.c_Turning
  have a1 := T.a_Turning_drifts
  have a2 := T.a_Turning_sizes
  refine ⟨_, (pss_cons (ps_set (i := 3) sc_Turning_drift.nd rfl (by first | exact .inl rfl | exact .inr rfl) pe_int)
  (pss_cons (ps_while PassesOwn.never (pt_cmpR op_gt (pv 2) pe_int (nomark _)) (pss_cons (ps_asg (cm (ok_Turning_front T) hr (pv 0) (pa_cons (pv 1) (pa_cons (pv 2) pa_nil))) (pg_tup rfl (pgs_cons (pg_name (i := 4) sc_Turning_drift.nd rfl (by first | exact .inl rfl | exact .inr rfl)) (pgs_cons (pg_name (i := 5) sc_Turning_drift.nd rfl (by first | exact .inl rfl | exact .inr rfl)) (pgs_cons (pg_name (i := 1) sc_Turning_drift.nd rfl (by first | exact .inl rfl | exact .inr rfl)) pgs_nil)))))
  (pss_cons (ps_aug (i := 3) sc_Turning_drift.nd rfl (by first | exact .inl rfl | exact .inr rfl) (pe_op op_mul (pv 5) (pe_ix ix_list (pe_fld (pv 0) rfl) (pv 4) (fun _ _ => rfl))) ip_add)
  (pss_one (ps_aug (i := 2) sc_Turning_drift.nd rfl (by first | exact .inl rfl | exact .inr rfl) (pe_op op_mul (pv 5) (pe_ix ix_list (pe_fld (pv 0) rfl) (pv 4) (fun _ _ => rfl))) ip_sub)))))
  (pss_one (ps_ret (pv 3))))), ?_⟩
  refine ⟨fun m σ H' => Bx (∃ (i' j' : Nat) (t' : Tr) (f : Int) (o1 o2 : Option V), σ = [some (.ref A.t), some (.int (i' : Int)), some (.int (j' : Int)), some (.int f), o1, o2] ∧ m = sizeOf t' ∧ IsT s.nodes i' t' ∧ j' < t'.size ∧ f + t'.off j' = t.off j ∧ Sub H H'),
    ⟨sizeOf t, i, j, t, 0, _, _, rfl, rfl, ht, j1, by omega, Sub.rfl'⟩, fun m σ H1 hw => ?_⟩
  obtain ⟨i', j', t', f, o1, o2, rfl, rfl, ht', hj', hf, s1⟩ := hw.o
  refine ⟨_, rfl, _, _, rfl, rfl, _, rfl, ?_⟩
  refine L2.ite2 (fun z => ?_) fun z => ?_
  · have z' : (0 : Int) < (j' : Int) := of_decide_eq_true z
    obtain ⟨R, hTr, hDr⟩ := (hT.sub s1).ex
    refine ⟨fun σ' H' => Bx (∃ (i2 j2 : Nat) (t2 : Tr) (f : Int) (o1 o2 : Option V), σ' = [some (.ref A.t), some (.int (i2 : Int)), some (.int (j2 : Int)), some (.int f), o1, o2] ∧ sizeOf t2 < sizeOf t' ∧ IsT s.nodes i2 t2 ∧ j2 < t2.size ∧ f + t2.off j2 = t.off j ∧ Sub H H'),
      fun σ' H' h => by
        obtain ⟨i2, j2, t2, f2, o3, o4, e1, e2, e3⟩ := h.o
        exact ⟨sizeOf t2, e2, ⟨i2, j2, t2, f2, o3, o4, e1, rfl, e3⟩⟩, ?_⟩
    refine ⟨_, rfl, A.t, _, _, rfl, hTr.ins, TA.miss, _, rfl, _, rfl, _, _, _, rfl, A, s, i', j', t', rfl, rfl, rfl, ⟨R, hTr, hDr⟩, ht', hp, hz, by omega, hj', fun p H2 one many nxt s2 hp2 hfr => ?_⟩
    obtain ⟨a, c, ha, hc, e1, e2, e3, e4, e5⟩ := hfr.ex
    have hT2 := hTr.sub s2
    have hD2 := hDr.sub s2
    have d1 := atI_nat (hD2.dr ha.lt)
    have d2 := atI_nat (hD2.sz ha.lt)
    rw [ha.dr] at d1
    rw [ha.sz] at d2
    refine ⟨p, _, rfl, SqT.of hp2, rfl, ?_⟩
    have c1 : CMul (many : Int) a.drift := cmulL (by omega) (by omega)
    have c2 : CMul (many : Int) (a.size : Int) := cmulL (by omega) (by omega)
    walk_at "re"
    have ej : (j' : Int) - (many : Int) * (a.size : Int) = ((j' - many * a.size : Nat) : Int) := by
      rw [Int.natCast_sub e2, Int.natCast_mul]
    refine ⟨nxt, j' - many * a.size, c, f + (many : Int) * a.drift, some (.int (one : Int)), some (.int (many : Int)), ?_, e4, hc, e3, by omega, s1.tr s2⟩
    dsimp only
    rw [ej]; rfl
  · have j0 : j' = 0 := by
      have : ¬ (0 : Int) < (j' : Int) := fun c => z (decide_eq_true c)
      omega
    subst j0
    rw [off_zero hp ht'] at hf
    refine ⟨_, rfl, ?_⟩
    refine cint ?_ (hq H1 s1)
    omega
abbrev sp_Turning_position (K : PySem.W.Frag) : Sp := P2 fun a b H Q => ∃ (A : TA) (s : Rz.St) (n p : Int) (c : Nat) (b0 w0 : Int) (i : Nat) (q : Int) (k : Nat), a = .ref A.t ∧ b = .int p ∧ TOk K H A s ∧ Fits n s.recs ∧ 0 ≤ p ∧ p < n ∧ posAll s.recs p = .done c b0 w0 i q k ∧ (bands s.recs)[c]? = some (b0, w0, i) ∧ i < s.nodes.length ∧ 0 < s.sz i ∧
  ∀ r H', Sub H H' → H' r = some (.tup [.int (((bands s.recs).length : Int) - 1 - (c : Int)), .int (q - b0), .int (((s.sz i : Int) - (k : Int)) % (s.sz i : Int))]) → Q (.ref r) H'
theorem ok_Turning_position (T : Tx K mg) : Gm P w K mg base 2 (cT K) "position" ["self", "place"] [] (sp_Turning_position K) := by
  refine mkm T.F_Turning_position T.c_Turning T.m_Turning_position sc_Turning_position P2.ar (fun _ _ _ _ _ _ us hl => match us, hl with | [_, _], _ => rfl) fun cdv A0 outer s0 H vs Q E hr h => ?_
  obtain ⟨_, _, rfl, A, s, n, p, c, b0, w0, i, q, k, rfl, rfl, hTk, hfit, p0, p1, hpos, hbd, hi, hz, hq⟩ := h
  obtain ⟨R, hT, hD⟩ := hTk.ex
  have cc := T.c_Turning
  have a1 := T.a_Turning_found
  have a2 := T.a_Turning_records
  have a3 := T.a_Turning_sizes
  obtain ⟨fs, ef, hf⟩ := hD.f
  have hF := hT.f
  rw [ef] at hF
  refine ⟨_, (pss_cons (ps_asg (pe_tup (pa_cons pe_int (pa_cons (pe_callB call_len_seq rfl T.n_len (by decide +kernel) (pa_cons (pe_fld (pv 0) rfl) pa_nil)) (pa_cons pe_int (pa_cons pe_int pa_nil))))) (pg_tup rfl (pgs_cons (pg_name (i := 2) sc_Turning_position.nd rfl (by first | exact .inl rfl | exact .inr rfl)) (pgs_cons (pg_name (i := 3) sc_Turning_position.nd rfl (by first | exact .inl rfl | exact .inr rfl)) (pgs_cons (pg_name (i := 4) sc_Turning_position.nd rfl (by first | exact .inl rfl | exact .inr rfl)) (pgs_cons (pg_name (i := 5) sc_Turning_position.nd rfl (by first | exact .inl rfl | exact .inr rfl)) pgs_nil))))))
  (pss_cons (ps_for PassesOwn.never rfl (pi_list (pe_fld (pv 0) rfl)) (pg_name (i := 6) sc_Turning_position.nd rfl (by first | exact .inl rfl | exact .inr rfl)) (pss_one (ps_if (pt_cmpR op_notN (pv 6) pe_non (nomark _)) (pss_cons (ps_asg (cm (ok_Stage_entered T) hr (pv 6) (pa_cons (pv 1) pa_nil)) (pg_tup rfl (pgs_cons (pg_name (i := 1) sc_Turning_position.nd rfl (by first | exact .inl rfl | exact .inr rfl)) (pgs_cons (pg_name (i := 7) sc_Turning_position.nd rfl (by first | exact .inl rfl | exact .inr rfl)) pgs_nil))))
  (pss_one (ps_aug (i := 2) sc_Turning_position.nd rfl (by first | exact .inl rfl | exact .inr rfl) (pv 7) ip_add))) (pss_cons (ps_aug (i := 3) sc_Turning_position.nd rfl (by first | exact .inl rfl | exact .inr rfl) pe_int ip_sub)
  (pss_cons (ps_asg (pe_ix ix_list (cm0 (ok_Turning_all_bands T) hr (pv 0)) (pv 3) (fun _ _ => rfl)) (pg_tup rfl (pgs_cons (pg_name (i := 4) sc_Turning_position.nd rfl (by first | exact .inl rfl | exact .inr rfl)) (pgs_cons (pg_name (i := 8) sc_Turning_position.nd rfl (by first | exact .inl rfl | exact .inr rfl)) (pgs_cons (pg_name (i := 5) sc_Turning_position.nd rfl (by first | exact .inl rfl | exact .inr rfl)) pgs_nil)))))
  (pss_one (ps_if (pt_cmpR op_ge (pv 1) (pv 4) (nomark _)) (pss_one ps_break) pss_nil)))))))
  (pss_cons (ps_set (i := 9) sc_Turning_position.nd rfl (by first | exact .inl rfl | exact .inr rfl) (pe_ix ix_list (pe_fld (pv 0) rfl) (pv 5) (fun _ _ => rfl)))
  (pss_one (ps_ret (pe_tup (pa_cons (pv 3) (pa_cons (pe_op op_sub (pv 1) (pv 4)) (pa_cons (pe_op op_mod (pe_op op_sub (pv 9) (pv 2)) (pv 9)) pa_nil))))))))), ?_⟩
  walk_at "re"
  refine ⟨by show 4 ≤ sizeLine; decide, fun e nE => ?_⟩
  refine ⟨e, _, rfl, SqT.of upd_same, rfl, ?_⟩
  have s1 : Sub H (upd H e (.tup [.int 0, .int ((rV fs).length : Int), .int 0, .int 0])) := Sub.rfl'.new nE
  generalize upd H e (.tup [.int 0, .int ((rV fs).length : Int), .int 0, .int 0]) = H1 at s1
  have hT1 := hT.sub s1
  have lF : (rV fs).length = (bands s.recs).length := by rw [rV_len, hf.len]
  have lR := hD.r.len
  walk_at "re"
  refine ⟨⟨_, SqL.of hT1.r⟩, for_it (walk_list (xs := R.r)) (fun ix σ H' => Bx (Sub H H' ∧ ∃ (q1 : Int) (k1 c1 : Nat) (o1 o2 o3 o4 o5 : Option V), σ = [some (.ref A.t), some (.int q1), some (.int (k1 : Int)), some (.int (((bands s.recs).length : Int) - (c1 : Int))), o1, o2, o3, o4, o5, none] ∧
    posAll (s.recs.take ix) p = .mid q1 k1 c1))
    ⟨s1, p, 0, 0, _, _, _, _, _, by rw [lF]; rfl, rfl⟩ (fun ix σ H2 _ h => SqL.of (hT.sub h.o.1).r) (fun ix v σ H2 H3 hix h hy => ?_) fun σ H2 h => ?_⟩
  · obtain ⟨s2, q1, k1, c1, o1, o2, o3, o4, o5, rfl, hmid⟩ := h.o
    obtain ⟨rfl, hv⟩ := hy
    rw [lR] at hix
    obtain ⟨rc, hrc, hrat⟩ := hD.r.get' hv
    have etk : s.recs.take (ix + 1) = s.recs.take ix ++ [rc] := by rw [List.take_add_one, hrc]; rfl
    have hT3 := hT.sub s2
    have hD3 := hD.sub s2
    cases rc with
    | st g =>
      obtain ⟨ga, rfl, hg⟩ := hrat
      have hg3 : StgAt K H3 ga g := hg.imm (.of s2)
      have hfg := hfit p p0 p1 ix g q1 k1 c1 hrc hmid
      obtain ⟨dxg, ppg, psg, hgi, _⟩ := id hg3
      refine ⟨_, rfl, rfl, _, rfl, ifT (by rw [decide_eq_false (show ¬ V.ref ga = V.non from fun h => nomatch h)]; rfl) ?_⟩
      refine ⟨_, rfl, ga, _, _, rfl, hgi, rfl, _, rfl, _, _, rfl, ga, g, q1, rfl, rfl, hg3, hfg, fun r H4 s4 hr4 => ?_⟩
      refine ⟨r, _, rfl, SqT.of hr4, rfl, ?_⟩
      walk_at "re"
      refine ⟨s2.tr s4, (g.entered q1).1, k1 + (g.entered q1).2, c1, o1, o2, some (.ref ga), some (.int ((g.entered q1).2 : Int)), o5, ?_, ?_⟩
      · rw [Int.natCast_add]; rfl
      · rw [etk, posAll_snoc, hmid]; rfl
    | bd b w2 j =>
      have hvn : v = .non := hrat
      subst hvn
      have hcnt := posAll_cnt _ p 0 0 q1 k1 c1 hmid
      have hbn : (bands s.recs)[c1]? = some (b, w2, j) := by
        have e1 : s.recs = s.recs.take ix ++ (.bd b w2 j :: s.recs.drop (ix + 1)) := by
          have h1 := List.getElem?_eq_some_iff.mp hrc
          obtain ⟨h2, h3⟩ := h1
          rw [← h3, ← List.drop_eq_getElem_cons h2, List.take_append_drop]
        have e2 : bands s.recs = bands (s.recs.take ix) ++ ((b, w2, j) :: bands (s.recs.drop (ix + 1))) := by
          conv => lhs; rw [e1]
          unfold bands
          rw [List.filterMap_append]; rfl
        rw [e2, List.getElem?_append_right (by omega)]
        have : c1 - (bands (s.recs.take ix)).length = 0 := by omega
        rw [this]; rfl
      have hc1 : c1 < (bands s.recs).length := (List.getElem?_eq_some_iff.mp hbn).1
      refine ⟨_, rfl, rfl, _, rfl, ifF (by decide) ?_⟩
      have hTk3 := hTk.sub s2
      walk_at "re"
      intro r H4 as s4 hr4 hA
      have ec : (((bands s.recs).length : Int) - (c1 : Int)) - 1 = (((bands s.recs).length - 1 - c1 : Nat) : Int) := by omega
      obtain ⟨aa, haa, hp3⟩ := hA.get (i := (bands s.recs).length - 1 - c1) (y := (b, w2, j)) (by
        rw [List.getElem?_reverse (by omega)]
        have : (bands s.recs).length - 1 - ((bands s.recs).length - 1 - c1) = c1 := by omega
        rw [this]; exact hbn)
      have hix2 : atI (rV as) ((((bands s.recs).length : Int) - (c1 : Int)) - 1) = some (.ref aa) := by rw [ec]; exact atI_nat (rV_get haa)
      refine ⟨_, rfl, r, _, _, _, rfl, rfl, SqL.of hr4, hix2, aa, _, rfl, SqT.of hp3, rfl, ?_⟩
      have s5 : Sub H H4 := s2.tr s4
      have hT4 := hT.sub s5
      have hD4 := hD.sub s5
      walk_at "re"
      refine L2.ite2 (fun z => ?_) fun z => ?_
      · have z' : b ≤ q1 := of_decide_eq_true z
        have hdone : posAll (s.recs.take (ix + 1)) p = .done c1 b w2 j q1 k1 := by
          rw [etk, posAll_snoc, hmid]
          show (if b ≤ q1 then _ else _) = _
          rw [if_pos z']
        have hall : posAll s.recs p = .done c1 b w2 j q1 k1 := by
          rw [posAll_take (i := ix + 1), hdone, done_stays]
        rw [hpos] at hall
        cases hall
        have zi := atI_nat (hD4.sz hi)
        have zp : (0 : Int) < (s.sz i : Int) := by omega
        walk_at "re"
        refine ⟨by show 3 ≤ sizeLine; decide, fun r2 nr => ?_⟩
        refine hq r2 _ (s5.new nr) ?_
        rw [upd_same]
        have e3 : ((bands s.recs).length : Int) - 1 - (c : Int) = ((bands s.recs).length : Int) - (c : Int) - 1 := by omega
        rw [e3]
      · have z' : ¬ b ≤ q1 := fun c => z (decide_eq_true c)
        refine ⟨s5, q1, k1, c1 + 1, some (.int b), some (.int (j : Int)), some .non, o4, some (.int w2), ?_, ?_⟩
        · have e4 : ((bands s.recs).length : Int) - ((c1 + 1 : Nat) : Int) = ((bands s.recs).length : Int) - (c1 : Int) - 1 := by omega
          rw [e4]; rfl
        · rw [etk, posAll_snoc, hmid]
          show (if b ≤ q1 then _ else _) = _
          rw [if_neg z']
  · obtain ⟨s2, q1, k1, c1, o1, o2, o3, o4, o5, rfl, hmid⟩ := h.o
    rw [lR, List.take_length, hpos] at hmid
    cases hmid
theorem sc_place_in : FnScope ["turning", "place", "steps", "index", "offset", "step", "begin", "width", "word"] ["turning", "place", "steps"] (defScope s_place_in) := ⟨rfl, rfl, rfl, by decide +kernel, rfl, by decide +kernel, by decide +kernel⟩
/-- place_in, of a finished turning -/
abbrev sp_place_in (K : PySem.W.Frag) : Sp := P3 fun a b c H Q => ∃ (A : TA) (s : Rz.St) (ls : List Int) (od : List Nat) (p st : Int), a = .ref A.t ∧ b = .int p ∧ c = .int st ∧ TOk K H A s ∧ Ex ls od ∧ Done ls od s ∧ 0 ≤ p ∧ p < exN ls ∧ 0 ≤ st ∧
  ∀ H', Sub H H' → Q (.int (it (mv ls od) st.toNat p)) H'
theorem Done.small {ls od s} (d : Done ls od s) : ∀ x ∈ s.nodes, x.size < 2 ^ 8900 := fun x hx => by
  have h1 := d.f.b.sz x hx
  have h2 : 2 ^ (41 * s.recs.length) ≤ 2 ^ 8200 := Nat.pow_le_pow_right (by omega) (by have := d.rl; omega)
  have h3 : (2 : Nat) ^ 8200 < 2 ^ 8900 := Nat.pow_lt_pow_right (by omega) (by omega)
  omega
theorem ok_place_in (T : Tx K mg) : Gd P w K mg base 3 "place_in" ["turning", "place", "steps"] (sp_place_in K) := by
  refine mkd T.F_place_in T.g_place_in sc_place_in P3.ar (fun _ _ _ _ _ _ us hl => match us, hl with | [_, _, _], _ => rfl) fun cdv A0 outer s0 H vs Q E hr h => ?_
  obtain ⟨_, _, _, rfl, A, s, ls, od, p, st, rfl, rfl, rfl, hTk, ex, hd, p0, p1, hst, hq⟩ := h
  obtain ⟨R, hT, hD⟩ := hTk.ex
  have cc := T.c_Turning
  have a3 := T.a_Turning_sizes
  obtain ⟨c, b0, w0, i, q, k, t, sp⟩ := spot_of hd.f.g hd.up p0 p1
  have go := sp.go (fun p a b => mv_range ex a b) (fun p q a b c d e => mv_inj ex a b c d e) p0 p1 hst
  have hil : i < s.nodes.length := sp.isT.lt
  have hzs : s.sz i = t.size := sp.isT.sz
  have hzp : 0 < s.sz i := by rw [hzs]; exact sp.wd.pos
  refine ⟨_, (pss_cons (ps_asg (cm (ok_Turning_position T) hr (pv 0) (pa_cons (pv 1) pa_nil)) (pg_tup rfl (pgs_cons (pg_name (i := 3) sc_place_in.nd rfl (by first | exact .inl rfl | exact .inr rfl)) (pgs_cons (pg_name (i := 4) sc_place_in.nd rfl (by first | exact .inl rfl | exact .inr rfl)) (pgs_cons (pg_name (i := 5) sc_place_in.nd rfl (by first | exact .inl rfl | exact .inr rfl)) pgs_nil)))))
  (pss_cons (ps_asg (pe_ix ix_list (cm0 (ok_Turning_all_bands T) hr (pv 0)) (pv 3) (fun _ _ => rfl)) (pg_tup rfl (pgs_cons (pg_name (i := 6) sc_place_in.nd rfl (by first | exact .inl rfl | exact .inr rfl)) (pgs_cons (pg_name (i := 7) sc_place_in.nd rfl (by first | exact .inl rfl | exact .inr rfl)) (pgs_cons (pg_name (i := 8) sc_place_in.nd rfl (by first | exact .inl rfl | exact .inr rfl)) pgs_nil)))))
  (pss_one (ps_ret (pe_op op_add (pe_op op_add (pv 6) (pv 4)) (cm (ok_Turning_drift T) hr (pv 0) (pa_cons (pv 8) (pa_cons (pe_op op_mod (pe_op op_add (pv 5) (pv 2)) (pe_ix ix_list (pe_fld (pv 0) rfl) (pv 8) (fun _ _ => rfl))) pa_nil)))))))), ?_⟩
  refine ⟨_, rfl, A.t, _, _, rfl, hT.ins, TA.miss, _, rfl, _, _, rfl, A, s, exN ls, p, c, b0, w0, i, q, k, rfl, rfl, hTk, hd.fits, p0, p1, sp.pos, sp.bd, hil, hzp, fun r H1 s1 hr1 => ?_⟩
  refine ⟨r, _, rfl, SqT.of hr1, rfl, ?_⟩
  have hT1 := hT.sub s1
  have hD1 := hD.sub s1
  have hc1 : c < (bands s.recs).length := (List.getElem?_eq_some_iff.mp sp.bd).1
  have hTk1 := hTk.sub s1
  walk_at "re"
  intro r2 H2 as s2 hr2 hA
  have ec : ((bands s.recs).length : Int) - 1 - (c : Int) = (((bands s.recs).length - 1 - c : Nat) : Int) := by omega
  obtain ⟨aa, haa, hp3⟩ := hA.get (i := (bands s.recs).length - 1 - c) (y := (b0, w0, i)) (by
    rw [List.getElem?_reverse (by omega)]
    have : (bands s.recs).length - 1 - ((bands s.recs).length - 1 - c) = c := by omega
    rw [this]; exact sp.bd)
  have hix2 : atI (rV as) (((bands s.recs).length : Int) - 1 - (c : Int)) = some (.ref aa) := by rw [ec]; exact atI_nat (rV_get haa)
  refine ⟨_, rfl, r2, _, _, _, rfl, rfl, SqL.of hr2, hix2, aa, _, rfl, SqT.of hp3, rfl, ?_⟩
  have s3 : Sub H H2 := s1.tr s2
  have hT2 := hT.sub s3
  have hD2 := hD.sub s3
  have zi := atI_nat (hD2.sz hil)
  have zp : (0 : Int) < (s.sz i : Int) := by omega
  have hTk2 : TOk K H2 A s := hTk.sub s3
  obtain ⟨jj, hjj⟩ : ∃ jj : Nat, (((t.size : Int) - (k : Int)) % (t.size : Int) + st) % (t.size : Int) = (jj : Int) := ⟨_, (Int.toNat_of_nonneg go.1).symm⟩
  rw [hjj] at go
  have ej : (((s.sz i : Int) - (k : Int)) % (s.sz i : Int) + st) % (s.sz i : Int) = (jj : Int) := by rw [hzs]; exact hjj
  refine ⟨_, _, rfl, _, _, rfl, _, _, rfl, rfl, ?_⟩
  refine ⟨_, rfl, _, rfl, _, _, rfl, rfl, _, rfl, A.t, _, _, rfl, hT2.ins, TA.miss, _, rfl, _, rfl, _, rfl, _, _, rfl, rfl, _, rfl, _, _, _, _, _, rfl, hT2.ins, cc, a3, rfl, _, rfl, _, _, _, _, rfl, rfl, SqL.of hT2.z, zi, _, _, rfl, rfl, zp, ?_⟩
  refine ⟨_, _, _, rfl, A, s, i, jj, t, rfl, rfl, congrArg V.int ej, hTk2, sp.isT, hd.mp, hd.small, by omega, fun H3 s4 => ?_⟩
  refine ⟨_, _, rfl, rfl, ?_⟩
  refine cint ?_ (hq H3 (s3.tr s4))
  have h2 := go.2.2
  rw [Int.toNat_natCast] at h2
  show b0 + (q - b0) + t.off jj = it (fun p => mv ls od p) st.toNat p
  omega
end
end Bt
end
section
set_option Elab.async false
set_option linter.all false
set_option maxRecDepth 100000
set_option maxHeartbeats 2000000
set_option autoImplicit false
namespace Bt
open PySem PySem.Spec PyProof.Rows L2
/-! ### properties -/
theorem propB_ok {K : PySem.W.Frag} {C : Addr} {m : PySem.Str} (h : propB K C m = true) : PropOf K C m (He.ma K C m) (pgA K C m) := by
  obtain ⟨h1, h⟩ := He.ba h
  obtain ⟨h2, h⟩ := He.ba h
  obtain ⟨h3, h⟩ := He.ba h
  refine ⟨He.eqO_ok h1, He.eqO_ok h2, of_decide_eq_true h3, ?_⟩
  unfold pgA
  split at h
  · rename_i f r e
    exact ⟨r, by rw [e]⟩
  · cases h
section
variable (P : Program) (w : World) (K : PySem.W.Frag) (mg : PySem.Str → Option Value) (base : Heap)
structure Gp (k : Nat) (C : Addr) (m : PySem.Str) (sp : Sp) : Prop where
  ex : ∃ p f fd, FnOk P w K mg base CX0 k f fd ["self"] sp ∧ Cls K C ∧ PropOf K C m p f ∧ Binds K fd ["self"] []
/-- a method with keyword-only names ks behind n written values -/
structure Gk (k : Nat) (C : Addr) (m : PySem.Str) (n : Nat) (ps ks : List PySem.Str) (sp : Sp) : Prop where
  ex : ∃ f fd g gV, FnOk P w K mg base CX0 k f fd ps sp ∧ Cls K C ∧ Meth K C m f ∧ KBn K fd ps n ks g gV ∧ gV = fun vs zs => vs ++ zs
end
section
variable {P : Program} {w : World} {K : PySem.W.Frag} {mg : PySem.Str → Option Value} {base : Heap}
theorem mkp {C : Addr} {x qual : PySem.Str} {pa : Arguments} {bd : List Stmt} {sc : Scope} {p f : Addr} {N : List PySem.Str} {k : Nat} {sp : Sp}
    (F : ∃ fd, FunD K x qual pa bd sc [] [] f fd) (c : Cls K C) (M : PropOf K C x p f) (S : FnScope N ["self"] sc) (a : Ar 1 sp) (h : Bn x qual pa bd sc ["self"]) (b : Body P w K mg base N qual bd sc f k sp) : Gp P w K mg base (k + 1) C x sp := by
  obtain ⟨fd, F⟩ := F
  exact ⟨p, f, fd, fo F S a b, c, M, F.bindsN h⟩
/-- defaults for keyword-only names, none of them written -/
theorem mkm0 {n : Nat} {C : Addr} {x qual : PySem.Str} {pa : Arguments} {bd : List Stmt} {sc : Scope} {f : Addr} {N ps : List PySem.Str} {k : Nat} {sp : Sp} {kws : List (PySem.Str × V)}
    (F : ∃ fd, FunD K x qual pa bd sc [] kws f fd) (c : Cls K C) (M : Meth K C x f) (S : FnScope N ps sc) (a : Ar n sp) (m : Nat) (hk : kws ≠ []) (hm : m + kws.length = ps.length)
    (h : ∀ (D : Addr) (doc pm : Value) (an : Option Addr) (cdv ct : Value) (us ks : List Value), us.length = m → ks.length = kws.length →
      KwChain D ((kws.map (·.1)).zip ks) (bindArgs (PySem.W.fnOf x qual pa bd sc .none (.ref D) doc pm an cdv ct) ⟨us, []⟩) (ps.zip (us ++ ks)))
    (b : Body P w K mg base N qual bd sc f k sp) (hn : ps.length = n := by rfl) : Gm P w K mg base (k + 1) C x ps (kws.map (·.2)) sp := by
  obtain ⟨fd, F⟩ := F
  obtain ⟨ds, v, bd⟩ := F.binds0 m hk hm h
  exact ⟨f, fd, ds, fo F S a b hn, c, M, bd, v⟩
/-- .. all of them written -/
theorem mkk {n : Nat} {C : Addr} {x qual : PySem.Str} {pa : Arguments} {bd : List Stmt} {sc : Scope} {f : Addr} {N ps ks : List PySem.Str} {k : Nat} {sp : Sp} {kws : List (PySem.Str × V)}
    (F : ∃ fd, FunD K x qual pa bd sc [] kws f fd) (c : Cls K C) (M : Meth K C x f) (S : FnScope N ps sc) (a : Ar n sp) (m : Nat)
    (h : ∀ (kV doc pm : Value) (an : Option Addr) (cdv ct : Value) (us ws : List Value), us.length = m → ws.length = ks.length →
      bindArgs (PySem.W.fnOf x qual pa bd sc .none kV doc pm an cdv ct) ⟨us, ks.zip ws⟩ = pure (ps.zip (us ++ ws)))
    (b : Body P w K mg base N qual bd sc f k sp) (hn : ps.length = n := by rfl) : Gk P w K mg base (k + 1) C x m ps ks sp := by
  obtain ⟨fd, F⟩ := F
  have fok := fo F S a b hn
  obtain ⟨oc, od, dV, kV, doc, pm, an, cdv, ct, osl, e, lk, hcd, hD, hK⟩ := F.ex
  refine ⟨f, fd, fun us ws => us ++ ws, fun vs zs => vs ++ zs, fok, c, M, ⟨fun s us ws X l1 l2 => ?_, fun r1 r2 => r1.append r2⟩, rfl⟩
  rcases hD with ⟨_, q⟩ | ⟨q, _⟩
  · subst e; subst q
    exact BindsTo.of_eq (h kV doc pm an cdv ct us ws l1 l2)
  · exact absurd rfl q
end
section
variable {X : Cx} {j k n : Nat} {x m : PySem.Str} {C : Addr} {ps ks : List PySem.Str} {dvs : List V} {sp : Sp} {e o : Expr} {es : List Expr} {kws : List Keyword} {t tk : L2.TA} {ta : TE} {p pos apos : Pos}
theorem cp (G : Gp X.prog X.w X.K X.mg X.base j C m sp) (hr : Room k X.A) (he : PE X o ta) (hjk : j + 1 ≤ k := by decide) (hab : attributeBase o m X.env (eval o X.env) = eval o X.env := by rfl) :
    PE X (.Attribute o m pos) (tProp C sp [] E0 ta) := by
  obtain ⟨p, f, fd, F, c, M, b⟩ := G.ex
  exact pe_prop he c M F (hr.mono hjk) b .nil pass0 hab
def tMethKw (C : Addr) (m : PySem.Str) (l : Nat) (sp : Sp) (ta : TE) (tk : L2.TA) : TE := fun σ H Q => ta σ H fun x H1 => ∃ a dx fs, x = .ref a ∧ H1 a = some (.ins C dx fs) ∧ fs.lookup m = none ∧
  tk σ H1 fun zs H3 => zs.length = l ∧ sp (x :: zs) H3 Q E0
/-- o.m(k = v) -/
theorem cmK {pl : Sem Bool} (G : Gk X.prog X.w X.K X.mg X.base j C m 1 ps ks sp) (hr : Room k X.A) (he : PE X o ta) (hkw : PK X kws tk) (hjk : j ≤ k := by decide)
    (hall : (backToKw pos (keywordEach kws X.env)).all (·.1.isSome) = true := by rfl) (hks : (backToKw pos (keywordEach kws X.env)).filterMap (·.1) = ks := by rfl)
    (hpl : ((backTo pos (starEach [] X.env)).any (·.1) || (backToKw pos (keywordEach kws X.env)).any (·.1.isNone)) = false := by rfl)
    (ht : eval (.Call (.Attribute o m apos) [] kws pos) X.env = (do
      let ov ← eval o X.env
      standAt apos.atName
      let (f, first) ← holding [ov] (getMethod ov m pl)
      callWith pos f first (backTo pos (starEach [] X.env)) (backToKw pos (keywordEach kws X.env))) := by rfl) :
    PE X (.Call (.Attribute o m apos) [] kws pos) (tMethKw C m ks.length sp ta tk) := by
  obtain ⟨f, fd, g, gV, F, c, M, b, eg⟩ := G.ex
  subst eg
  refine ⟨fun pins s σ H Q I h => ?_⟩
  refine PySem.W.methodCall_KW (pl := pl) (thn (he.run pins s σ H _ I h) fun u s1 ⟨x, H1, I1, rx, a, dx, fs, ex, ea, l, q⟩ => ?_) ht
  subst ex
  obtain rfl : u = Value.ref a := rx
  refine getmeth_ok I1 ea c M l ?_
  refine PySem.W.callWith_KW0 (first := [.ref a]) (h₀ := X.base) I.ok.mod.kin M.kp hall (thn (hkw.run pos pins s1 σ H1 _ I1 q) fun ws s2 ⟨zs, H2, I2, rz, l2, q2⟩ => ⟨I2.kIn, ?_⟩) hpl
  rw [hks]
  exact run_fnN (us := [.ref a]) (vs := [.ref a]) F (hr.mono hjk) b pass0 I2 (.cons rfl .nil) rz rfl l2 q2
/-- the i-th slot holds the class at C: it is made -/
def tMakeV (i : Nat) (C : Addr) (sp : Sp) (t : L2.TA) : TE := fun σ H Q => σ[i]? = some (some (.ref C)) ∧ t σ H fun vs H1 => ∀ x dx, H1 x = none → H1 dx = none → dx ≠ x → sp (.ref x :: vs) (upd (upd H1 dx (.own x)) x (.ins C dx [])) (fun v H2 => v = .non ∧ Q (.ref x) H2) E0
theorem pe_makeV {i : Nat} {y : PySem.Str} (G : Gi X.prog X.w X.K X.mg X.base j y C ps sp) (hr : Room k X.A) (ha : PA X (e :: es) t) (hjk : j + 1 ≤ k := by decide) (hN : X.N[i]? = some x := by rfl) (hv : Vis X.env.scope x := by first | exact .inl rfl | exact .inr rfl)
    (hdb : (x == ("__debug__" : PySem.Str)) = false := by decide) (hcd : (x == ("__classdict__" : PySem.Str)) = false := by decide)
    (he : starEach (e :: es) X.env = (false, eval e X.env) :: starEach es X.env := by rfl) (hpl : (backTo pos (starEach es X.env)).any (·.1) = false := by rfl) :
    PE X (.Call (.Name x p) (e :: es) [] pos) (tMakeV i C sp t) := by
  obtain ⟨f, fd, F, M, gm, b⟩ := G.ex
  refine ⟨fun pins s σ H Q I h => ?_⟩
  obtain ⟨hs, ht⟩ := h
  refine wpAny_Call_Name_kw (thn ((pe_var (pos := p) hN hv hdb hcd).run pins s σ H (fun v H1 => v = .ref C ∧ H1 = H) I ⟨.ref C, hs, rfl, rfl⟩) fun u s1 ⟨v, H1, I1, r1, q1⟩ => ?_)
  obtain ⟨rfl, rfl⟩ := q1
  cases r1
  refine PySem.W.callWith_K (h₀ := X.base) I.ok.mod.kin M.kp (thn (ha.run pos pins s1 σ _ _ I1 ht) fun us s2 ⟨vs, H2, I2, r, q⟩ => ⟨I2.kIn, ?_⟩) he hpl
  exact run_make M F (hr.mono hjk) b .nil pass0 I2 r fun x dx a1 a2 a3 => by rw [List.append_nil]; exact q x dx a1 a2 a3
end
end Bt
end
section
set_option Elab.async false
set_option linter.all false
set_option maxRecDepth 100000
set_option maxHeartbeats 2000000
set_option autoImplicit false
namespace Bt
open PySem PySem.Spec PyProof.Rows L2
/-! ### a, *b = a tuple -/
section
variable {X : Cx} {pins : List (Addr × Obj)} {σ : L2.St} {H : Hp} {s : Shared}
theorem star_un {l : Addr} {x : V} {xs : List V} {E : Value → Shared → Prop} {Q : List Value → Shared → Prop} (I : Inv X pins σ H s) (hh : X.A.handled = none) (h : SqT X.K H l (x :: xs)) (hz : xs.length ≤ 1000)
    (hQ : ∀ (u : Value) (s' : Shared) (D : Addr), H D = none → RelV x u → Inv X pins σ (upd H D (.lst xs)) s' → Q [u, .ref D] s') : wpAny (model X.prog X.w) X.A (unpackItems (.ref l) 2 (some 1)) Q E s := by
  obtain ⟨its, rv, ht, hzz⟩ := I.tuple h
  cases rv with
  | @cons _ u _ us ru rus =>
  have hlen : us.length ≤ 1000 := by rw [← rus.length]; exact hz
  have hlt : l ≠ s.heap.objs.size := by obtain ⟨o, ho, _⟩ := ht; exact Nat.ne_of_lt (Heap.lt_size ho)
  have hasz : (u :: us).toArray.size = us.length + 1 := by simp
  unfold unpackItems
  refine wpAny_bind ?_
  unfold notIterableAtAll
  refine wpAny_bind (wpAny_specialOf ht.typeIs F.slot_tuple_iter.lookup ?_)
  refine wpAny_pure ?_
  simp only [Bool.false_eq_true, if_false]
  refine wpAny_bind (wpAny_holding (iter_tuple ht ?_))
  refine wpAny_bind (wpAny_holding (draw_tuple hlt 1 0 _ _ ⟨_, Heap.get?_push_size _ rfl, rfl, rfl⟩ (ht.push _) (by rw [hasz]; omega) fun h1 hit hs => ?_))
  have ht1 : IsTup h1 l (u :: us).toArray := (ht.push _).extBut hs.extBut hlt
  obtain ⟨oi, hoi, _⟩ := id hit
  obtain ⟨ol, hol, _⟩ := id ht1
  have e1 : List.take 1 (List.drop 0 (u :: us).toArray.toList) = [u] := by simp
  rw [e1]
  rw [if_neg (show ¬ ([u].length < 1) by simp)]
  refine wpAny_bind (wpAny_holding (PySem.W.kun_collect (s := { s with heap := h1 }) (T := "tuple_iterator") (.inr (.inr (.inr rfl))) (Walks.tuple (A := X.A.in1) hh s.heap.objs.size l hlt (u :: us).toArray) (fun j z st => st.1.typeIs) (k := 1) (by rw [hasz]; omega) ⟨hit, ht1⟩ (Heap.lt_size hoi) (Heap.lt_size hol) (fun h2 tk hk => ?_) (by rw [hasz, sizeLine_eq]; omega)))
  have e2 : (u :: us).toArray.toList.drop 1 = us := by simp
  rw [e2]
  show wpAny _ _ (if us.length < 0 then _ else _) _ _ _
  rw [if_neg (by omega)]
  have e3 : us.take (us.length - 0) = us := by simp
  have e4 : us.drop (us.length - 0) = [] := by simp
  show wpAny _ _ (newList (us.take (us.length - 0)) >>= fun d => pure ([u] ++ [d] ++ us.drop (us.length - 0))) _ _ _
  rw [e3, e4]
  have he : ∀ b o, s.heap.get? b = some o → h2.get? b = some o := fun b o e => hk b o (Nat.ne_of_lt (Heap.lt_size e)) (hs.extBut b o (Nat.ne_of_lt (Heap.lt_size e)) (Heap.get?_push_of_some _ e))
  refine wpAny_bind (wpAny_newList ?_ (by rw [sizeLine_eq]; omega))
  refine wpAny_pure ?_
  have I2 : Inv X pins σ H { s with heap := h2, toks := tk } := I.kept (t' := tk) he
  have hf : H h2.objs.size = none := I2.hok.fresh (Nat.le_refl _)
  refine hQ u _ h2.objs.size hf ru ?_
  have := I2.laid (t' := tk) (a := h2.objs.size) (o := .lst xs) (fun b u e => Heap.get?_push_of_some ({ cls := .type "list", data := .seq us.toArray } : Obj) e) (Nat.le_refl _) ⟨by rw [sizeLine_eq]; omega, us, 0, rus, Heap.get?_push_size _ rfl⟩
  exact this
end
def gStar (K : PySem.W.Frag) (t : TGs) : TG := fun v σ H Q => ∃ a x xs, v = .ref a ∧ SqT K H a (x :: xs) ∧ xs.length ≤ 1000 ∧ ∀ p, H p = none → t [x, .ref p] σ (upd H p (.lst xs)) Q
theorem pg_star {X : Cx} {t1 t2 : Expr} {sp pos : Pos} {k : Nat} {t : TGs} (hc : X.calm = true) (h : PGs X [t1, t2] t)
    (e1 : (assignEach [t1, .Starred t2 sp] X.env).map (·.2) = (assignEach [t1, t2] X.env).map (·.2) := by rfl) (e2 : (assignEach [t1, .Starred t2 sp] X.env).length = 2 := by rfl) (e3 : (assignEach [t1, .Starred t2 sp] X.env).findIdx? (·.1) = some 1 := by rfl) :
    PG X (.Tuple [t1, .Starred t2 sp] k pos) (gStar X.K t) := by
  refine ⟨fun pins s σ H v u Q I r hw => ?_⟩
  obtain ⟨a, x, xs, ev, hq, hz, hw⟩ := hw
  subst ev
  obtain rfl : u = Value.ref a := r
  rw [PySem.arm_assign_Tuple]
  refine wpAny_bind (wpAny_standAt ?_)
  unfold unpack
  rw [e2, e3, e1]
  refine wpAny_bind (wpAny_holding (star_un I (I.ok.hd hc) hq hz fun w s' D hD rw' I' => ?_))
  exact h.run pins s' σ _ _ _ Q I' (.cons rw' (.cons (show RelV (.ref D) (.ref D) from rfl) .nil)) (hw D hD)
end Bt
end
section
set_option Elab.async false
set_option linter.all false
set_option maxRecDepth 100000
set_option maxHeartbeats 2000000
set_option autoImplicit false
namespace Bt
open PySem PySem.Spec PyProof.Rows L2 Rz
/-! ### a walker -/
structure WA where
  w : Addr
  dx : Addr
  e : Addr
  t : TA
  sc : Addr
  kp : Addr
abbrev WA.fs (W : WA) : List (PySem.Str × V) := [("own", .ref W.e), ("turning", .ref W.t.t), ("scenes", .ref W.sc), ("kept", .ref W.kp), ("is_busy", .bl false)]
/-- what it holds: the exchange, the turning, the marks, the time, how many edits -/
structure WD where
  ls : List Int
  od : List Nat
  s : Rz.St
  ms : List (PySem.Str × Int)
  tm : Int
  kn : Nat
/-- a mark as a pair -/
abbrev pM (H : Hp) : Addr → PySem.Str × Int → Prop := fun a m => H a = some (.tup [.str m.1, .int m.2])
/-- its last scene -/
structure Scn (H : Hp) (sc : Addr) (D : WD) (q m : Addr) (rs : List V) (as : List Addr) : Prop where
  sc : H sc = some (.tup (rs ++ [.ref q]))
  len : rs.length = D.kn
  at_ : H q = some (.tup [.ref m, .int D.tm, .int 0])
  ms : H m = some (.tup (rV as))
  all : A2 (pM H) as D.ms
theorem Scn.sub {H H' : Hp} {sc q m : Addr} {D : WD} {rs : List V} {as : List Addr} (h : Scn H sc D q m rs as) (s : Sub H H') : Scn H' sc D q m rs as := ⟨s.at h.sc, h.len, s.at h.at_, s.at h.ms, h.all.mono fun a x r => s.at r⟩
/-- its numbers -/
structure WOk0 (D : WD) : Prop where
  ok : ExOk D.ls D.od
  done : Done D.ls D.od D.s
  pl : ∀ x ∈ D.ms, 0 ≤ x.2 ∧ x.2 < exN D.ls
  nd : (D.ms.map (·.1)).Nodup
  ml : D.ms.length ≤ 4
  kn : D.kn ≤ 60
/-- what it reaches -/
structure WIn (K : PySem.W.Frag) (H : Hp) (W : WA) (D : WD) : Prop where
  ex : ExT H W.e D.ls D.od
  tok : TOk K H W.t D.s
  sc : ∃ q m rs as, Scn H W.sc D q m rs as
  kp : ∃ ks : List V, H W.kp = some (.tup ks) ∧ ks.length = D.kn
theorem WIn.sub {K : PySem.W.Frag} {H H' : Hp} {W : WA} {D : WD} (h : WIn K H W D) (s : Sub H H') : WIn K H' W D := ⟨h.ex.sub s, h.tok.sub s, let ⟨q, m, rs, as, x⟩ := h.sc; ⟨q, m, rs, as, x.sub s⟩, let ⟨ks, a, b⟩ := h.kp; ⟨ks, s.at a, b⟩⟩
structure WOk (K : PySem.W.Frag) (H : Hp) (W : WA) (D : WD) : Prop where
  ins : H W.w = some (.ins (cW K) W.dx W.fs)
  inn : WIn K (msk [W.w] H) W D
  ok : WOk0 D
section
variable {K : PySem.W.Frag} {H H' : Hp} {W : WA} {D : WD}
theorem WOk.sub (h : WOk K H W D) (s : Sub H H') : WOk K H' W D := ⟨s.at h.ins, h.inn.sub (msk_mono s), h.ok⟩
theorem WOk.wi (h : WOk K H W D) : WIn K H W D := h.inn.sub msk_sub
theorem WOk.ex (h : WOk K H W D) : ExT H W.e D.ls D.od := h.wi.ex
theorem WOk.tok (h : WOk K H W D) : TOk K H W.t D.s := h.wi.tok
theorem WOk.sc (h : WOk K H W D) : ∃ q m rs as, Scn H W.sc D q m rs as := h.wi.sc
theorem WOk.kp (h : WOk K H W D) : ∃ ks : List V, H W.kp = some (.tup ks) ∧ ks.length = D.kn := h.wi.kp
end
theorem atI_last {xs : List V} {x : V} (h : xs.length < 100000) : atI (xs ++ [x]) (-1) = some x := by
  unfold atI
  have : ixN (xs ++ [x]).length (-1) = some xs.length := by
    unfold ixN
    rw [List.length_append]
    show (if _ then _ else _) = _
    rw [if_neg (by omega), if_pos (by simp; omega)]
    congr 1
    simp
    omega
  rw [this]
  simp
section
variable {P : Program} {w : World} {K : PySem.W.Frag} {mg : PySem.Str → Option Value} {base : Heap}
local macro_rules | `(tactic| walk_at "sd") => `(tactic| first
  | rfl | assumption
  | exact Sub.at ‹Sub _ _› (by assumption)
  | exact SqL.of (by assumption) | exact SqT.of (by assumption) | exact SqL.of (Sub.at ‹Sub _ _› (by assumption)) | exact SqT.of (Sub.at ‹Sub _ _› (by assumption))
  | exact Or.inl (SqL.of (by assumption)) | exact Or.inr (SqT.of (by assumption)) | exact Or.inl (SqL.of (Sub.at ‹Sub _ _› (by assumption))) | exact Or.inr (SqT.of (Sub.at ‹Sub _ _› (by assumption)))
  | exact ClsV.ty _ | exact TyX.base (.int _) | exact TyX.base (.str _) | exact TyX.base (.tup (by assumption)) | exact kit_int | exact kit_ib | exact kit_ss | exact kit_tt)
local macro_rules | `(tactic| walk_at "rd1") => `(tactic| first
  | (apply Exists.intro)
  | (refine And.intro ?_ ?_; (focus (walk_at "sd")))
  | (refine L2.iteT ?_)
  | (refine L2.iteF ?_))
local macro_rules | `(tactic| walk_at "rd") => `(tactic| repeat (walk_at "rd1"))
local macro_rules | `(tactic| walk_at "se") => `(tactic| first
  | rfl | assumption
  | exact Sub.at ‹Sub _ _› (by assumption)
  | exact SqL.of (by assumption) | exact SqT.of (by assumption) | exact SqL.of (Sub.at ‹Sub _ _› (by assumption)) | exact SqT.of (Sub.at ‹Sub _ _› (by assumption))
  | exact Or.inl (SqL.of (by assumption)) | exact Or.inr (SqT.of (by assumption)) | exact Or.inl (SqL.of (Sub.at ‹Sub _ _› (by assumption))) | exact Or.inr (SqT.of (Sub.at ‹Sub _ _› (by assumption)))
  | exact TRaw.ins ‹TRaw _ _ _ _ _› | exact TA.miss
  | exact TRaw.n ‹TRaw _ _ _ _ _›
  | exact TRaw.z ‹TRaw _ _ _ _ _›
  | exact TRaw.d ‹TRaw _ _ _ _ _›
  | exact TRaw.r ‹TRaw _ _ _ _ _›
  | exact TRaw.f ‹TRaw _ _ _ _ _›
  | exact TRaw.l ‹TRaw _ _ _ _ _›
  | exact TRaw.u ‹TRaw _ _ _ _ _›
  | exact TRaw.w ‹TRaw _ _ _ _ _› | exact TRaw.a ‹TRaw _ _ _ _ _› rfl
  | exact SqL.of (TRaw.n ‹TRaw _ _ _ _ _›)
  | exact SqL.of (TRaw.z ‹TRaw _ _ _ _ _›)
  | exact SqL.of (TRaw.d ‹TRaw _ _ _ _ _›)
  | exact SqL.of (TRaw.r ‹TRaw _ _ _ _ _›)
  | exact SqL.of (TRaw.f ‹TRaw _ _ _ _ _›)
  | exact SqL.of (TRaw.l ‹TRaw _ _ _ _ _›)
  | exact SqL.of (TRaw.u ‹TRaw _ _ _ _ _›)
  | exact SqL.of (TRaw.w ‹TRaw _ _ _ _ _›) | exact SqL.of (TRaw.a ‹TRaw _ _ _ _ _› rfl)
  | exact ClsV.ty _ | exact TyX.base (.int _) | exact TyX.base (.str _) | exact TyX.base (.tup (by assumption)) | exact kit_int | exact kit_ib | exact kit_ss | exact kit_tt)
local macro_rules | `(tactic| walk_at "re1") => `(tactic| first
  | (apply Exists.intro)
  | (refine And.intro ?_ ?_; (focus (walk_at "se")))
  | (refine L2.iteT ?_)
  | (refine L2.iteF ?_))
local macro_rules | `(tactic| walk_at "re") => `(tactic| repeat (walk_at "re1"))

theorem sc_spot_of : FnScope ["marks", "mark", "name", "place"] ["marks", "mark"] (defScope s_spot_of) := ⟨rfl, rfl, rfl, by decide +kernel, rfl, by decide +kernel, by decide +kernel⟩
theorem sc_common_multiple : FnScope ["one", "other", "low", "high"] ["one", "other"] (defScope s_common_multiple) := ⟨rfl, rfl, rfl, by decide +kernel, rfl, by decide +kernel, by decide +kernel⟩
theorem sc_Walker_require_idle : FnScope ["self"] ["self"] (defScope s_Walker_require_idle) := ⟨rfl, rfl, rfl, by decide +kernel, rfl, by decide +kernel, by decide +kernel⟩
theorem sc_Walker_require_place : FnScope ["self", "value"] ["self", "value"] (defScope s_Walker_require_place) := ⟨rfl, rfl, rfl, by decide +kernel, rfl, by decide +kernel, by decide +kernel⟩
theorem sc_Walker_gained : FnScope ["self", "marks", "steps"] ["self", "marks", "steps"] (defScope s_Walker_gained) := ⟨rfl, rfl, rfl, by decide +kernel, rfl, by decide +kernel, by decide +kernel⟩
theorem sc_Walker_edits : FnScope ["self"] ["self"] (defScope s_Walker_edits) := ⟨rfl, rfl, rfl, by decide +kernel, rfl, by decide +kernel, by decide +kernel⟩
theorem sc_Walker_length_in : FnScope ["self", "band", "begin", "width", "word"] ["self", "band"] (defScope s_Walker_length_in) := ⟨rfl, rfl, rfl, by decide +kernel, rfl, by decide +kernel, by decide +kernel⟩
theorem sc_Walker_time : FnScope ["self"] ["self"] (defScope s_Walker_time) := ⟨rfl, rfl, rfl, by decide +kernel, rfl, by decide +kernel, by decide +kernel⟩
theorem sc_Walker_many : FnScope ["self"] ["self"] (defScope s_Walker_many) := ⟨rfl, rfl, rfl, by decide +kernel, rfl, by decide +kernel, by decide +kernel⟩
theorem sc_Walker_exchange : FnScope ["self"] ["self"] (defScope s_Walker_exchange) := ⟨rfl, rfl, rfl, by decide +kernel, rfl, by decide +kernel, by decide +kernel⟩
theorem sc_Walker_len : FnScope ["self"] ["self"] (defScope s_Walker_len) := ⟨rfl, rfl, rfl, by decide +kernel, rfl, by decide +kernel, by decide +kernel⟩
theorem Tx.pr_time (T : Tx K mg) : PropOf K (cW K) "time" (He.ma K (cW K) "time") (pgA K (cW K) "time") := propB_ok (He.ba T.exb).1
theorem Tx.pr_many (T : Tx K mg) : PropOf K (cW K) "many" (He.ma K (cW K) "many") (pgA K (cW K) "many") := propB_ok (He.ba (He.ba T.exb).2).1
theorem Tx.pr_exchange (T : Tx K mg) : PropOf K (cW K) "exchange" (He.ma K (cW K) "exchange") (pgA K (cW K) "exchange") := propB_ok (He.ba (He.ba (He.ba T.exb).2).2).1
/-- a call upon a walker that leaves all as it is -/
def W1 (K : PySem.W.Frag) (v : WA → WD → Hp → VK → Prop) : Sp := P1 fun a H Q => ∃ (W : WA) (D : WD), a = .ref W.w ∧ WOk K H W D ∧ v W D H Q
theorem W1.ar {v : WA → WD → Hp → VK → Prop} : Ar 1 (W1 K v) := P1.ar
abbrev sp_Walker_require_idle (K : PySem.W.Frag) : Sp := W1 K fun W D H Q => Q .non H
theorem ok_Walker_require_idle (T : Tx K mg) : Gm P w K mg base 1 (cW K) "require_idle" ["self"] [] (sp_Walker_require_idle K) := by
  refine mkm T.F_Walker_require_idle T.c_Walker T.m_Walker_require_idle sc_Walker_require_idle W1.ar (fun _ _ _ _ _ _ us hl => match us, hl with | [_], _ => rfl) fun cdv A0 outer s0 H vs Q E hr h => ?_
  obtain ⟨_, rfl, W, D, rfl, hw, hq⟩ := h
  have cc := T.c_Walker
  have a1 := T.a_Walker_is_busy
  have hi := hw.ins
  refine ⟨_, (pss_one (ps_if (pt_val (pe_fld (pv 0) rfl)) (pss_one ps_never) pss_nil)), ?_⟩
  walk_at "re"
  exact hq
abbrev sp_Walker_edits (K : PySem.W.Frag) : Sp := W1 K fun W D H Q => Q (.ref W.kp) H
theorem ok_Walker_edits (T : Tx K mg) : Gm P w K mg base 1 (cW K) "edits" ["self"] [] (sp_Walker_edits K) := by
  refine mkm T.F_Walker_edits T.c_Walker T.m_Walker_edits sc_Walker_edits W1.ar (fun _ _ _ _ _ _ us hl => match us, hl with | [_], _ => rfl) fun cdv A0 outer s0 H vs Q E hr h => ?_
  obtain ⟨_, rfl, W, D, rfl, hw, hq⟩ := h
  have cc := T.c_Walker
  have a1 := T.a_Walker_kept
  have hi := hw.ins
  refine ⟨_, (pss_one (ps_ret (pe_fld (pv 0) rfl))), ?_⟩
  walk_at "re"
  exact hq
abbrev sp_Walker_exchange (K : PySem.W.Frag) : Sp := W1 K fun W D H Q => Q (.ref W.e) H
theorem ok_Walker_exchange (T : Tx K mg) : Gp P w K mg base 1 (cW K) "exchange" (sp_Walker_exchange K) := by
  refine mkp T.F_Walker_exchange T.c_Walker T.pr_exchange sc_Walker_exchange W1.ar (fun _ _ _ _ _ _ us hl => match us, hl with | [_], _ => rfl) fun cdv A0 outer s0 H vs Q E hr h => ?_
  obtain ⟨_, rfl, W, D, rfl, hw, hq⟩ := h
  have cc := T.c_Walker
  have a1 := T.a_Walker_own
  have hi := hw.ins
  refine ⟨_, (pss_one (ps_ret (pe_fld (pv 0) rfl))), ?_⟩
  walk_at "re"
  exact hq
abbrev sp_Walker_time (K : PySem.W.Frag) : Sp := W1 K fun W D H Q => Q (.int D.tm) H
theorem ok_Walker_time (T : Tx K mg) : Gp P w K mg base 1 (cW K) "time" (sp_Walker_time K) := by
  refine mkp T.F_Walker_time T.c_Walker T.pr_time sc_Walker_time W1.ar (fun _ _ _ _ _ _ us hl => match us, hl with | [_], _ => rfl) fun cdv A0 outer s0 H vs Q E hr h => ?_
  obtain ⟨_, rfl, W, D, rfl, hw, hq⟩ := h
  have cc := T.c_Walker
  have a1 := T.a_Walker_scenes
  have hi := hw.ins
  obtain ⟨q, m, rs, as, hs⟩ := hw.sc
  have l1 := atI_last (xs := rs) (x := .ref q) (by have := hs.len; have := hw.ok.kn; omega)
  have l2 := hs.sc
  have l3 := hs.at_
  refine ⟨_, (pss_one (ps_ret (pe_ix ix_tup (pe_ix ix_tup (pe_fld (pv 0) rfl) (pe_un un_neg pe_int) (fun _ _ => rfl)) pe_int (fun _ _ => rfl)))), ?_⟩
  walk_at "re"
  exact hq
abbrev sp_Walker_many (K : PySem.W.Frag) : Sp := W1 K fun W D H Q => Q (.int (D.ms.length : Int)) H
theorem ok_Walker_many (T : Tx K mg) : Gp P w K mg base 1 (cW K) "many" (sp_Walker_many K) := by
  refine mkp T.F_Walker_many T.c_Walker T.pr_many sc_Walker_many W1.ar (fun _ _ _ _ _ _ us hl => match us, hl with | [_], _ => rfl) fun cdv A0 outer s0 H vs Q E hr h => ?_
  obtain ⟨_, rfl, W, D, rfl, hw, hq⟩ := h
  have cc := T.c_Walker
  have a1 := T.a_Walker_scenes
  have hi := hw.ins
  obtain ⟨q, m, rs, as, hs⟩ := hw.sc
  have l1 := atI_last (xs := rs) (x := .ref q) (by have := hs.len; have := hw.ok.kn; omega)
  have l2 := hs.sc
  have l3 := hs.at_
  have l4 := hs.ms
  refine ⟨_, (pss_one (ps_ret (pe_callB call_len_seq rfl T.n_len (by decide +kernel) (pa_cons (pe_ix ix_tup (pe_ix ix_tup (pe_fld (pv 0) rfl) (pe_un un_neg pe_int) (fun _ _ => rfl)) pe_int (fun _ _ => rfl)) pa_nil)))), ?_⟩
  walk_at "re"
  refine cint ?_ hq
  rw [rV_len, hs.all.len]
abbrev sp_Walker_len (K : PySem.W.Frag) : Sp := W1 K fun W D H Q => Q (.int (D.kn : Int)) H
theorem ok_Walker_len (T : Tx K mg) : Gm P w K mg base 1 (cW K) "__len__" ["self"] [] (sp_Walker_len K) := by
  refine mkm T.F_Walker_len T.c_Walker T.m_Walker_len sc_Walker_len W1.ar (fun _ _ _ _ _ _ us hl => match us, hl with | [_], _ => rfl) fun cdv A0 outer s0 H vs Q E hr h => ?_
  obtain ⟨_, rfl, W, D, rfl, hw, hq⟩ := h
  have cc := T.c_Walker
  have a1 := T.a_Walker_kept
  have hi := hw.ins
  obtain ⟨ks, k1, k2⟩ := hw.kp
  refine ⟨_, (pss_one (ps_ret (pe_callB call_len_seq rfl T.n_len (by decide +kernel) (pa_cons (pe_fld (pv 0) rfl) pa_nil)))), ?_⟩
  walk_at "re"
  refine cint ?_ hq
  rw [k2]
abbrev sp_Walker_gained (K : PySem.W.Frag) : Sp := P3 fun a b c H Q => Q (.int 0) H
theorem ok_Walker_gained (T : Tx K mg) : Gm P w K mg base 1 (cW K) "gained" ["self", "marks", "steps"] [] (sp_Walker_gained K) := by
  refine mkm T.F_Walker_gained T.c_Walker T.m_Walker_gained sc_Walker_gained P3.ar (fun _ _ _ _ _ _ us hl => match us, hl with | [_, _, _], _ => rfl) fun cdv A0 outer s0 H vs Q E hr h => ?_
  obtain ⟨_, _, _, rfl, hq⟩ := h
  refine ⟨_, (pss_one (ps_ret pe_int)), ?_⟩
  exact hq
/-- the walker's exchange alone is asked for -/
abbrev sp_Walker_require_place (K : PySem.W.Frag) : Sp := P2 fun a b H Q => ∃ (wa dx e : Addr) (fs : List (PySem.Str × V)) (ls : List Int) (od : List Nat) (p : Int), a = .ref wa ∧ b = .int p ∧ H wa = some (.ins (cW K) dx fs) ∧ fs.lookup ("own" : PySem.Str) = some (V.ref e) ∧ ExT H e ls od ∧ 0 ≤ p ∧ p < exN ls ∧ Q .non H
theorem ok_Walker_require_place (T : Tx K mg) : Gm P w K mg base 2 (cW K) "require_place" ["self", "value"] [] (sp_Walker_require_place K) := by
  refine mkm T.F_Walker_require_place T.c_Walker T.m_Walker_require_place sc_Walker_require_place P2.ar (fun _ _ _ _ _ _ us hl => match us, hl with | [_, _], _ => rfl) fun cdv A0 outer s0 H vs Q E hr h => ?_
  obtain ⟨_, _, rfl, wa, dx, e, fs, ls, od, p, rfl, rfl, hi, hf, ⟨l, o, he, hl, ho⟩, p0, p1, hq⟩ := h
  have cc := T.c_Walker
  have a1 := T.a_Walker_own
  rw [exN_sum] at p1
  refine ⟨_, (pss_one (ps_if (pt_not (pt_val (cl (ok_is_whole T) hr (pa_cons (pv 1) (pa_cons pe_int (pa_cons (pe_op op_sub (cl (ok_count_places T) hr (pa_cons (pe_fld (pv 0) rfl) pa_nil)) pe_int) pa_nil)))))) (pss_one ps_never) pss_nil)), ?_⟩
  walk_at "re"
  refine ifF ?_ hq
  rw [decide_eq_true (by omega)]
  decide
abbrev sp_spot_of (K : PySem.W.Frag) : Sp := P2 fun a b H Q => ∃ (m : Addr) (as : List Addr) (ms : List (PySem.Str × Int)) (x : PySem.Str) (p : Int), a = .ref m ∧ b = .str x ∧ H m = some (.tup (rV as)) ∧ A2 (pM H) as ms ∧ (ms.map (·.1)).Nodup ∧ (x, p) ∈ ms ∧ Q (.int p) H
theorem ok_spot_of (T : Tx K mg) : Gd P w K mg base 1 "spot_of" ["marks", "mark"] (sp_spot_of K) := by
  refine mkd T.F_spot_of T.g_spot_of sc_spot_of P2.ar (fun _ _ _ _ _ _ us hl => match us, hl with | [_, _], _ => rfl) fun cdv A0 outer s0 H vs Q E hr h => ?_
  obtain ⟨_, _, rfl, m, as, ms, x, p, rfl, rfl, hm, hA, nd, hx, hq⟩ := h
  refine ⟨_, (pss_cons (ps_for PassesOwn.never rfl (pi_tup (pv 0)) (pg_tup rfl (pgs_cons (pg_name (i := 2) sc_spot_of.nd rfl (by first | exact .inl rfl | exact .inr rfl)) (pgs_cons (pg_name (i := 3) sc_spot_of.nd rfl (by first | exact .inl rfl | exact .inr rfl)) pgs_nil))) (pss_one (ps_if (PW.pt (pw_and (pt_val (pe_callB call_isi rfl T.n_isinstance (by decide +kernel) (pa_cons (pv 1) (pa_cons (pe_ty (n := "str") T.n_str (by decide +kernel)) pa_nil)))) (pw_and1 (pt_cmpR op_eq (pv 2) (pv 1) (nomark _))))) (pss_one (ps_ret (pv 3))) pss_nil)))
  (pss_one ps_never)), ?_⟩
  obtain ⟨j, hj⟩ := List.getElem?_of_mem hx
  walk_at "re"
  refine ⟨⟨_, SqT.of hm⟩, for_it (walk_tup (xs := rV as)) (fun i σ H' => Bx (H' = H ∧ i ≤ j ∧ ∃ o1 o2 : Option V, σ = [some (.ref m), some (.str x), o1, o2]))
    ⟨rfl, Nat.zero_le _, _, _, rfl⟩ (fun i σ H' _ h => by rw [h.o.1]; exact SqT.of hm) (fun i v σ H1 H2 hi h hy => ?_) fun σ H1 h => ?_⟩
  · obtain ⟨rfl, hij, o1, o2, rfl⟩ := h.o
    obtain ⟨rfl, hv⟩ := hy
    obtain ⟨a, ha, rfl⟩ := rV_inv hv
    obtain ⟨y, hy, hp⟩ := hA.get' ha
    refine ⟨a, _, rfl, SqT.of hp, rfl, ?_⟩
    walk_at "re"
    rcases Nat.lt_or_ge i j with c | c
    · have hne : ¬ y.1 = x := fun e => by
        have h1 : (ms.map (·.1))[i]? = some x := by rw [List.getElem?_map, hy]; exact congrArg some e
        have h2 : (ms.map (·.1))[j]? = some x := by rw [List.getElem?_map, hj]; rfl
        obtain ⟨a1, b1⟩ := List.getElem?_eq_some_iff.mp h1
        obtain ⟨a2, b2⟩ := List.getElem?_eq_some_iff.mp h2
        have := (List.getElem_inj nd).mp (b1.trans b2.symm)
        omega
      refine L2.ite2 (fun z => ?_) fun z => ?_
      · exact absurd (V.str.inj (of_decide_eq_true z)) hne
      · exact ⟨⟨rfl, by omega, _, _, rfl⟩⟩
    · have : i = j := by omega
      subst this
      rw [hj] at hy
      cases hy
      refine L2.ite2 (fun z => ?_) fun z => ?_
      · walk_at "re"
        exact hq
      · exact absurd (decide_eq_true rfl) z
  · obtain ⟨rfl, hij, _⟩ := h.o
    have := (List.getElem?_eq_some_iff.mp hj).1
    rw [rV_len, hA.len] at hij
    omega
abbrev sp_common_multiple (K : PySem.W.Frag) : Sp := P2 fun a b H Q => ∃ n : Int, a = .int 1 ∧ b = .int n ∧ 1 ≤ n ∧ Q (.int n) H
theorem ok_common_multiple (T : Tx K mg) : Gd P w K mg base 1 "common_multiple" ["one", "other"] (sp_common_multiple K) := by
  refine mkd T.F_common_multiple T.g_common_multiple sc_common_multiple P2.ar (fun _ _ _ _ _ _ us hl => match us, hl with | [_, _], _ => rfl) fun cdv A0 outer s0 H vs Q E hr h => ?_
  obtain ⟨_, _, rfl, n, rfl, rfl, n1, hq⟩ := h
  refine ⟨_, (pss_cons (ps_par (i := 2) (j := 3) rfl sc_common_multiple.nd rfl rfl (by decide) rfl rfl (pa_cons (pv 0) (pa_cons (pv 1) pa_nil)) rfl)
  (pss_cons (ps_while PassesOwn.never (pt_cmpR op_gt (pv 2) pe_int (nomark _)) (pss_one (ps_par (i := 2) (j := 3) rfl sc_common_multiple.nd rfl rfl (by decide) rfl rfl (pa_cons (pe_op op_mod (pv 3) (pv 2)) (pa_cons (pv 2) pa_nil)) rfl)))
  (pss_one (ps_ret (pe_op op_mul (pe_op op_fdivW (pv 0) (pv 3)) (pv 1)))))), ?_⟩
  have c1 : CDivW 1 1 := cdiv12 (by omega) (by omega)
  have c2 : CMul (1 / 1) n := cmulL (by decide) (by decide)
  refine ⟨_, rfl, _, rfl, _, _, rfl, ?_⟩
  refine ⟨fun m σ H' => Bx (H' = H ∧ ∃ lo hi : Int, σ = [some (.int 1), some (.int n), some (.int lo), some (.int hi)] ∧ ((m = 1 ∧ lo = 1 ∧ hi = n) ∨ (m = 0 ∧ lo = 0 ∧ hi = 1))), ⟨1, rfl, 1, n, rfl, .inl ⟨rfl, rfl, rfl⟩⟩, fun m σ H' h => ?_⟩
  obtain ⟨rfl, lo, hi, rfl, hh⟩ := h.o
  clear h
  rcases hh with ⟨hm, rfl, rfl⟩ | ⟨hm, rfl, rfl⟩
  · refine ⟨_, rfl, _, _, rfl, rfl, _, rfl, ifT (by decide) ?_⟩
    refine ⟨fun σ H2 => Bx (H2 = H' ∧ σ = [some (.int 1), some (.int hi), some (.int 0), some (.int 1)]), fun σ H2 h => ?_, ?_⟩
    · obtain ⟨rfl, rfl⟩ := h.o
      exact ⟨0, by omega, ⟨rfl, _, _, rfl, .inr ⟨rfl, rfl, rfl⟩⟩⟩
    · have e : hi % 1 = 0 := Int.emod_one hi
      refine ⟨_, rfl, _, rfl, _, _, rfl, rfl, Int.zero_lt_one, ?_⟩
      refine ⟨_, rfl, _, _, rfl, ⟨rfl, ?_⟩⟩
      show [some (V.int 1), some (V.int hi), some (V.int (hi % 1)), some (V.int 1)] = _
      rw [e]
  · refine ⟨_, rfl, _, _, rfl, rfl, _, rfl, ifF (by decide) ?_⟩
    walk_at "re"
    refine cint ?_ hq
    rw [Int.ediv_one, Int.one_mul]
abbrev sp_Walker_marks (K : PySem.W.Frag) : Sp := P2 fun a b H Q => ∃ (W : WA) (D : WD), a = .ref W.w ∧ b = .non ∧ WOk K H W D ∧ ∀ m as, H m = some (.tup (rV as)) → A2 (pM H) as D.ms → Q (.ref m) H
theorem sc_Walker_marks : FnScope ["self", "version"] ["self", "version"] (defScope s_Walker_marks) := ⟨rfl, rfl, rfl, by decide +kernel, rfl, by decide +kernel, by decide +kernel⟩
theorem bd_Walker_marks (T : Tx K mg) : Body P w K mg base ["self", "version"] d_Walker_marks.qual d_Walker_marks.body d_Walker_marks.scope (d_Walker_marks.at_ K) 1 (sp_Walker_marks K) := by
  intro cdv A0 outer s0 H vs Q E hr h
  obtain ⟨_, _, rfl, W, D, rfl, rfl, hw, hq⟩ := h
  have cc := T.c_Walker
  have a1 := T.a_Walker_scenes
  have hi := hw.ins
  obtain ⟨q, m, rs, as, hs⟩ := hw.sc
  have l1 := atI_last (xs := rs) (x := .ref q) (by have := hs.len; have := hw.ok.kn; omega)
  have l2 := hs.sc
  have l3 := hs.at_
  refine ⟨_, (pss_cons (ps_if (pt_cmpR op_isN (pv 1) pe_non (nomark _)) (pss_one (ps_ret (pe_ix ix_tup (pe_ix ix_tup (pe_fld (pv 0) rfl) (pe_un un_neg pe_int) (fun _ _ => rfl)) pe_int (fun _ _ => rfl)))) pss_nil)
  (pss_cons (ps_if (pt_not (pt_val (cl (ok_is_whole T) hr (pa_cons (pv 1) (pa_cons pe_int (pa_cons (pe_callB call_len_seq rfl T.n_len (by decide +kernel) (pa_cons (pe_fld (pv 0) rfl) pa_nil)) pa_nil)))))) (pss_one ps_never) pss_nil)
  (pss_one (ps_ret (pe_ix ix_tup (pe_ix ix_tup (pe_fld (pv 0) rfl) (pv 1) (fun _ _ => rfl)) pe_int (fun _ _ => rfl)))))), ?_⟩
  walk_at "re"
  exact hq m as hs.ms hs.all
theorem ok_Walker_marks (T : Tx K mg) : Gm P w K mg base 2 (cW K) "marks" ["self", "version"] [.non] (sp_Walker_marks K) := by
  refine mkm0 (kws := [("version", .non)]) T.F_Walker_marks T.c_Walker T.m_Walker_marks sc_Walker_marks P2.ar 1 (by decide) rfl (fun D doc pm an cdv ct us ks h1 h2 => ?_) (bd_Walker_marks T)
  match us, h1, ks, h2 with
  | [_], _, [_], _ => exact ⟨_, _, _, _, _, _, rfl, rfl, rfl⟩
theorem okk_Walker_marks (T : Tx K mg) : Gk P w K mg base 2 (cW K) "marks" 1 ["self", "version"] ["version"] (sp_Walker_marks K) := by
  refine mkk T.F_Walker_marks T.c_Walker T.m_Walker_marks sc_Walker_marks P2.ar 1 (fun kV doc pm an cdv ct us ws h1 h2 => ?_) (bd_Walker_marks T)
  match us, h1, ws, h2 with
  | [_], _, [_], _ => rfl
theorem band_at {H' : Hp} {as : List Addr} {rs : List Rz.Rc} {c : Nat} {b0 w0 : Int} {i : Nat} (hA : A2 (p3 H') as (bands rs).reverse) (hb : (bands rs)[c]? = some (b0, w0, i)) :
    ∃ aa, p3 H' aa (b0, w0, i) ∧ atI (rV as) (((bands rs).length : Int) - 1 - (c : Int)) = some (.ref aa) := by
  have hc1 : c < (bands rs).length := (List.getElem?_eq_some_iff.mp hb).1
  have ec : ((bands rs).length : Int) - 1 - (c : Int) = (((bands rs).length - 1 - c : Nat) : Int) := by omega
  obtain ⟨aa, haa, hp3⟩ := hA.get (i := (bands rs).length - 1 - c) (y := (b0, w0, i)) (by
    rw [List.getElem?_reverse (by omega)]
    have : (bands rs).length - 1 - ((bands rs).length - 1 - c) = c := by omega
    rw [this]; exact hb)
  exact ⟨aa, hp3, by rw [ec]; exact atI_nat (rV_get haa)⟩
theorem sc_Walker_place_of : FnScope ["self", "mark", "version"] ["self", "mark", "version"] (defScope s_Walker_place_of) := ⟨rfl, rfl, rfl, by decide +kernel, rfl, by decide +kernel, by decide +kernel⟩
abbrev sp_Walker_place_of (K : PySem.W.Frag) : Sp := P3 fun a b c H Q => ∃ (W : WA) (D : WD) (x : PySem.Str) (p : Int), a = .ref W.w ∧ b = .str x ∧ c = .non ∧ WOk K H W D ∧ (x, p) ∈ D.ms ∧ Q (.int p) H
theorem ok_Walker_place_of (T : Tx K mg) : Gm P w K mg base 3 (cW K) "place_of" ["self", "mark", "version"] [.non] (sp_Walker_place_of K) := by
  refine mkm0 (kws := [("version", .non)]) T.F_Walker_place_of T.c_Walker T.m_Walker_place_of sc_Walker_place_of P3.ar 2 (by decide) rfl (fun D doc pm an cdv ct us ks h1 h2 => ?_) fun cdv A0 outer s0 H vs Q E hr h => ?_
  · match us, h1, ks, h2 with
    | [_, _], _, [_], _ => exact ⟨_, _, _, _, _, _, rfl, rfl, rfl⟩
  obtain ⟨_, _, _, rfl, W, D, x, p, rfl, rfl, rfl, hw, hx, hq⟩ := h
  have hi := hw.ins
  refine ⟨_, (pss_one (ps_ret (cl (ok_spot_of T) hr (pa_cons (cmK (okk_Walker_marks T) hr (pv 0) (pk_cons (pv 2) pk_nil)) (pa_cons (pv 1) pa_nil))))), ?_⟩
  walk_at "re"
  intro m as hm hA
  walk_at "re"
  exact ⟨hw.ok.nd, hx, hq⟩
abbrev sp_Walker_length_in (K : PySem.W.Frag) : Sp := P2 fun a b H Q => ∃ (W : WA) (D : WD) (c : Nat) (b0 w0 : Int) (i : Nat), a = .ref W.w ∧ b = .int (((bands D.s.recs).length : Int) - 1 - (c : Int)) ∧ WOk K H W D ∧ (bands D.s.recs)[c]? = some (b0, w0, i) ∧ i < D.s.nodes.length ∧ ∀ H', Sub H H' → Q (.int (D.s.sz i : Int)) H'
theorem ok_Walker_length_in (T : Tx K mg) : Gm P w K mg base 2 (cW K) "length_in" ["self", "band"] [] (sp_Walker_length_in K) := by
  refine mkm T.F_Walker_length_in T.c_Walker T.m_Walker_length_in sc_Walker_length_in P2.ar (fun _ _ _ _ _ _ us hl => match us, hl with | [_, _], _ => rfl) fun cdv A0 outer s0 H vs Q E hr h => ?_
  obtain ⟨_, _, rfl, W, D, c, b0, w0, i, rfl, rfl, hw, hb, hil, hq⟩ := h
  have cc := T.c_Walker
  have ct := T.c_Turning
  have a1 := T.a_Walker_turning
  have a2 := T.a_Turning_sizes
  have hi := hw.ins
  obtain ⟨R, hT, hD⟩ := hw.tok.ex
  have hTk := hw.tok
  refine ⟨_, (pss_cons (ps_asg (pe_ix ix_list (cm0 (ok_Turning_all_bands T) hr (pe_fld (pv 0) rfl)) (pv 1) (fun _ _ => rfl)) (pg_tup rfl (pgs_cons (pg_name (i := 2) sc_Walker_length_in.nd rfl (by first | exact .inl rfl | exact .inr rfl)) (pgs_cons (pg_name (i := 3) sc_Walker_length_in.nd rfl (by first | exact .inl rfl | exact .inr rfl)) (pgs_cons (pg_name (i := 4) sc_Walker_length_in.nd rfl (by first | exact .inl rfl | exact .inr rfl)) pgs_nil)))))
  (pss_one (ps_ret (pe_ix ix_list (pe_fld (pe_fld (pv 0) rfl) rfl) (pv 4) (fun _ _ => rfl))))), ?_⟩
  walk_at "re"
  intro r2 H2 as s2 hr2 hA
  obtain ⟨aa, hp3, hix2⟩ := band_at hA hb
  refine ⟨_, rfl, r2, _, _, _, rfl, rfl, SqL.of hr2, hix2, aa, _, rfl, SqT.of hp3, rfl, ?_⟩
  have hT2 := hT.sub s2
  have hD2 := hD.sub s2
  have zi := atI_nat (hD2.sz hil)
  have hi2 := s2.at hi
  walk_at "re"
  exact hq H2 s2
end
end Bt
end
section
set_option Elab.async false
set_option linter.all false
set_option maxRecDepth 100000
set_option maxHeartbeats 2000000
set_option autoImplicit false
namespace Bt
open PySem PySem.Spec PyProof.Rows L2 Rz
section
variable {K : PySem.W.Frag} {mg : PySem.Str → Option Value}
theorem cSW (T : Tx K mg) : cS K ≠ cW K := by
  intro e
  obtain ⟨f1, F1⟩ := T.F_Stage_init
  obtain ⟨f2, F2⟩ := T.F_Walker_init
  obtain ⟨oc, od, dV, kV, doc, pm, an, cdv, ct, osl, e1, l1, _⟩ := F1.ex
  obtain ⟨oc', od', dV', kV', doc', pm', an', cdv', ct', osl', e2, l2, _⟩ := F2.ex
  have ea : d_Stage_init.at_ K = d_Walker_init.at_ K := by
    show He.ma K (He.ga K "Stage") "__init__" = He.ma K (He.ga K "Walker") "__init__"
    have e' : He.ga K "Stage" = He.ga K "Walker" := e
    rw [e']
  rw [ea, l2] at l1
  cases l1
  rw [e1] at e2
  have hq := congrArg (fun z : FuncData => z.qualname) e2
  exact absurd (show (("Stage.__init__" : PySem.Str)) = "Walker.__init__" from hq) (by decide)
theorem cTW (T : Tx K mg) : cT K ≠ cW K := by
  intro e
  obtain ⟨f1, F1⟩ := T.F_Turning_init
  obtain ⟨f2, F2⟩ := T.F_Walker_init
  obtain ⟨oc, od, dV, kV, doc, pm, an, cdv, ct, osl, e1, l1, _⟩ := F1.ex
  obtain ⟨oc', od', dV', kV', doc', pm', an', cdv', ct', osl', e2, l2, _⟩ := F2.ex
  have ea : d_Turning_init.at_ K = d_Walker_init.at_ K := by
    show He.ma K (He.ga K "Turning") "__init__" = He.ma K (He.ga K "Walker") "__init__"
    have e' : He.ga K "Turning" = He.ga K "Walker" := e
    rw [e']
  rw [ea, l2] at l1
  cases l1
  rw [e1] at e2
  have hq := congrArg (fun z : FuncData => z.qualname) e2
  exact absurd (show (("Turning.__init__" : PySem.Str)) = "Walker.__init__" from hq) (by decide)
theorem TOk.mskW (T : Tx K mg) {H : Hp} {A : TA} {s : Rz.St} {w dx : Addr} {fs : List (PySem.Str × V)} (h : TOk K H A s) (hw : H w = some (.ins (cW K) dx fs)) : TOk K (msk [w] H) A s := by
  obtain ⟨R, a, b⟩ := h.ex
  have nw : w ∉ A.fp true := a.free T hw (fun _ z => nomatch z) (fun dx' fs' z => cTW T (by injection z with z; exact z.symm))
  have k : ∀ {p : Addr} {o : HO}, p ∈ A.fp true → H p = some o → msk [w] H p = some o := fun hp ho => msk_at ho (fun e => nw (List.mem_singleton.mp e ▸ hp))
  have im : Imm K H (msk [w] H) := ⟨fun q xs hq => msk_at hq (fun e => by rw [List.mem_singleton.mp e, hw] at hq; cases hq), fun q dx' fs' hq => msk_at hq (fun e => by
    rw [List.mem_singleton.mp e, hw] at hq
    injection hq with hq
    injection hq with h1
    exact cSW T h1.symm)⟩
  exact ⟨R, ⟨k TA.in_t a.ins, k TA.in_n a.n, k TA.in_z a.z, k TA.in_d a.d, k TA.in_r a.r, k TA.in_f a.f, k TA.in_l a.l, k TA.in_u a.u, k TA.in_w a.w, fun e => k TA.in_a (a.a e), a.nd⟩, b.imm im⟩
end
section
variable {P : Program} {w : World} {K : PySem.W.Frag} {mg : PySem.Str → Option Value} {base : Heap}
local macro_rules | `(tactic| walk_at "sd") => `(tactic| first
  | rfl | assumption
  | exact Sub.at ‹Sub _ _› (by assumption)
  | exact SqL.of (by assumption) | exact SqT.of (by assumption) | exact SqL.of (Sub.at ‹Sub _ _› (by assumption)) | exact SqT.of (Sub.at ‹Sub _ _› (by assumption))
  | exact Or.inl (SqL.of (by assumption)) | exact Or.inr (SqT.of (by assumption)) | exact Or.inl (SqL.of (Sub.at ‹Sub _ _› (by assumption))) | exact Or.inr (SqT.of (Sub.at ‹Sub _ _› (by assumption)))
  | exact ClsV.ty _ | exact TyX.base (.int _) | exact TyX.base (.str _) | exact TyX.base (.tup (by assumption)) | exact kit_int | exact kit_ib | exact kit_ss | exact kit_tt)
local macro_rules | `(tactic| walk_at "rd1") => `(tactic| first
  | (apply Exists.intro)
  | (refine And.intro ?_ ?_; (focus (walk_at "sd")))
  | (refine L2.iteT ?_)
  | (refine L2.iteF ?_))
local macro_rules | `(tactic| walk_at "rd") => `(tactic| repeat (walk_at "rd1"))
local macro_rules | `(tactic| walk_at "se") => `(tactic| first
  | rfl | assumption
  | exact Sub.at ‹Sub _ _› (by assumption)
  | exact SqL.of (by assumption) | exact SqT.of (by assumption) | exact SqL.of (Sub.at ‹Sub _ _› (by assumption)) | exact SqT.of (Sub.at ‹Sub _ _› (by assumption))
  | exact Or.inl (SqL.of (by assumption)) | exact Or.inr (SqT.of (by assumption)) | exact Or.inl (SqL.of (Sub.at ‹Sub _ _› (by assumption))) | exact Or.inr (SqT.of (Sub.at ‹Sub _ _› (by assumption)))
  | exact TRaw.ins ‹TRaw _ _ _ _ _› | exact TA.miss
  | exact TRaw.n ‹TRaw _ _ _ _ _›
  | exact TRaw.z ‹TRaw _ _ _ _ _›
  | exact TRaw.d ‹TRaw _ _ _ _ _›
  | exact TRaw.r ‹TRaw _ _ _ _ _›
  | exact TRaw.f ‹TRaw _ _ _ _ _›
  | exact TRaw.l ‹TRaw _ _ _ _ _›
  | exact TRaw.u ‹TRaw _ _ _ _ _›
  | exact TRaw.w ‹TRaw _ _ _ _ _› | exact TRaw.a ‹TRaw _ _ _ _ _› rfl
  | exact SqL.of (TRaw.n ‹TRaw _ _ _ _ _›)
  | exact SqL.of (TRaw.z ‹TRaw _ _ _ _ _›)
  | exact SqL.of (TRaw.d ‹TRaw _ _ _ _ _›)
  | exact SqL.of (TRaw.r ‹TRaw _ _ _ _ _›)
  | exact SqL.of (TRaw.f ‹TRaw _ _ _ _ _›)
  | exact SqL.of (TRaw.l ‹TRaw _ _ _ _ _›)
  | exact SqL.of (TRaw.u ‹TRaw _ _ _ _ _›)
  | exact SqL.of (TRaw.w ‹TRaw _ _ _ _ _›) | exact SqL.of (TRaw.a ‹TRaw _ _ _ _ _› rfl)
  | exact ClsV.ty _ | exact TyX.base (.int _) | exact TyX.base (.str _) | exact TyX.base (.tup (by assumption)) | exact kit_int | exact kit_ib | exact kit_ss | exact kit_tt)
local macro_rules | `(tactic| walk_at "re1") => `(tactic| first
  | (apply Exists.intro)
  | (refine And.intro ?_ ?_; (focus (walk_at "se")))
  | (refine L2.iteT ?_)
  | (refine L2.iteF ?_))
local macro_rules | `(tactic| walk_at "re") => `(tactic| repeat (walk_at "re1"))

theorem sc_Walker_init : FnScope ["self", "exchange", "error"] ["self", "exchange"] (defScope s_Walker_init) := ⟨rfl, rfl, rfl, by decide +kernel, rfl, by decide +kernel, by decide +kernel⟩
abbrev sp_Walker_init (K : PySem.W.Frag) : Sp := P2 fun a b H Q => ∃ (w dx e : Addr) (ls : List Int) (od : List Nat), a = .ref w ∧ b = .ref e ∧ H w = some (.ins (cW K) dx []) ∧ ExT H e ls od ∧ ExOk ls od ∧ Ends 200 (st0 ls od) ∧
  ∀ H' W s, Sub (msk [w] H) H' → W.w = w → W.e = e → (∀ a ∈ W.t.fp true, H a = none) → WOk K H' W ⟨ls, od, s, [], 0, 0⟩ → Q .non H'
theorem ok_Walker_init (T : Tx K mg) : Gi P w K mg base 8 "Walker" (cW K) ["self", "exchange"] (sp_Walker_init K) := by
  refine mki T.F_Walker_init T.k_Walker T.g_Walker sc_Walker_init P2.ar (fun _ _ _ _ _ _ us hl => match us, hl with | [_, _], _ => rfl) fun cdv A0 outer s0 H vs Q E hr h => ?_
  obtain ⟨_, _, rfl, w, dx, e, ls, od, rfl, rfl, hw, hex, ok, hend, hq⟩ := h
  obtain ⟨l, o, he, hl, ho⟩ := id hex
  have cc := T.c_Walker
  have x1 := T.a_Walker_own
  have x2 := T.a_Walker_turning
  have x3 := T.a_Walker_scenes
  have x4 := T.a_Walker_kept
  have x5 := T.a_Walker_is_busy
  have et : e ≠ w := fun z => by rw [z, hw] at he; cases he
  have lt : l ≠ w := fun z => by rw [z, hw] at hl; cases hl
  have ot : o ≠ w := fun z => by rw [z, hw] at ho; cases ho
  refine ⟨_, (pss_cons (ps_set (i := 2) sc_Walker_init.nd rfl (by first | exact .inl rfl | exact .inr rfl) (cl (ok_exchange_error T) hr (pa_cons (pv 1) pa_nil)))
  (pss_cons (ps_if (pt_cmpR op_notN (pv 2) pe_non (nomark _)) (pss_one ps_never) pss_nil)
  (pss_cons (ps_fld (pv 0) (pv 1) rfl)
  (pss_cons (ps_fld (pv 0) (ci (ok_Turning_init T) hr (pa_cons (pv 1) pa_nil)) rfl)
  (pss_cons (ps_fld (pv 0) (pe_tup (pa_cons (pe_tup (pa_cons (pe_tup pa_nil) (pa_cons pe_int (pa_cons pe_int pa_nil)))) pa_nil)) rfl)
  (pss_cons (ps_fld (pv 0) (pe_tup pa_nil) rfl)
  (pss_one (ps_fld (pv 0) pe_bl rfl)))))))), ?_⟩
  walk_at "re"
  intro H1 s1
  have hw1 := s1.at hw
  walk_at "re"
  have kx : ExT (msk [w] H) e ls od := ⟨l, o, msk_at he (by simpa using et), msk_at hl (by simpa using lt), msk_at ho (by simpa using ot)⟩
  refine ⟨by show 0 < 1000; decide, ?_⟩
  have gw : msk [w] H w = none := msk_in (by simp)
  have g1 : Sub (msk [w] H) (upd H1 w (.ins (cW K) dx (putF "own" (.ref e) []))) := (msk_sub.tr s1).upd gw
  generalize hH2 : upd H1 w (.ins (cW K) dx (putF "own" (.ref e) [])) = H2 at g1
  have hw2 : H2 w = some (.ins (cW K) dx (putF "own" (.ref e) [])) := by rw [← hH2]; exact upd_same
  clear hH2
  refine ⟨_, rfl, fun t tdx nt nd ne => ?_⟩
  have wt : w ≠ t := fun z => by rw [z, nt] at hw2; cases hw2
  have sA : Sub H2 (upd (upd H2 tdx (.own t)) t (.ins (cT K) tdx [])) := (Sub.rfl'.new nd).upd nt
  have g2 := g1.tr sA
  have e3 : (upd (upd H2 tdx (.own t)) t (.ins (cT K) tdx [])) t = some (.ins (cT K) tdx []) := upd_same
  have hw3 : (upd (upd H2 tdx (.own t)) t (.ins (cT K) tdx [])) w = _ := sA.at hw2
  have kx3 := kx.sub g2
  have gt : msk [w] H t = none := by
    cases q : msk [w] H t with
    | none => rfl
    | some o => rw [g1.at q] at nt; cases nt
  refine ⟨_, _, rfl, t, tdx, e, ls, od, rfl, rfl, e3, kx3, ok, hend, fun H4 A s m4 eA hTk hdone hfr => ?_⟩
  have hw4 : H4 w = some (.ins (cW K) dx (putF "own" (.ref e) [])) := m4.at (msk_at hw3 (by simpa using wt))
  have g4 : Sub (msk [w] H) H4 := fun a o h => m4.at (msk_at (g2.at h) (fun z => by rw [List.mem_singleton.mp z, gt] at h; cases h))
  have tk := hTk.mskW T hw4
  have kx4 : ExT (msk [w] H4) e ls od := by
    obtain ⟨l, o, a, b, c⟩ := kx
    have k : ∀ {p : Addr} {u : HO}, msk [w] H p = some u → msk [w] H4 p = some u := fun {p u} h => msk_at (g4.at h) (fun z => by rw [List.mem_singleton.mp z, gw] at h; cases h)
    exact ⟨l, o, k a, k b, k c⟩
  refine ⟨rfl, ?_⟩
  have hfr2 : ∀ a ∈ A.fp true, H a = none := fun a ha => by
    cases q : H a with
    | none => rfl
    | some oo =>
      exfalso
      by_cases hat : a = t
      · rw [hat] at q
        rw [msk_out (by simpa using Ne.symm wt)] at gt
        rw [q] at gt; cases gt
      · have h0 := hfr a ha hat
        by_cases haw : a = w
        · rw [haw] at h0
          exact absurd (hw3.symm.trans h0) (fun z => by cases z)
        · have h3 := g2.at (msk_at q (by simpa using haw))
          exact absurd (h3.symm.trans h0) (fun z => by cases z)
  clear hfr m4 kx3 hw3 e3 gt g2 sA ne nd nt wt
  subst eA
  refine ⟨_, rfl, w, _, _, _, rfl, hw4, cc, x2, by show 1 < 1000; decide, ?_⟩
  -- the field turning is set
  generalize hH5 : upd H4 w (.ins (cW K) dx (putF "turning" (.ref A.t) (putF "own" (.ref e) []))) = H5
  have e5 : msk [w] H5 = msk [w] H4 := by rw [← hH5]; exact msk_upd (by simp)
  have hw5 : H5 w = some (.ins (cW K) dx (putF "turning" (.ref A.t) (putF "own" (.ref e) []))) := by rw [← hH5]; exact upd_same
  have g5 : Sub (msk [w] H) H5 := by rw [← hH5]; exact g4.upd gw
  rw [← e5] at tk kx4
  clear hH5 e5 g4
  -- the first scene
  refine ⟨by show 0 ≤ sizeLine; decide, fun p1 n1 => ?_⟩
  refine ⟨by show 3 ≤ sizeLine; decide, fun p2 n2 => ?_⟩
  refine ⟨by show 1 ≤ sizeLine; decide, fun p3 n3 => ?_⟩
  have s6 : Sub H5 (upd (upd (upd H5 p1 (.tup [])) p2 (.tup [.ref p1, .int 0, .int 0])) p3 (.tup [.ref p2])) := ((Sub.rfl'.new n1).tr (Sub.rfl'.new n2)).tr (Sub.rfl'.new n3)
  have f3 : (upd (upd (upd H5 p1 (.tup [])) p2 (.tup [.ref p1, .int 0, .int 0])) p3 (.tup [.ref p2])) p3 = some (.tup [.ref p2]) := upd_same
  have f2 : (upd (upd (upd H5 p1 (.tup [])) p2 (.tup [.ref p1, .int 0, .int 0])) p3 (.tup [.ref p2])) p2 = some (.tup [.ref p1, .int 0, .int 0]) := (Sub.rfl'.new n3).at upd_same
  have f1 : (upd (upd (upd H5 p1 (.tup [])) p2 (.tup [.ref p1, .int 0, .int 0])) p3 (.tup [.ref p2])) p1 = some (.tup []) := ((Sub.rfl'.new n2).tr (Sub.rfl'.new n3)).at upd_same
  generalize upd (upd (upd H5 p1 (.tup [])) p2 (.tup [.ref p1, .int 0, .int 0])) p3 (.tup [.ref p2]) = H6 at s6 f1 f2 f3 ⊢
  have hw6 := s6.at hw5
  have g6 := g5.tr s6
  refine ⟨_, rfl, w, _, _, _, rfl, hw6, cc, x3, by show 2 < 1000; decide, ?_⟩
  generalize hH7 : upd H6 w (.ins (cW K) dx (putF "scenes" (.ref p3) (putF "turning" (.ref A.t) (putF "own" (.ref e) [])))) = H7
  have e7 : msk [w] H7 = msk [w] H6 := by rw [← hH7]; exact msk_upd (by simp)
  have hw7 : H7 w = some (.ins (cW K) dx (putF "scenes" (.ref p3) (putF "turning" (.ref A.t) (putF "own" (.ref e) [])))) := by rw [← hH7]; exact upd_same
  have g7 : Sub (msk [w] H) H7 := by rw [← hH7]; exact g6.upd gw
  clear hH7
  refine ⟨by show 0 ≤ sizeLine; decide, fun p4 n4 => ?_⟩
  have s8 : Sub H7 (upd H7 p4 (.tup [])) := Sub.rfl'.new n4
  have f4 : (upd H7 p4 (.tup [])) p4 = some (.tup []) := upd_same
  generalize upd H7 p4 (.tup []) = H8 at s8 f4 ⊢
  have hw8 := s8.at hw7
  have g8 := g7.tr s8
  refine ⟨_, rfl, w, _, _, _, rfl, hw8, cc, x4, by show 3 < 1000; decide, ?_⟩
  generalize hH9 : upd H8 w (.ins (cW K) dx (putF "kept" (.ref p4) (putF "scenes" (.ref p3) (putF "turning" (.ref A.t) (putF "own" (.ref e) []))))) = H9
  have e9 : msk [w] H9 = msk [w] H8 := by rw [← hH9]; exact msk_upd (by simp)
  have hw9 : H9 w = some (.ins (cW K) dx (putF "kept" (.ref p4) (putF "scenes" (.ref p3) (putF "turning" (.ref A.t) (putF "own" (.ref e) []))))) := by rw [← hH9]; exact upd_same
  have g9 : Sub (msk [w] H) H9 := by rw [← hH9]; exact g8.upd gw
  clear hH9
  refine ⟨_, rfl, w, _, _, _, rfl, hw9, cc, x5, by show 4 < 1000; decide, ?_⟩
  refine hq _ ⟨w, dx, e, A, p3, p4⟩ s (g9.upd gw) rfl rfl hfr2 ⟨upd_same, ?_, ⟨ok, hdone, fun x h => by simp at h, List.nodup_nil, Nat.zero_le _, Nat.zero_le _⟩⟩
  show WIn K (msk [w] (upd H9 w _)) _ _
  rw [msk_upd (by simp), e9]
  have k6 : Sub (msk [w] H6) (msk [w] H8) := by rw [← e7]; exact msk_mono s8
  have k5 : Sub (msk [w] H5) (msk [w] H8) := (msk_mono s6).tr k6
  have nw : ∀ {p : Addr}, H5 p = none → p ∉ [w] := fun h z => by rw [List.mem_singleton.mp z, hw5] at h; cases h
  have up : ∀ {p : Addr} {o : HO} {ys : List V}, H6 p = some (.tup ys) → p ∉ [w] := fun h z => by rw [List.mem_singleton.mp z, hw6] at h; cases h
  have n4w : p4 ∉ [w] := fun z => by rw [List.mem_singleton.mp z, hw8] at f4; cases f4
  refine ⟨kx4.sub k5, tk.sub k5, ⟨p2, p1, [], [], ⟨k6.at (msk_at f3 (up (o := .tup []) f3)), rfl, k6.at (msk_at f2 (up (o := .tup []) f2)), k6.at (msk_at f1 (up (o := .tup []) f1)), A2.nil⟩⟩, ⟨[], msk_at f4 n4w, rfl⟩⟩
end
end Bt
end
section
set_option Elab.async false
set_option linter.all false
set_option maxRecDepth 100000
set_option maxHeartbeats 2000000
set_option autoImplicit false
namespace Bt
open PySem PySem.Spec PyProof.Rows L2 Rz
section
variable {P : Program} {w : World} {K : PySem.W.Frag} {mg : PySem.Str → Option Value} {base : Heap}
local macro_rules | `(tactic| walk_at "sd") => `(tactic| first
  | rfl | assumption
  | exact Sub.at ‹Sub _ _› (by assumption)
  | exact SqL.of (by assumption) | exact SqT.of (by assumption) | exact SqL.of (Sub.at ‹Sub _ _› (by assumption)) | exact SqT.of (Sub.at ‹Sub _ _› (by assumption))
  | exact Or.inl (SqL.of (by assumption)) | exact Or.inr (SqT.of (by assumption)) | exact Or.inl (SqL.of (Sub.at ‹Sub _ _› (by assumption))) | exact Or.inr (SqT.of (Sub.at ‹Sub _ _› (by assumption)))
  | exact ClsV.ty _ | exact TyX.base (.int _) | exact TyX.base (.str _) | exact TyX.base (.tup (by assumption)) | exact kit_int | exact kit_ib | exact kit_ss | exact kit_tt)
local macro_rules | `(tactic| walk_at "rd1") => `(tactic| first
  | (apply Exists.intro)
  | (refine And.intro ?_ ?_; (focus (walk_at "sd")))
  | (refine L2.iteT ?_)
  | (refine L2.iteF ?_))
local macro_rules | `(tactic| walk_at "rd") => `(tactic| repeat (walk_at "rd1"))
local macro_rules | `(tactic| walk_at "se") => `(tactic| first
  | rfl | assumption
  | exact Sub.at ‹Sub _ _› (by assumption)
  | exact SqL.of (by assumption) | exact SqT.of (by assumption) | exact SqL.of (Sub.at ‹Sub _ _› (by assumption)) | exact SqT.of (Sub.at ‹Sub _ _› (by assumption))
  | exact Or.inl (SqL.of (by assumption)) | exact Or.inr (SqT.of (by assumption)) | exact Or.inl (SqL.of (Sub.at ‹Sub _ _› (by assumption))) | exact Or.inr (SqT.of (Sub.at ‹Sub _ _› (by assumption)))
  | exact TRaw.ins ‹TRaw _ _ _ _ _› | exact TA.miss
  | exact TRaw.n ‹TRaw _ _ _ _ _›
  | exact TRaw.z ‹TRaw _ _ _ _ _›
  | exact TRaw.d ‹TRaw _ _ _ _ _›
  | exact TRaw.r ‹TRaw _ _ _ _ _›
  | exact TRaw.f ‹TRaw _ _ _ _ _›
  | exact TRaw.l ‹TRaw _ _ _ _ _›
  | exact TRaw.u ‹TRaw _ _ _ _ _›
  | exact TRaw.w ‹TRaw _ _ _ _ _› | exact TRaw.a ‹TRaw _ _ _ _ _› rfl
  | exact SqL.of (TRaw.n ‹TRaw _ _ _ _ _›)
  | exact SqL.of (TRaw.z ‹TRaw _ _ _ _ _›)
  | exact SqL.of (TRaw.d ‹TRaw _ _ _ _ _›)
  | exact SqL.of (TRaw.r ‹TRaw _ _ _ _ _›)
  | exact SqL.of (TRaw.f ‹TRaw _ _ _ _ _›)
  | exact SqL.of (TRaw.l ‹TRaw _ _ _ _ _›)
  | exact SqL.of (TRaw.u ‹TRaw _ _ _ _ _›)
  | exact SqL.of (TRaw.w ‹TRaw _ _ _ _ _›) | exact SqL.of (TRaw.a ‹TRaw _ _ _ _ _› rfl)
  | exact ClsV.ty _ | exact TyX.base (.int _) | exact TyX.base (.str _) | exact TyX.base (.tup (by assumption)) | exact kit_int | exact kit_ib | exact kit_ss | exact kit_tt)
local macro_rules | `(tactic| walk_at "re1") => `(tactic| first
  | (apply Exists.intro)
  | (refine And.intro ?_ ?_; (focus (walk_at "se")))
  | (refine L2.iteT ?_)
  | (refine L2.iteF ?_))
local macro_rules | `(tactic| walk_at "re") => `(tactic| repeat (walk_at "re1"))

theorem sc_Walker_fresh : FnScope ["self"] ["self"] (defScope s_Walker_fresh) := ⟨rfl, rfl, rfl, by decide +kernel, rfl, by decide +kernel, by decide +kernel⟩
theorem sc_Walker_copy : FnScope ["self", "found"] ["self"] (defScope s_Walker_copy) := ⟨rfl, rfl, rfl, by decide +kernel, rfl, by decide +kernel, by decide +kernel⟩
theorem sc_Walker_told : FnScope ["self"] ["self"] (defScope s_Walker_told) := ⟨rfl, rfl, rfl, by decide +kernel, rfl, by decide +kernel, by decide +kernel⟩
theorem sc_Walker_str : FnScope ["self"] ["self"] (defScope s_Walker_str) := ⟨rfl, rfl, rfl, by decide +kernel, rfl, by decide +kernel, by decide +kernel⟩
theorem Sub.born {H H' : Hp} {x dx C : Addr} (nx : H x = none) (nd : H dx = none) (ne : dx ≠ x) (s : Sub (msk [x] (L2.upd (L2.upd H dx (HO.own x)) x (HO.ins C dx []))) H') : Sub H H' := fun a o h =>
  s.at (msk_at (((Sub.rfl'.new nd).upd nx).at h) (fun z => by rw [List.mem_singleton.mp z, nx] at h; cases h))
abbrev sp_Walker_fresh (K : PySem.W.Frag) : Sp := P1 fun a H Q => ∃ (W : WA) (D : WD), a = .ref W.w ∧ WOk K H W D ∧ Ends 200 (st0 D.ls D.od) ∧ ∀ H' W' s, Sub H H' → H W'.w = none → (∀ a ∈ W'.t.fp true, H a = none) → WOk K H' W' ⟨D.ls, D.od, s, [], 0, 0⟩ → Q (.ref W'.w) H'
theorem ok_Walker_fresh (T : Tx K mg) : Gm P w K mg base 10 (cW K) "fresh" ["self"] [] (sp_Walker_fresh K) := by
  refine mkm T.F_Walker_fresh T.c_Walker T.m_Walker_fresh sc_Walker_fresh P1.ar (fun _ _ _ _ _ _ us hl => match us, hl with | [_], _ => rfl) fun cdv A0 outer s0 H vs Q E hr h => ?_
  obtain ⟨_, rfl, W, D, rfl, hw, hend, hq⟩ := h
  have cc := T.c_Walker
  have x1 := T.a_Walker_own
  have hi := hw.ins
  refine ⟨_, (pss_one (ps_ret (ci (ok_Walker_init T) hr (pa_cons (pe_fld (pv 0) rfl) pa_nil)))), ?_⟩
  walk_at "re"
  intro x dx nx nd ne
  refine ⟨_, _, rfl, x, dx, W.e, D.ls, D.od, rfl, rfl, upd_same, hw.ex.sub ((Sub.rfl'.new nd).upd nx), hw.ok.ok, hend, fun H' W' s m ew ee hfr hw' => ⟨rfl, ?_⟩⟩
  subst ew
  exact hq H' W' s (Sub.born nx nd ne m) nx (fun a ha => ((Sub.rfl'.new nd).upd nx).fresh (hfr a ha)) hw'
abbrev sp_Walker_copy (K : PySem.W.Frag) : Sp := P1 fun a H Q => ∃ (W : WA) (D : WD), a = .ref W.w ∧ WOk K H W D ∧ Ends 200 (st0 D.ls D.od) ∧ ∀ H' W' s, Sub H H' → H W'.w = none → WOk K H' W' { D with s := s } → Q (.ref W'.w) H'
theorem ok_Walker_copy (T : Tx K mg) : Gm P w K mg base 11 (cW K) "copy" ["self"] [] (sp_Walker_copy K) := by
  refine mkm T.F_Walker_copy T.c_Walker T.m_Walker_copy sc_Walker_copy P1.ar (fun _ _ _ _ _ _ us hl => match us, hl with | [_], _ => rfl) fun cdv A0 outer s0 H vs Q E hr h => ?_
  obtain ⟨_, rfl, W, D, rfl, hw, hend, hq⟩ := h
  have cc := T.c_Walker
  have x1 := T.a_Walker_scenes
  have x2 := T.a_Walker_kept
  have hi := hw.ins
  refine ⟨_, (pss_cons (ps_set (i := 1) sc_Walker_copy.nd rfl (by first | exact .inl rfl | exact .inr rfl) (cm0 (ok_Walker_fresh T) hr (pv 0)))
  (pss_cons (ps_asg (pe_tup (pa_cons (pe_fld (pv 0) rfl) (pa_cons (pe_fld (pv 0) rfl) pa_nil))) (pg_tup rfl (pgs_cons (pg_fld (pv 1)) (pgs_cons (pg_fld (pv 1)) pgs_nil))))
  (pss_one (ps_ret (pv 1))))), ?_⟩
  walk_at "re"
  intro H1 W' s s1 nw hfr hw'
  have hi1 := s1.at hi
  have hf1 := hw'.ins
  walk_at "re"
  refine ⟨by show 2 ≤ sizeLine; decide, fun p np => ?_⟩
  have s2 : Sub H1 (upd H1 p (.tup [.ref W.sc, .ref W.kp])) := Sub.rfl'.new np
  have e2 : (upd H1 p (.tup [.ref W.sc, .ref W.kp])) p = some (.tup [.ref W.sc, .ref W.kp]) := upd_same
  generalize upd H1 p (.tup [.ref W.sc, .ref W.kp]) = H2 at s2 e2 ⊢
  have hf2 := s2.at hf1
  refine ⟨p, _, rfl, SqT.of e2, rfl, ?_⟩
  refine ⟨_, _, rfl, _, rfl, W'.w, _, _, _, rfl, hf2, cc, x1, by show 5 < 1000; decide, ?_⟩
  refine ⟨_, _, rfl, _, rfl, W'.w, _, _, _, rfl, upd_same, cc, x2, by show 5 < 1000; decide, ?_⟩
  refine ⟨rfl, _, rfl, ?_⟩
  have s3 : Sub H (upd (upd H2 W'.w (.ins (cW K) W'.dx (putF "scenes" (.ref W.sc) W'.fs))) W'.w (.ins (cW K) W'.dx (putF "kept" (.ref W.kp) (putF "scenes" (.ref W.sc) W'.fs)))) := ((s1.tr s2).upd nw).upd nw
  have n2 : msk [W'.w] (upd (upd H2 W'.w (.ins (cW K) W'.dx (putF "scenes" (.ref W.sc) W'.fs))) W'.w (.ins (cW K) W'.dx (putF "kept" (.ref W.kp) (putF "scenes" (.ref W.sc) W'.fs)))) = msk [W'.w] H2 := by rw [msk_upd (by simp), msk_upd (by simp)]
  have kq : Sub H (msk [W'.w] H2) := fun a o h => msk_at ((s1.tr s2).at h) (fun z => by rw [List.mem_singleton.mp z, nw] at h; cases h)
  refine hq _ { W' with sc := W.sc, kp := W.kp } s s3 nw ⟨upd_same, ?_, ?_⟩
  · have w2 := hw'.inn.sub (msk_mono s2)
    have w3 : WIn K (msk [W'.w] H2) { W' with sc := W.sc, kp := W.kp } { D with s := s } := by
     refine ⟨w2.ex, w2.tok, ?_, ?_⟩
     · obtain ⟨q, m, rs, as, x⟩ := hw.sc
       exact ⟨q, m, rs, as, (x.sub kq).1, x.2, (x.sub kq).3, (x.sub kq).4, (x.sub kq).5⟩
     · obtain ⟨ks, a, b⟩ := hw.kp
       exact ⟨ks, kq.at a, b⟩
    rw [← n2] at w3
    exact w3
  · exact ⟨hw.ok.ok, hw'.ok.done, hw.ok.pl, hw.ok.nd, hw.ok.ml, hw.ok.kn⟩
theorem lg2 {i : Int} (h0 : -1000000000000000000 ≤ i) (h1 : i ≤ 1000000000000000000) : i.natAbs.log2 < 1920 := by
  have h : i.natAbs < 2 ^ 60 := by
    have : (2 : Nat) ^ 60 = 1152921504606846976 := by decide
    omega
  by_cases c : i.natAbs = 0
  · rw [c]; decide
  · have := (Nat.log2_lt c).mpr h
    omega
theorem sum_pos {ls : List Int} {od : List Nat} (h : ExOk ls od) : 0 ≤ ls.sum := by
  have h0 : ∀ (r : List Int), (∀ y ∈ r, 1 ≤ y) → 0 ≤ r.sum := by
    intro r
    induction r with
    | nil => intro _; decide
    | cons b t ih => intro h; rw [List.sum_cons]; have := h b List.mem_cons_self; have := ih fun y hy => h y (List.mem_cons_of_mem _ hy); omega
  exact h0 ls h.pos
theorem lenI {i : Int} (h0 : -1000000000000000000 ≤ i) (h1 : i ≤ 1000000000000000000) : (Str.ofString (toString i)).length ≤ 30 := by
  have e := int_text_length_le10 (a := i) (k := 19) (by decide) (by
    have : (10 : Nat) ^ 19 = 10000000000000000000 := by decide
    omega)
  rw [PySem.ofString_length]; omega
theorem lit1 : (Str.ofString " places, ").length = 9 := by decide +kernel
theorem lit2 : (Str.ofString " marks, ").length = 8 := by decide +kernel
theorem lit3 : (Str.ofString " edits, time ").length = 13 := by decide +kernel
theorem lit0 : Str.empty.length = 0 := by decide +kernel
theorem app_le {a b : PySem.Str} {n m : Nat} (h1 : a.length ≤ n) (h2 : b.length ≤ m) : (a ++ b).length ≤ n + m := by rw [PySem.Str.length_append]; omega
theorem le_sz {n : Nat} (h : n ≤ 10000) : n ≤ sizeLine := by rw [sizeLine_eq]; omega
local macro_rules | `(tactic| walk_at "lens") => `(tactic| (refine Nat.le_trans (n := _) ?_ (le_sz (n := 1000) (by decide)); simp only [PySem.Str.length_append, lit0, lit1, lit2, lit3]; omega))
/-- what a walker tells of itself -/
def tellS (n : Int) (k : Nat) : PySem.Str := Str.empty ++ ((toString n : String) : PySem.Str) ++ (" places, " : PySem.Str) ++ ((toString (k : Int) : String) : PySem.Str) ++ (" marks, " : PySem.Str) ++ ((toString (0 : Int) : String) : PySem.Str) ++ (" edits, time " : PySem.Str) ++ ((toString (0 : Int) : String) : PySem.Str)
abbrev sp_Walker_told (K : PySem.W.Frag) : Sp := W1 K fun W D H Q => D.tm = 0 ∧ D.kn = 0 ∧ Q (.str (tellS D.ls.sum D.ms.length)) H
theorem ok_Walker_told (T : Tx K mg) : Gm P w K mg base 3 (cW K) "told" ["self"] [] (sp_Walker_told K) := by
  refine mkm T.F_Walker_told T.c_Walker T.m_Walker_told sc_Walker_told W1.ar (fun _ _ _ _ _ _ us hl => match us, hl with | [_], _ => rfl) fun cdv A0 outer s0 H vs Q E hr h => ?_
  obtain ⟨_, rfl, W, D, rfl, hw, ht, hk, hq⟩ := h
  obtain ⟨dls, dod, ds, dms, dtm, dkn⟩ := D
  obtain rfl : dtm = 0 := ht
  obtain rfl : dkn = 0 := hk
  have cc := T.c_Walker
  have x1 := T.a_Walker_own
  have x2 := T.a_Walker_kept
  have hi := hw.ins
  obtain ⟨l, o, he, hl, ho⟩ := hw.ex
  refine ⟨_, (pss_one (ps_ret (pe_joined (PJ.cons (pe_fmt (cl (ok_count_places T) hr (pa_cons (pe_fld (pv 0) rfl) pa_nil))) (PJ.cons pe_str (PJ.cons (pe_fmt (cp (ok_Walker_many T) hr (pv 0))) (PJ.cons pe_str (PJ.cons (pe_fmt (pe_callB call_len_seq rfl T.n_len (by decide +kernel) (pa_cons (pe_fld (pv 0) rfl) pa_nil))) (PJ.cons pe_str (PJ.cons (pe_fmt (cp (ok_Walker_time T) hr (pv 0))) PJ.nil)))))))))), ?_⟩
  walk_at "re"
  have b0 : 0 ≤ dls.sum := sum_pos hw.ok.ok
  have b1 : dls.sum ≤ 1000000000000 := hw.ok.ok.le
  have b2 : dms.length ≤ 4 := hw.ok.ml
  have k1 := lenI (i := dls.sum) (by omega) (by omega)
  have k2 := lenI (i := (dms.length : Int)) (by omega) (by omega)
  have k3 := lenI (i := 0) (by omega) (by omega)
  obtain ⟨ks, kp1, kp2⟩ := hw.kp
  obtain rfl : ks = [] := List.length_eq_zero_iff.mp kp2
  refine .inr ⟨dls.sum, rfl, lg2 (by omega) (by omega), _, rfl, by walk_at "lens", ?_⟩
  refine ⟨_, rfl, by walk_at "lens", ?_⟩
  refine ⟨_, rfl, W.w, _, _, rfl, hi, _, rfl, W, _, rfl, hw, ?_⟩
  refine .inr ⟨(dms.length : Int), rfl, lg2 (by omega) (by omega), _, rfl, by walk_at "lens", ?_⟩
  refine ⟨_, rfl, by walk_at "lens", ?_⟩
  walk_at "re"
  refine .inr ⟨(0 : Int), rfl, lg2 (by omega) (by omega), _, rfl, by walk_at "lens", ?_⟩
  refine ⟨_, rfl, by walk_at "lens", ?_⟩
  refine ⟨_, rfl, W.w, _, _, rfl, hi, _, rfl, W, _, rfl, hw, ?_⟩
  refine .inr ⟨(0 : Int), rfl, lg2 (by omega) (by omega), _, rfl, by walk_at "lens", ?_⟩
  exact hq
abbrev sp_Walker_str (K : PySem.W.Frag) : Sp := W1 K fun W D H Q => D.tm = 0 ∧ D.kn = 0 ∧ Q (.str (tellS D.ls.sum D.ms.length)) H
theorem ok_Walker_str (T : Tx K mg) : Gm P w K mg base 4 (cW K) "__str__" ["self"] [] (sp_Walker_str K) := by
  refine mkm T.F_Walker_str T.c_Walker T.m_Walker_str sc_Walker_str W1.ar (fun _ _ _ _ _ _ us hl => match us, hl with | [_], _ => rfl) fun cdv A0 outer s0 H vs Q E hr h => ?_
  obtain ⟨_, rfl, W, D, rfl, hw, ht, hk, hq⟩ := h
  have hi := hw.ins
  have b0 := sum_pos hw.ok.ok
  have b1 := hw.ok.ok.le
  have b2 := hw.ok.ml
  have k1 := lenI (i := D.ls.sum) (by omega) (by omega)
  have k2 := lenI (i := (D.ms.length : Int)) (by omega) (by omega)
  have k3 := lenI (i := 0) (by omega) (by omega)
  refine ⟨_, (pss_one (ps_ret (pe_joined1 (pe_fmt (cm0 (ok_Walker_told T) hr (pv 0)))))), ?_⟩
  refine ⟨_, rfl, W.w, _, _, rfl, hi, rfl, _, rfl, W, D, rfl, hw, ht, hk, ?_⟩
  refine .inl ⟨_, rfl, ?_, hq⟩
  unfold tellS
  walk_at "lens"
end
end Bt
end
section
set_option Elab.async false
set_option linter.all false
set_option maxRecDepth 100000
set_option maxHeartbeats 2000000
set_option autoImplicit false
namespace Bt
open PySem PySem.Spec PyProof.Rows L2
/-! ### tuple(zip(a text, a tuple or a list)) -/
theorem zip_no_len : typeLookup (.type "zip") "__len__" = pure none := by rw [typeLookup_type, builtinLookup_eq_fast]; kernel_rfl
theorem zip_no_hint : typeLookup (.type "zip") "__length_hint__" = pure none := by rw [typeLookup_type, builtinLookup_eq_fast]; kernel_rfl
section
variable {prog : Program} {w : World} {A : Around} {E : Value → Shared → Prop} {s : Shared} {z TI TO i1 i2 T : Addr} {fp1 fp2 : List Addr} {n1 n2 i : Nat} {P1 P2 : Nat → Value → Prop} {St1 St2 : Nat → Heap → Prop} {f : Bool} {oT : Obj}
theorem zipH_item {Q : Value → Shared → Prop} (S : ZipSep2 z TI TO i1 i2 fp1 fp2) (D1 : Draws prog w A i1 fp1 n1 P1 St1) (D2 : Draws prog w A i2 fp2 n2 P2 St2)
    (hz : IsZipHeld s.heap z TI TO T f) (hT : s.heap.get? T = some oT) (hTI : IsTupOf2 s.heap TI (.ref i1) (.ref i2)) (st1 : St1 i s.heap) (st2 : St2 i s.heap) (hlt1 : i < n1) (hlt2 : i < n2)
    (hQ : ∀ x1 x2 h' tk, P1 i x1 → P2 i x2 → IsZipHeld h' z TI TO T true → St1 (i + 1) h' → St2 (i + 1) h' → IsTupOf2 h' s.heap.objs.size x1 x2 → h'.objs.size = s.heap.objs.size + 1 →
      (∀ c o, c ≠ z → c ≠ i1 → c ≠ i2 → s.heap.get? c = some o → h'.get? c = some o) → Q (.ref s.heap.objs.size) { s with heap := h', toks := tk }) :
    wpAny (model prog w) A (Builtin.«zip.__next__» ⟨[.ref z], []⟩) (fun fin s' => ∃ v, fin = .done (.ret v) ∧ Q v s') E s := by
  obtain ⟨hp, g, d, tk0, os⟩ := s
  show wpAny _ _ (field (.ref z) 2 >>= _) _ _ _
  refine wpAny_bind (wpAny_field hz rfl (x := .bool false) rfl ?_)
  show wpAny _ _ (field (.ref z) 3 >>= _) _ _ _
  refine wpAny_bind (wpAny_field hz rfl (x := .ref TI) rfl ?_)
  refine wpAny_bind (wpAny_seqItems hTI rfl ?_)
  show wpAny _ _ (Builtin.SmallTypes.ownedTupleIsFree (.ref z) >>= _) _ _ _
  refine wpAny_bind (wpAny_tupleHeld_zip hz hT fun g0 hz0 hs0 => ?_)
  replace hs0 : Heap.SameBut z hp g0 := hs0
  simp only [Bool.false_eq_true, if_false]
  refine wpAny_bind ?_
  rw [← Array.forIn_toList]
  simp only [List.forIn_cons, List.forIn_nil]
  refine wpAny_bind (wpAny_bind (wpAny_holding ?_))
  show wpAny _ _ (Builtin.SmallTypes.nextOf (.ref i1) >>= _) _ _ ⟨g0, g, d, tk0, os⟩
  refine wpAny_bind (D1.item i _ _ _ hlt1 (D1.over st1 hs0 S.zf1) fun x1 p1 tk1 hx1 sn1 hp1 => wpAny_pure ?_)
  replace hp1 : Heap.SameBut i1 g0 p1 := hp1
  refine wpAny_pure ?_
  refine wpAny_bind (wpAny_bind (wpAny_holding ?_))
  show wpAny _ _ (Builtin.SmallTypes.nextOf (.ref i2) >>= _) _ _ ⟨p1, g, d, tk1, os⟩
  refine wpAny_bind (D2.item i _ _ _ hlt2 (D2.over (D2.over st2 hs0 S.zf2) hp1 S.sep1_2) fun x2 p2 tk2 hx2 sn2 hp2 => wpAny_pure ?_)
  replace hp2 : Heap.SameBut i2 p1 p2 := hp2
  refine wpAny_pure (wpAny_pure ?_)
  show wpAny _ _ (newTuple [x1, x2] >>= _) _ _ _
  refine wpAny_bind (wpAny_newTuple ?_)
  have hsz : p2.objs.size = hp.objs.size := by rw [hp2.1, hp1.1, hs0.1]
  have hzz : IsZipHeld p2 z TI TO T true := hp2.extBut _ _ S.zi2 (hp1.extBut _ _ S.zi1 hz0)
  have hkk : ∀ c o, c ≠ z → c ≠ i1 → c ≠ i2 → hp.get? c = some o → p2.get? c = some o := fun c o cz c1 c2 e => hp2.extBut _ _ c2 (hp1.extBut _ _ c1 (hs0.extBut _ _ cz e))
  have hj1 : St1 (i + 1) p2 := D1.over sn1 hp2 S.sep2_1
  refine wpAny_pure ⟨_, rfl, ?_⟩
  show Q (.ref p2.objs.size) _
  have hpp : IsTupOf2 (p2.push { cls := .type "tuple", data := .seq #[x1, x2] }) p2.objs.size x1 x2 := Heap.get?_push_size _ rfl
  have hz4 : (p2.push { cls := .type "tuple", data := .seq #[x1, x2] }).objs.size = p2.objs.size + 1 := Heap.size_push ..
  have up : ∀ c o, p2.get? c = some o → (p2.push { cls := .type "tuple", data := .seq #[x1, x2] }).get? c = some o := fun c o e => Heap.get?_push_of_some _ e
  rw [hsz] at hpp hz4 ⊢
  exact hQ x1 x2 _ tk2 hx1 hx2 (up _ _ hzz) (D1.frame _ _ _ hj1 fun b _ o e => up b o e) (D2.frame _ _ _ sn2 fun b _ o e => up b o e) hpp hz4 fun c o cz c1 c2 e => up c o (hkk c o cz c1 c2 e)
theorem zipH_end {Q : Fin → Shared → Prop} (S : ZipSep2 z TI TO i1 i2 fp1 fp2) (D1 : Draws prog w A i1 fp1 n1 P1 St1) (D2 : Draws prog w A i2 fp2 n2 P2 St2)
    (hz : IsZipHeld s.heap z TI TO T f) (hT : s.heap.get? T = some oT) (hTI : IsTupOf2 s.heap TI (.ref i1) (.ref i2)) (st1 : St1 i s.heap) (st2 : St2 i s.heap) (hle1 : i ≤ n1) (hi2 : i = n2)
    (hE : ∀ h' tk e, (∀ c o, c ≠ z → c ≠ i1 → c ≠ i2 → s.heap.get? c = some o → h'.get? c = some o) → (∃ o, h'.get? e = some o ∧ o.cls = .type "StopIteration") → E (.ref e) { s with heap := h', toks := tk }) :
    wpAny (model prog w) A (Builtin.«zip.__next__» ⟨[.ref z], []⟩) Q E s := by
  obtain ⟨hp, g, d, tk0, os⟩ := s
  show wpAny _ _ (field (.ref z) 2 >>= _) _ _ _
  refine wpAny_bind (wpAny_field hz rfl (x := .bool false) rfl ?_)
  show wpAny _ _ (field (.ref z) 3 >>= _) _ _ _
  refine wpAny_bind (wpAny_field hz rfl (x := .ref TI) rfl ?_)
  refine wpAny_bind (wpAny_seqItems hTI rfl ?_)
  show wpAny _ _ (Builtin.SmallTypes.ownedTupleIsFree (.ref z) >>= _) _ _ _
  refine wpAny_bind (wpAny_tupleHeld_zip hz hT fun g0 hz0 hs0 => ?_)
  replace hs0 : Heap.SameBut z hp g0 := hs0
  simp only [Bool.false_eq_true, if_false]
  refine wpAny_bind ?_
  rw [← Array.forIn_toList]
  simp only [List.forIn_cons, List.forIn_nil]
  refine wpAny_bind (wpAny_bind (wpAny_holding ?_))
  show wpAny _ _ (Builtin.SmallTypes.nextOf (.ref i1) >>= _) _ _ ⟨g0, g, d, tk0, os⟩
  by_cases hlt1 : i < n1
  · refine wpAny_bind (D1.item i _ _ _ hlt1 (D1.over st1 hs0 S.zf1) fun x1 p1 tk1 hx1 sn1 hp1 => wpAny_pure ?_)
    replace hp1 : Heap.SameBut i1 g0 p1 := hp1
    refine wpAny_pure ?_
    refine wpAny_bind (wpAny_bind (wpAny_holding ?_))
    show wpAny _ _ (Builtin.SmallTypes.nextOf (.ref i2) >>= _) _ _ ⟨p1, g, d, tk1, os⟩
    refine wpAny_bind (D2.done ⟨p1, g, d, tk1, os⟩ _ _ (by rw [← hi2]; exact D2.over (D2.over st2 hs0 S.zf2) hp1 S.sep1_2) fun q e hq he => ?_)
    replace hq : Heap.ExtBut i2 p1 q := hq
    exact hE q tk1 e (fun c o cz c1 c2 x => hq _ _ c2 (hp1.extBut _ _ c1 (hs0.extBut _ _ cz x))) he
  · have hi1 : i = n1 := by omega
    refine wpAny_bind (D1.done ⟨g0, g, d, tk0, os⟩ _ _ (by rw [← hi1]; exact D1.over st1 hs0 S.zf1) fun q e hq he => ?_)
    replace hq : Heap.ExtBut i1 g0 q := hq
    exact hE q tk0 e (fun c o cz c1 c2 x => hq _ _ c1 (hs0.extBut _ _ cz x)) he
/-- a zip at its i-th turn: fresh, or its tuple is still out -/
def ZAt (i : Nat) (h : Heap) (z TI TO i1 i2 : Addr) (St1 St2 : Nat → Heap → Prop) : Prop :=
  IsTupOf2 h TI (.ref i1) (.ref i2) ∧ St1 i h ∧ St2 i h ∧ ((IsZip h z TI TO .none ∧ ∃ a1 a2, IsTupOf2 h TO a1 a2) ∨ ∃ T f oT, IsZipHeld h z TI TO T f ∧ h.get? T = some oT ∧ T ≠ z ∧ T ≠ i1 ∧ T ≠ i2)
theorem zAt_item {Q : Option Value → Shared → Prop} (S : ZipSep2 z TI TO i1 i2 fp1 fp2) (D1 : Draws prog w A.in1 i1 fp1 n1 P1 St1) (D2 : Draws prog w A.in1 i2 fp2 n2 P2 St2)
    (h : ZAt i s.heap z TI TO i1 i2 St1 St2) (hlt1 : i < n1) (hlt2 : i < n2)
    (hQ : ∀ x1 x2 h' tk, P1 i x1 → P2 i x2 → ZAt (i + 1) h' z TI TO i1 i2 St1 St2 → IsTupOf2 h' s.heap.objs.size x1 x2 → h'.objs.size = s.heap.objs.size + 1 → (∀ c o, c ≠ z → c ≠ TO → c ≠ i1 → c ≠ i2 → s.heap.get? c = some o → h'.get? c = some o) → Q (some (.ref s.heap.objs.size)) { s with heap := h', toks := tk }) :
    wpAny (model prog w) A (pyNext (.ref z)) Q E s := by
  obtain ⟨hTI, st1, st2, hh⟩ := h
  obtain ⟨o1, l1⟩ := D1.live _ _ st1
  obtain ⟨o2, l2⟩ := D2.live _ _ st2
  have n1' : s.heap.objs.size ≠ i1 := Nat.ne_of_gt (Heap.lt_size l1)
  have n2' : s.heap.objs.size ≠ i2 := Nat.ne_of_gt (Heap.lt_size l2)
  rcases hh with ⟨hz, a1, a2, hTO⟩ | ⟨T, f, oT, hz, hT, t0, t1, t2⟩
  · refine wpAny_pyNext_zipD2_item S D1 D2 hz hTI hTO st1 st2 hlt1 hlt2 fun x1 x2 h' tk y1 y2 b1 b2 d1 d2 b5 b6 hk => ?_
    exact hQ x1 x2 h' tk y1 y2 ⟨hk _ _ S.TIz S.TITO S.TIi1 S.TIi2 hTI, d1, d2, .inr ⟨s.heap.objs.size, false, _, b1, b5, Nat.ne_of_gt (Heap.lt_size hz), n1', n2'⟩⟩ b5 b6 hk
  · have hTy : s.TypeIs (.ref z) "zip" := ⟨_, hz, rfl⟩
    unfold pyNext
    refine wpAny_bind (wpAny_attempt (wpAny_callSpecial?_slot (name := Str.ofString "__next__") hTy F.slot_zip_next
      (wpAny_call_entry F.slot_zip_next hTy F.entry_zip_next
        (zipH_item S D1 D2 hz hT hTI st1 st2 hlt1 hlt2 fun x1 x2 h' tk y1 y2 b1 d1 d2 b5 b6 hk => wpAny_pure (hQ x1 x2 h' tk y1 y2 ⟨hk _ _ S.TIz S.TIi1 S.TIi2 hTI, d1, d2, .inr ⟨T, true, oT, b1, hk _ _ t0 t1 t2 hT, t0, t1, t2⟩⟩ b5 b6 fun c o cz _ c1 c2 e => hk c o cz c1 c2 e)) (F.args_zip_next_1 _))))
theorem zAt_end {Q : Option Value → Shared → Prop} (S : ZipSep2 z TI TO i1 i2 fp1 fp2) (D1 : Draws prog w A.in1 i1 fp1 n1 P1 St1) (D2 : Draws prog w A.in1 i2 fp2 n2 P2 St2)
    (h : ZAt i s.heap z TI TO i1 i2 St1 St2) (hle1 : i ≤ n1) (hi2 : i = n2)
    (hQ : ∀ h' tk, (∀ c o, c ≠ z → c ≠ TO → c ≠ i1 → c ≠ i2 → s.heap.get? c = some o → h'.get? c = some o) → Q none { s with heap := h', toks := tk }) :
    wpAny (model prog w) A (pyNext (.ref z)) Q E s := by
  obtain ⟨hTI, st1, st2, hh⟩ := h
  rcases hh with ⟨hz, a1, a2, hTO⟩ | ⟨T, f, oT, hz, hT, t0, t1, t2⟩
  · exact wpAny_pyNext_zipD2_end S D1 D2 hz hTI hTO st1 st2 hle1 (by omega) (.inr hi2) fun h' tk hk => hQ h' tk hk
  · have hTy : s.TypeIs (.ref z) "zip" := ⟨_, hz, rfl⟩
    unfold pyNext
    refine wpAny_bind (wpAny_attempt (wpAny_callSpecial?_slot (name := Str.ofString "__next__") hTy F.slot_zip_next
      (wpAny_call_entry F.slot_zip_next hTy F.entry_zip_next (zipH_end S D1 D2 hz hT hTI st1 st2 hle1 hi2 fun h' tk e hk he => ?_) (F.args_zip_next_1 _))))
    obtain ⟨o, ho, hc⟩ := he
    refine wpAny_bind (wpAny_isInstance (T := "StopIteration") (b := true) ⟨o, ho, hc⟩ isSubtype_stop ?_)
    exact wpAny_pure (hQ _ _ fun c o cz _ c1 c2 e => hk c o cz c1 c2 e)
/-- tuples that were handed out -/
structure Outs (n0 : Nat) (h : Heap) (av : List Addr) (Ts : List Addr) (P1 P2 : Nat → Value → Prop) : Prop where
  nd : Ts.Nodup
  at_ : ∀ j T, Ts[j]? = some T → n0 ≤ T ∧ T ∉ av ∧ ∃ x1 x2, P1 j x1 ∧ P2 j x2 ∧ IsTupOf2 h T x1 x2
theorem Outs.keep {n0 : Nat} {h h' : Heap} {av Ts : List Addr} (o : Outs n0 h av Ts P1 P2) (k : ∀ b ob, b ∉ av → h.get? b = some ob → h'.get? b = some ob) : Outs n0 h' av Ts P1 P2 := ⟨o.nd, fun j T e => by
  obtain ⟨m, n, x1, x2, a, b, c⟩ := o.at_ j T e
  exact ⟨m, n, x1, x2, a, b, k _ _ n c⟩⟩
theorem zip_loop {R : Result → Shared → Prop} {S : Addr} {res : Value} (D : ZipSep2 z TI TO i1 i2 fp1 fp2) (D1 : Draws prog w A.in1.in1 i1 fp1 n1 P1 St1) (D2 : Draws prog w A.in1.in1 i2 fp2 n2 P2 St2)
    {n0 : Nat} (hle : n2 ≤ n1) (hn : n2 ≤ 1000) (Sz : S ≠ z) (ST : S ≠ TI) (SO : S ≠ TO) (S1 : S ∉ fp1) (S2 : S ∉ fp2) : ∀ (k i : Nat) (s : Shared) (acc : Array Value) (c : Nat) (Ts : List Addr), n2 - i = k → i ≤ n2 →
    ZAt i s.heap z TI TO i1 i2 St1 St2 → s.heap.get? S = some { cls := .type "list", dict := none, data := .seq acc c, slots := #[] } → acc.toList = Ts.map Value.ref → Ts.length = i → Outs n0 s.heap [S, z, TO, i1, i2] Ts P1 P2 → n0 ≤ s.heap.objs.size → (∀ b ∈ [S, z, TO, i1, i2], b < s.heap.objs.size) →
    (∀ h' tk acc' c' Ts', (∀ b o, b ∉ [S, z, TO, i1, i2] → s.heap.get? b = some o → h'.get? b = some o) → h'.get? S = some { cls := .type "list", dict := none, data := .seq acc' c', slots := #[] } → acc'.toList = Ts'.map Value.ref → Ts'.length = n2 →
      Outs n0 h' [S, z, TO, i1, i2] Ts' P1 P2 → R (.ok (.ret res)) { s with heap := h', toks := tk }) →
    codeAny (model prog w) A (.builtin "list.extend.loop" ⟨[.ref S, .ref z, res], []⟩) R s := by
  have nS1 : S ≠ i1 := fun e => S1 (e ▸ D.mem1)
  have nS2 : S ≠ i2 := fun e => S2 (e ▸ D.mem2)
  intro k
  induction k with
  | zero =>
    intro i s acc c Ts hk hi hz hS ha hl ho hn0 hb5 hR
    refine codeAny_builtin F.entry_extend_loop ?_
    rw [Around.under_plainId F.plain_extend_loop _]
    show wpAny _ A.in1 (pyNext (.ref z) >>= _) _ _ s
    refine wpAny_bind (zAt_end D D1 D2 hz (by omega) (by omega) fun h' tk hkp => ?_)
    refine wpAny_pure (hR h' tk acc c Ts (fun b o hb e => ?_) (hkp S _ Sz SO nS1 nS2 hS) ha (by omega) (ho.keep fun b o hb e => ?_))
    all_goals
      simp only [List.mem_cons, List.not_mem_nil, or_false, not_or] at hb
      exact hkp b o hb.2.1 hb.2.2.1 hb.2.2.2.1 hb.2.2.2.2 e
  | succ k ih =>
    intro i s acc c Ts hk hi hz hS ha hl ho hn0 hb5 hR
    refine codeAny_builtin F.entry_extend_loop ?_
    rw [Around.under_plainId F.plain_extend_loop _]
    show wpAny _ A.in1 (pyNext (.ref z) >>= _) _ _ s
    refine wpAny_bind (zAt_item D D1 D2 hz (by omega) (by omega) fun x1 x2 h' tk y1 y2 hz' hT hsz' hkp => ?_)
    have hS' := hkp S _ Sz SO nS1 nS2 hS
    have hasz : acc.size = i := by
      have := congrArg List.length ha
      rw [List.length_map, hl] at this
      simpa using this
    have hsl : sizeLine = 16777216 := sizeLine_eq
    show wpAny _ A.in1 (updateSeq S (·.push (.ref s.heap.objs.size)) >>= _) _ _ _
    refine wpAny_bind ?_
    have hSlt := Heap.lt_size hS
    have keep2 : ∀ b o, b ≠ S → h'.get? b = some o → (h'.update S (Obj.mapSeq (·.push (.ref s.heap.objs.size)))).get? b = some o := fun b o hb e => (Heap.get?_update_other _ _ (Ne.symm hb)).trans e
    have kk : ∀ b o, b ∉ [S, z, TO, i1, i2] → s.heap.get? b = some o → (h'.update S (Obj.mapSeq (·.push (.ref s.heap.objs.size)))).get? b = some o := fun b o hb e => by
      simp only [List.mem_cons, List.not_mem_nil, or_false, not_or] at hb
      exact keep2 b o hb.1 (hkp b o hb.2.1 hb.2.2.1 hb.2.2.2.1 hb.2.2.2.2 e)
    refine wpAny_updateSeq hS' rfl (wpAny_pure ⟨plainId_quiet F.plain_extend_loop _, ih (i + 1) _ (acc.push (.ref s.heap.objs.size)) _ (Ts ++ [s.heap.objs.size]) (by omega) (by omega) ?_ (Heap.get?_update_self _ hS' rfl) ?_ ?_ ?_ ?_ (fun b hb => ?_) fun h2 tk2 acc' c' Ts' q1 q2 q3 q4 q5 => ?_⟩)
      (by rw [hasz]; omega) (by show (acc.push _).size ≤ sizeLine + 1; rw [Array.size_push, hasz]; omega)
    · obtain ⟨z1, z2, z3, z4⟩ := hz'
      refine ⟨keep2 _ _ (Ne.symm ST) z1, D1.frame _ _ _ z2 fun b hb o e => keep2 b o (fun q => S1 (q ▸ hb)) e, D2.frame _ _ _ z3 fun b hb o e => keep2 b o (fun q => S2 (q ▸ hb)) e, ?_⟩
      rcases z4 with ⟨a, a1, a2, a3⟩ | ⟨T', f', oT', a, b, c1, c2, c3⟩
      · exact .inl ⟨keep2 _ _ (Ne.symm Sz) a, a1, a2, keep2 _ _ (Ne.symm SO) a3⟩
      · by_cases hTS : T' = S
        · subst hTS
          exact .inr ⟨T', f', _, keep2 _ _ (Ne.symm Sz) a, Heap.get?_update_self _ hS' rfl, c1, c2, c3⟩
        · exact .inr ⟨T', f', oT', keep2 _ _ (Ne.symm Sz) a, keep2 _ _ hTS b, c1, c2, c3⟩
    · rw [Array.toList_push, ha, List.map_append]; rfl
    · rw [List.length_append, hl]; rfl
    · refine ⟨?_, fun j T' hj => ?_⟩
      · rw [List.nodup_append]
        refine ⟨ho.nd, by simp, fun x hx y hy => ?_⟩
        rw [List.mem_singleton.mp hy]
        obtain ⟨j, hj⟩ := List.getElem?_of_mem hx
        obtain ⟨_, _, _, _, _, _, q⟩ := ho.at_ j x hj
        exact Nat.ne_of_lt (Heap.lt_size q)
      rcases Nat.lt_trichotomy j Ts.length with q | q | q
      · rw [List.getElem?_append_left q] at hj
        obtain ⟨m, n, u1, u2, a, b, cc⟩ := ho.at_ j T' hj
        exact ⟨m, n, u1, u2, a, b, kk _ _ n cc⟩
      · subst q
        rw [List.getElem?_append_right (Nat.le_refl _), Nat.sub_self] at hj
        cases hj
        exact ⟨hn0, fun hm => Nat.lt_irrefl _ (hb5 _ hm), x1, x2, by rw [hl]; exact y1, by rw [hl]; exact y2, keep2 _ _ (Nat.ne_of_gt hSlt) hT⟩
      · rw [List.getElem?_eq_none (by rw [List.length_append]; exact q)] at hj; cases hj
    · show n0 ≤ (h'.update S _).objs.size
      rw [Heap.size_update, hsz']
      exact Nat.le_succ_of_le hn0
    · have := hb5 b hb
      show b < (h'.update S _).objs.size
      rw [Heap.size_update, hsz']
      exact Nat.lt_succ_of_lt this
    · exact hR h2 tk2 acc' c' Ts' (fun b o hb e => q1 b o hb (kk b o hb e)) q2 q3 q4 q5
theorem collect_zip {Q : List Value → Shared → Prop} (D : ZipSep2 z TI TO i1 i2 fp1 fp2) (D1 : Draws prog w A.in1.in1 i1 fp1 n1 P1 St1) (D2 : Draws prog w A.in1.in1 i2 fp2 n2 P2 St2)
    (hle : n2 ≤ n1) (hn : n2 ≤ 1000) (hz : IsZip s.heap z TI TO .none) (hTI : IsTupOf2 s.heap TI (.ref i1) (.ref i2)) (hTO : IsTupOf2 s.heap TO .none .none) (st1 : St1 0 s.heap) (st2 : St2 0 s.heap) (f1 : ∀ b ∈ fp1, b < s.heap.objs.size) (f2 : ∀ b ∈ fp2, b < s.heap.objs.size)
    (hQ : ∀ (h' : Heap) (tk : Nat) (Ts : List Addr), (∀ b o, b ≠ z → b ≠ TO → b ≠ i1 → b ≠ i2 → s.heap.get? b = some o → h'.get? b = some o) → Ts.length = n2 → Outs s.heap.objs.size h' [z, TO, i1, i2] Ts P1 P2 → Q (Ts.map Value.ref) { s with heap := h', toks := tk }) :
    wpAny (model prog w) A (collect (.ref z)) Q E s := by
  unfold collect
  refine wpAny_bind (wpAny_runValue (codeAny_builtin F.entry_proto_collect ?_))
  rw [Around.under_plainId F.plain_proto_collect _]
  show wpAny _ A.in1 (newList [] >>= fun l' => again (.builtin "list.__iadd__" ⟨[l', .ref z], []⟩)) _ _ s
  refine wpAny_bind (wpAny_newObj_type ?_)
  refine wpAny_pure ⟨plainId_quiet F.plain_list_iadd _, codeAny_builtin F.entry_list_iadd ?_⟩
  rw [Around.under_plainId F.plain_list_iadd _]
  have kp : ∀ b o, s.heap.get? b = some o → (s.heap.push { cls := .type "list", data := .seq ([] : List Value).toArray }).get? b = some o := fun b o e => Heap.get?_push_of_some _ e
  have hS₁ : (s.heap.push { cls := .type "list", data := .seq ([] : List Value).toArray }).get? s.heap.objs.size = some { cls := .type "list", data := .seq ([] : List Value).toArray } := Heap.get?_push_size _ rfl
  have hT : ({ s with heap := s.heap.push { cls := .type "list", data := .seq ([] : List Value).toArray } } : Shared).TypeIs (.ref z) "zip" := ⟨_, kp _ _ hz, rfl⟩
  have lt : ∀ {b : Addr} {o : Obj}, s.heap.get? b = some o → s.heap.objs.size ≠ b := fun e => Nat.ne_of_gt (Heap.lt_size e)
  obtain ⟨o1, l1⟩ := D1.live _ _ st1
  obtain ⟨o2, l2⟩ := D2.live _ _ st2
  have hSz := lt hz
  have h1 : Builtin.List.listSameRef (.ref s.heap.objs.size) (.ref z) = false := by simp [Builtin.List.listSameRef, hSz]
  show wpAny _ A.in1 (Builtin.List.listExtendWith (.ref s.heap.objs.size) (.ref z) (.ref s.heap.objs.size)) _ _ _
  unfold Builtin.List.listExtendWith
  refine wpAny_bind (wpAny_typeOf hT ?_)
  rw [if_neg (by rw [h1]; decide)]
  refine wpAny_bind (wpAny_pyIter_zip (s := { s with heap := s.heap.push { cls := .type "list", data := .seq ([] : List Value).toArray } }) (kp _ _ hz) ?_)
  refine wpAny_bind (wpAny_holding ?_)
  unfold Builtin.List.listLengthHint
  refine wpAny_bind (wpAny_specialOf hT zip_no_len ?_)
  show wpAny _ A.in1 (specialOf (Value.ref z) (Str.ofString "__length_hint__") >>= _) _ _ _
  refine wpAny_bind (wpAny_specialOf hT zip_no_hint ?_)
  refine wpAny_pure ?_
  show wpAny _ A.in1 (rule "list.extend.makes-room" >>= fun _ => Builtin.List.listTouch (.ref s.heap.objs.size) >>= fun _ =>
    again (.builtin "list.extend.loop" ⟨[.ref s.heap.objs.size, .ref z, .ref s.heap.objs.size], []⟩)) _ _ _
  refine wpAny_bind (wpAny_rule ?_)
  refine wpAny_bind ?_
  show wpAny _ A.in1 (updateSeq s.heap.objs.size (·.push .none) >>= fun _ => updateSeq s.heap.objs.size (·.pop)) _ _ _
  refine wpAny_bind (wpAny_updateSeq hS₁ rfl ?_)
  have hS₂ := Heap.get?_update_self (Obj.mapSeq (·.push Value.none)) hS₁ rfl
  refine wpAny_updateSeq hS₂ rfl ?_
  have hS₃ := Heap.get?_update_self (Obj.mapSeq (·.pop)) hS₂ rfl
  have oth : ∀ b o, s.heap.get? b = some o →
      (((s.heap.push { cls := .type "list", data := .seq ([] : List Value).toArray }).update s.heap.objs.size (Obj.mapSeq (·.push Value.none))).update s.heap.objs.size (Obj.mapSeq (·.pop))).get? b = some o :=
    fun b o e => (Heap.get?_update_other _ _ (lt e)).trans ((Heap.get?_update_other _ _ (lt e)).trans (kp _ _ e))
  have nS1 : s.heap.objs.size ∉ fp1 := fun hm => Nat.lt_irrefl _ (f1 _ hm)
  have nS2 : s.heap.objs.size ∉ fp2 := fun hm => Nat.lt_irrefl _ (f2 _ hm)
  refine wpAny_pure ⟨plainId_quiet F.plain_extend_loop _, zip_loop D D1 D2 hle hn hSz (lt hTI) (lt hTO) nS1 nS2 n2 0 _ _ _ [] rfl (Nat.zero_le _)
    ⟨oth _ _ hTI, D1.frame _ _ _ st1 fun b _ o e => oth b o e, D2.frame _ _ _ st2 fun b _ o e => oth b o e, .inl ⟨oth _ _ hz, _, _, oth _ _ hTO⟩⟩ hS₃ rfl rfl (n0 := s.heap.objs.size) ⟨List.nodup_nil, fun j T hj => by simp at hj⟩ ?_ (fun b hb => ?_) fun h' tk acc' c' Ts' q1 q2 q3 q4 q5 => ?_⟩
  · show s.heap.objs.size ≤ (((s.heap.push { cls := .type "list", data := .seq ([] : List Value).toArray }).update s.heap.objs.size (Obj.mapSeq (·.push Value.none))).update s.heap.objs.size (Obj.mapSeq (·.pop))).objs.size
    rw [Heap.size_update, Heap.size_update, Heap.size_push]
    exact Nat.le_succ _
  · show b < (((s.heap.push { cls := .type "list", data := .seq ([] : List Value).toArray }).update s.heap.objs.size (Obj.mapSeq (·.push Value.none))).update s.heap.objs.size (Obj.mapSeq (·.pop))).objs.size
    rw [Heap.size_update, Heap.size_update, Heap.size_push]
    rcases List.mem_cons.mp hb with e | hb
    · rw [e]; exact Nat.lt_succ_self _
    · have hb' : b = z ∨ b = TO ∨ b = i1 ∨ b = i2 := by simpa using hb
      rcases hb' with e | e | e | e
      · rw [e]; exact Nat.lt_succ_of_lt (Heap.lt_size hz)
      · rw [e]; exact Nat.lt_succ_of_lt (Heap.lt_size hTO)
      · rw [e]; exact Nat.lt_succ_of_lt (Heap.lt_size l1)
      · rw [e]; exact Nat.lt_succ_of_lt (Heap.lt_size l2)
  · show wpAny _ A (load s.heap.objs.size >>= _) _ _ _
    refine wpAny_bind (wpAny_load q2 ?_)
    refine wpAny_pure ?_
    show Q acc'.toList _
    rw [q3]
    refine hQ h' tk Ts' (fun b o b1 b2 b3 b4 e => q1 b o ?_ (oth b o e)) q4 ⟨q5.nd, fun j T hj => ?_⟩
    · simp only [List.mem_cons, List.not_mem_nil, or_false, not_or]
      exact ⟨Ne.symm (lt e), b1, b2, b3, b4⟩
    · obtain ⟨m, n, r⟩ := q5.at_ j T hj
      exact ⟨m, fun hm => n (List.mem_cons_of_mem _ hm), r⟩
theorem tuple_new_zip {Q₁ : Value → Shared → Prop} (D : ZipSep2 z TI TO i1 i2 fp1 fp2) (D1 : Draws prog w A.in1.in1.in1 i1 fp1 n1 P1 St1) (D2 : Draws prog w A.in1.in1.in1 i2 fp2 n2 P2 St2)
    (hle : n2 ≤ n1) (hn : n2 ≤ 1000) (hz : IsZip s.heap z TI TO .none) (hTI : IsTupOf2 s.heap TI (.ref i1) (.ref i2)) (hTO : IsTupOf2 s.heap TO .none .none) (st1 : St1 0 s.heap) (st2 : St2 0 s.heap) (f1 : ∀ b ∈ fp1, b < s.heap.objs.size) (f2 : ∀ b ∈ fp2, b < s.heap.objs.size)
    (hQ : ∀ (h' : Heap) (tk : Nat) (Ts : List Addr), (∀ b o, b ≠ z → b ≠ TO → b ≠ i1 → b ≠ i2 → s.heap.get? b = some o → h'.get? b = some o) → Ts.length = n2 → Outs s.heap.objs.size h' [z, TO, i1, i2] Ts P1 P2 →
      Q₁ (.ref h'.objs.size) { s with heap := h'.push { cls := .type "tuple", data := .seq (Ts.map Value.ref).toArray }, toks := tk }) :
    codeAny (model prog w) A (.call (.builtin "tuple.__new__") ⟨[.type "tuple", .ref z], []⟩) (wants Q₁ E) s := by
  refine codeAny_of_tree ?_
  show wpAny _ A.in1 (do checkBuiltinCall "tuple.__new__" ⟨[.type "tuple", .ref z], []⟩; again (.builtin "tuple.__new__" ⟨[.type "tuple", .ref z], []⟩)) _ _ s
  refine wpAny_bind (wpAny_of_eq (F.newCall_tuple_1 _) (wpAny_pure ⟨plainId_quiet F.plain_tuple_new _, codeAny_builtin F.entry_tuple_new ?_⟩))
  rw [Around.under_plainId F.plain_tuple_new _]
  have hsub := sub_tuple_self
  have hinit := init_tuple_lookup
  have hmh := madeHere_tuple
  have hTy : s.TypeIs (.ref z) "zip" := ⟨_, hz, rfl⟩
  wp_walk using wpAny_typeOf hTy, collect_zip (A := A.in1) D D1 D2 hle hn hz hTI hTO st1 st2 f1 f2
  intro h' tk Ts hk hl ho
  show wpAny _ _ (Builtin.Tuple.tupleExact (Ts.map Value.ref).toArray >>= fun v => ret v) _ _ _
  unfold Builtin.Tuple.tupleExact
  refine wpAny_bind (wpAny_newObj_type ?_ (by show (Ts.map Value.ref).toArray.size ≤ sizeLine; rw [List.size_toArray, List.length_map, hl, sizeLine_eq]; omega))
  exact wpAny_pure (hQ h' tk Ts hk hl ho)
theorem call_tuple_zip {Q : Value → Shared → Prop} (D : ZipSep2 z TI TO i1 i2 fp1 fp2) (D1 : Draws prog w A.in1.in1.in1.in1 i1 fp1 n1 P1 St1) (D2 : Draws prog w A.in1.in1.in1.in1 i2 fp2 n2 P2 St2)
    (hle : n2 ≤ n1) (hn : n2 ≤ 1000) (hz : IsZip s.heap z TI TO .none) (hTI : IsTupOf2 s.heap TI (.ref i1) (.ref i2)) (hTO : IsTupOf2 s.heap TO .none .none) (st1 : St1 0 s.heap) (st2 : St2 0 s.heap) (f1 : ∀ b ∈ fp1, b < s.heap.objs.size) (f2 : ∀ b ∈ fp2, b < s.heap.objs.size)
    (hQ : ∀ (h' : Heap) (tk : Nat) (Ts : List Addr), (∀ b o, b ≠ z → b ≠ TO → b ≠ i1 → b ≠ i2 → s.heap.get? b = some o → h'.get? b = some o) → Ts.length = n2 → Outs s.heap.objs.size h' [z, TO, i1, i2] Ts P1 P2 →
      Q (.ref h'.objs.size) { s with heap := h'.push { cls := .type "tuple", data := .seq (Ts.map Value.ref).toArray }, toks := tk }) :
    wpAny (model prog w) A (call (.type "tuple") [.ref z]) Q E s := by
  refine callType_codes (Q₁ := fun obj s₁ => s₁.TypeIs obj "tuple" ∧ Q obj s₁) F.called_tuple (F.typeCall_tuple_1 _) F.entry_object_init
    (tuple_new_zip (A := A.in1) D D1 D2 hle hn hz hTI hTO st1 st2 f1 f2 fun h' tk Ts hk hl ho => ⟨⟨_, Heap.get?_push_size _ rfl, rfl⟩, hQ h' tk Ts hk hl ho⟩) fun obj s₁ h₁ => ?_
  exact ⟨h₁.1, F.args_object_init_2 obj _, object_init_meets F.called_tuple.init.lookup F.called_tuple.made (by decide) prog w A.in1 _ s₁ ⟨h₁.1, rfl, h₁.2⟩⟩
end
/-! ### many new tuples are tracked at once -/
def lay (H : Hp) : List Addr → List HO → Hp
  | a :: as, o :: os => upd (lay H as os) a o
  | _, _ => H
theorem lay_out {H : Hp} {b : Addr} : ∀ (as : List Addr) (os : List HO), b ∉ as → lay H as os b = H b
  | [], _, _ => rfl
  | _ :: _, [], _ => rfl
  | a :: as, o :: os, h => by
    show upd (lay H as os) a o b = H b
    rw [upd_ne (fun e => h (by rw [e]; exact List.mem_cons_self)), lay_out as os fun q => h (List.mem_cons_of_mem _ q)]
theorem lay_at {H : Hp} : ∀ (as : List Addr) (os : List HO) (j : Nat) (a : Addr) (o : HO), as.Nodup → as[j]? = some a → os[j]? = some o → lay H as os a = some o
  | [], _, j, a, o, _, h, _ => by simp at h
  | _ :: _, [], j, a, o, _, _, h => by simp at h
  | b :: as, u :: os, 0, a, o, _, h1, h2 => by
    rw [List.getElem?_cons_zero] at h1 h2
    cases h1; cases h2
    exact upd_same
  | b :: as, u :: os, j + 1, a, o, nd, h1, h2 => by
    rw [List.getElem?_cons_succ] at h1 h2
    rw [List.nodup_cons] at nd
    show upd (lay H as os) b u a = some o
    rw [upd_ne (fun e => nd.1 (by rw [← e]; exact List.mem_of_getElem? h1))]
    exact lay_at as os j a o nd.2 h1 h2
theorem layMany {X : Cx} {pins : List (Addr × Obj)} {σ : L2.St} {H : Hp} {s : Shared} {h' : Heap} {t' : Nat} {as : List Addr} {os : List HO} (I : Inv X pins σ H s) (k : ∀ b u, s.heap.get? b = some u → h'.get? b = some u)
    (nd : as.Nodup) (hl : as.length = os.length) (hn : ∀ (j : Nat) (a : Addr) (o : HO), as[j]? = some a → os[j]? = some o → s.heap.objs.size ≤ a ∧ ∃ xs, o = HO.tup xs ∧ xs.length ≤ sizeLine ∧ ∃ its : List Value, Vals xs its ∧ IsTup h' a its.toArray) :
    Inv X pins σ (lay H as os) { s with heap := h', toks := t' } := by
  have old : ∀ b ∈ as, s.heap.objs.size ≤ b := fun b hb => by
    obtain ⟨j, hj⟩ := List.getElem?_of_mem hb
    have hjl : j < os.length := by rw [← hl]; exact (List.getElem?_eq_some_iff.mp hj).1
    exact (hn j b os[j] hj (List.getElem?_eq_getElem hjl)).1
  have out : ∀ b o, s.heap.get? b = some o → b ∉ as := fun b o e hb => Nat.lt_irrefl _ (Nat.lt_of_lt_of_le (Heap.lt_size e) (old b hb))
  have outH : ∀ b o, H b = some o → b ∉ as := fun b o e hb => Nat.lt_irrefl _ (Nat.lt_of_lt_of_le ((I.hok b o e).lt) (old b hb))
  have sub : ∀ b o, H b = some o → lay H as os b = some o := fun b o e => by rw [lay_out as os (outH b o e)]; exact e
  refine I.un ⟨fun b u q _ _ _ => k b u q, fun b u q _ _ _ => ⟨u.slots, k b u q⟩, fun b u q n _ => by rw [lay_out as os (out b u q)]; exact n, fun b u q _ => ⟨u, k b u q⟩, fun b xs q => sub b _ q, fun b u xs q => sub b _ q, fun b ps q => ⟨#[], by rw [sub b _ q]; simp⟩⟩ fun b u e => ?_
  by_cases hb : b ∈ as
  · obtain ⟨j, hj⟩ := List.getElem?_of_mem hb
    have hjl : j < os.length := by rw [← hl]; exact (List.getElem?_eq_some_iff.mp hj).1
    have e2 := lay_at (H := H) as os j b os[j] nd hj (List.getElem?_eq_getElem hjl)
    rw [e2] at e
    cases e
    obtain ⟨_, xs, q, z, its, r, p⟩ := hn j b os[j] hj (List.getElem?_eq_getElem hjl)
    rw [q]
    exact ⟨z, its, r, p⟩
  · rw [lay_out as os hb] at e
    exact (I.hok b u e).stay (fun c v _ q => k c v q) (fun c q => sub c _ q) fun c xs q => sub c _ q
def tTupZip (K : PySem.W.Frag) (t : L2.TA) : TE := fun σ H Q => t σ H fun vs H1 => ∃ (z : PySem.Str) (a : Addr) (ys : List V), vs = [.str z, .ref a] ∧ (SqT K H1 a ys ∨ SqL K H1 a ys) ∧ ys.length ≤ z.cps.size ∧ ys.length ≤ 1000 ∧
  ∀ H' p as, Sub H1 H' → H' p = some (.tup (rV as)) → A2 (fun q iv => ∃ c, z.cps[iv.1]? = some c ∧ H' q = some (.tup [.str ⟨#[c]⟩, iv.2])) as ((List.range ys.length).zip ys) → Q (.ref p) H'
theorem tupzip_end {X : Cx} {pins : List (Addr × Obj)} {σ : L2.St} {H1 : Hp} {s1 : Shared} {h' : Heap} {Q : VK} {z : PySem.Str} {tk0 : Tok} {a : Addr} {ys : List V} {its : List Value} {St2 : Nat → Heap → Prop} (I1 : Inv X pins σ H1 s1) (hnd : X.A.handled = none) (rv : Vals ys its)
    (hk : ∀ c o, s1.heap.get? c = some o → h'.get? c = some o) (hz : IsZip h' (s1.heap.objs.size + 4) (s1.heap.objs.size + 2) (s1.heap.objs.size + 3) .none) (hTI : IsTupOf2 h' (s1.heap.objs.size + 2) (.ref s1.heap.objs.size) (.ref (s1.heap.objs.size + 1)))
    (hTO : IsTupOf2 h' (s1.heap.objs.size + 3) .none .none) (g1 : h'.IsStrIter s1.heap.objs.size (strIterType z) z tk0 0) (g2 : St2 0 h') (hsz : h'.objs.size = s1.heap.objs.size + 5)
    (D2 : ∀ A' : Around, A'.handled = none → Draws X.prog X.w A' (s1.heap.objs.size + 1) [s1.heap.objs.size + 1, a] its.toArray.size (fun i v => its.toArray[i]? = some v) St2) (la : a < s1.heap.objs.size)
    (hlen : ys.length ≤ z.cps.size) (hl2 : ys.length ≤ 1000)
    (q : ∀ H' p as, Sub H1 H' → H' p = some (.tup (rV as)) → A2 (fun q iv => ∃ c, z.cps[iv.1]? = some c ∧ H' q = some (.tup [.str ⟨#[c]⟩, iv.2])) as ((List.range ys.length).zip ys) → Q (.ref p) H') :
    wpAny (model X.prog X.w) X.A (call (.type "tuple") [.ref (s1.heap.objs.size + 4)]) (EP X pins σ Q) X.xe { s1 with heap := h' } := by
  have lz : its.toArray.size = ys.length := by rw [List.size_toArray]; exact rv.length.symm
  have ne : ∀ {i j : Nat}, i ≠ j → s1.heap.objs.size + i ≠ s1.heap.objs.size + j := fun h e => h (Nat.add_left_cancel e)
  have na : ∀ {i : Nat}, s1.heap.objs.size + i ≠ a := fun e => by
    rw [← e] at la
    exact Nat.lt_irrefl _ (Nat.lt_of_le_of_lt (Nat.le_add_right _ _) la)
  have ne0 : ∀ {i : Nat}, 0 ≠ i → s1.heap.objs.size + i ≠ s1.heap.objs.size := fun h e => h (Nat.add_left_cancel (n := s1.heap.objs.size) (by rw [Nat.add_zero]; exact e.symm))
  have D : ZipSep2 (s1.heap.objs.size + 4) (s1.heap.objs.size + 2) (s1.heap.objs.size + 3) s1.heap.objs.size (s1.heap.objs.size + 1) [s1.heap.objs.size] [s1.heap.objs.size + 1, a] := by
    refine ⟨ne (by decide), ne (by decide), ne (by decide), ne0 (by decide), by simp, fun hm => ?_, fun hm => ?_, ne (by decide), by simp, fun hm => ?_, fun hm => ?_, fun hm => ?_, fun hm => ?_⟩
    · exact ne0 (by decide) (List.mem_singleton.mp hm)
    · exact ne0 (by decide) (List.mem_singleton.mp hm)
    · rcases List.mem_cons.mp hm with e | e
      · exact ne (by decide) e
      · exact na (List.mem_singleton.mp e)
    · rcases List.mem_cons.mp hm with e | e
      · exact ne (by decide) e
      · exact na (List.mem_singleton.mp e)
    · rcases List.mem_cons.mp hm with e | e
      · exact ne0 (i := 1) (by decide) e.symm
      · exact na (i := 0) (List.mem_singleton.mp e)
    · exact ne0 (by decide) (List.mem_singleton.mp hm)
  refine call_tuple_zip (s := { s1 with heap := h' }) D (Draws.text (show X.A.in1.in1.in1.in1.handled = none from hnd) s1.heap.objs.size z tk0) (D2 X.A.in1.in1.in1.in1 hnd) (by rw [lz]; exact hlen) (by rw [lz]; exact hl2) hz hTI hTO g1 g2 (fun b hb => ?_) (fun b hb => ?_) fun h2 tk Ts hk2 hTl ho => ?_
  · rw [List.mem_singleton.mp hb]
    show _ < h'.objs.size
    rw [hsz]; exact Nat.lt_add_of_pos_right (by decide)
  · show b < h'.objs.size
    rw [hsz]
    rcases List.mem_cons.mp hb with e | e
    · rw [e]; exact Nat.add_lt_add_left (by decide) _
    · rw [List.mem_singleton.mp e]; exact Nat.lt_add_right _ la
  · have kk : ∀ b o, s1.heap.get? b = some o → h2.get? b = some o := fun b o e => by
      have hb := Heap.lt_size e
      exact hk2 b o (fun x => Nat.lt_irrefl _ (Nat.lt_of_le_of_lt (Nat.le_add_right _ _) (x ▸ hb))) (fun x => Nat.lt_irrefl _ (Nat.lt_of_le_of_lt (Nat.le_add_right _ _) (x ▸ hb))) (fun x => Nat.lt_irrefl _ (x ▸ hb)) (fun x => Nat.lt_irrefl _ (Nat.lt_of_le_of_lt (Nat.le_add_right _ _) (x ▸ hb))) (hk b o e)
    have hTl' : Ts.length = ys.length := by rw [hTl, lz]
    have base : ∀ T ∈ Ts, s1.heap.objs.size ≤ T := fun T hT => by
      obtain ⟨j, hj⟩ := List.getElem?_of_mem hT
      have q0 := (ho.at_ j T hj).1
      have : h'.objs.size ≤ T := q0
      rw [hsz] at this
      exact Nat.le_trans (Nat.le_add_right _ _) this
    -- what the tuples hold
    have cps : ∀ j, j < ys.length → ∃ c, z.cps[j]? = some c := fun j hj => ⟨z.cps[j]'(Nat.lt_of_lt_of_le hj hlen), by simp [Nat.lt_of_lt_of_le hj hlen]⟩
    have I2 : Inv X pins σ (lay H1 Ts ((List.range ys.length).zip ys |>.map fun iv => .tup [.str ⟨#[z.cps.getD iv.1 0]⟩, iv.2])) { s1 with heap := h2, toks := tk } := by
      refine layMany I1 kk ho.nd (by rw [List.length_map, List.length_zip, List.length_range, Nat.min_self, hTl']) fun j T o hT hO => ⟨base T (List.mem_of_getElem? hT), ?_⟩
      have hj : j < ys.length := by rw [← hTl']; exact (List.getElem?_eq_some_iff.mp hT).1
      rw [List.getElem?_map] at hO
      have e3 : ((List.range ys.length).zip ys)[j]? = some (j, ys[j]) := List.getElem?_zip_eq_some.mpr ⟨List.getElem?_range hj, List.getElem?_eq_getElem hj⟩
      rw [e3] at hO
      cases hO
      obtain ⟨_, _, x1, x2, ⟨c, u, hc, rfl⟩, y2, p⟩ := ho.at_ j T hT
      refine ⟨_, rfl, by show 2 ≤ sizeLine; decide, [.str ⟨#[c]⟩ u, x2], .cons ⟨u, ?_⟩ (.cons ?_ .nil), ⟨_, p, rfl, 0, rfl⟩⟩
      · rw [Array.getD_eq_getD_getElem?, hc]; rfl
      · obtain ⟨v, hv, r⟩ := rv.get (List.getElem?_eq_getElem hj)
        have : its[j]? = some x2 := by simpa using y2
        rw [this] at hv
        cases hv
        exact r
    have I3 := I2.laid (t' := tk) (a := h2.objs.size) (o := .tup (rV Ts)) (h' := h2.push { cls := .type "tuple", data := .seq (Ts.map Value.ref).toArray }) (fun b u e => Heap.get?_push_of_some _ e) (Nat.le_refl _)
      ⟨by rw [rV_len, hTl', sizeLine_eq]; omega, Ts.map Value.ref, ?_, ⟨_, Heap.get?_push_size _ rfl, rfl, 0, rfl⟩⟩
    · have hf : lay H1 Ts ((List.range ys.length).zip ys |>.map fun iv => .tup [.str ⟨#[z.cps.getD iv.1 0]⟩, iv.2]) h2.objs.size = none := I2.hok.fresh (Nat.le_refl _)
      refine ⟨.ref h2.objs.size, _, I3, rfl, q _ _ Ts ?_ upd_same ?_⟩
      · have s1' : Sub H1 (lay H1 Ts ((List.range ys.length).zip ys |>.map fun iv => .tup [.str ⟨#[z.cps.getD iv.1 0]⟩, iv.2])) := fun b o e => by
          rw [lay_out Ts _ fun hb => Nat.lt_irrefl _ (Nat.lt_of_lt_of_le ((I1.hok b o e).lt) (base b hb))]; exact e
        exact s1'.new hf
      · refine ⟨by rw [List.length_zip, List.length_range, Nat.min_self, hTl'], fun j T iv hT hiv => ?_⟩
        have hj : j < ys.length := by rw [← hTl']; exact (List.getElem?_eq_some_iff.mp hT).1
        have e3 : ((List.range ys.length).zip ys)[j]? = some (j, ys[j]) := List.getElem?_zip_eq_some.mpr ⟨List.getElem?_range hj, List.getElem?_eq_getElem hj⟩
        rw [e3] at hiv
        cases hiv
        obtain ⟨c, hc⟩ := cps j hj
        refine ⟨c, hc, ?_⟩
        have e4 := lay_at (H := H1) Ts ((List.range ys.length).zip ys |>.map fun iv => .tup [.str ⟨#[z.cps.getD iv.1 0]⟩, iv.2]) j T _ ho.nd hT (by rw [List.getElem?_map, e3]; rfl)
        rw [upd_ne (fun e => by rw [e, hf] at e4; cases e4), e4]
        show some (HO.tup [V.str ⟨#[z.cps.getD j 0]⟩, ys[j]]) = _
        rw [Array.getD_eq_getD_getElem?, hc]; rfl
    · exact (show ∀ l : List Addr, Vals (rV l) (l.map Value.ref) from fun l => by
        induction l with
        | nil => exact .nil
        | cons x r ih => exact .cons rfl ih) Ts
theorem pe_tupZip {X : Cx} {e e2 : Expr} {t : L2.TA} {p pos p2 pos2 : Pos} (hg : Gl X "tuple") (hm : X.mg "tuple" = none) (hgz : Gl X "zip") (hmz : X.mg "zip" = none) (ha : PA X [e, e2] t)
    (hh : X.calm = true := by rfl) (hs : starEach [e, e2] X.env = (false, eval e X.env) :: starEach [e2] X.env := by rfl) (hpl : (backTo pos2 (starEach [e2] X.env)).any (·.1) = false := by rfl)
    (he : starEach [(.Call (.Name "zip" p2) [e, e2] [] pos2 : Expr)] X.env = (false, eval (.Call (.Name "zip" p2) [e, e2] [] pos2) X.env) :: starEach [] X.env := by rfl) :
    PE X (.Call (.Name "tuple" p) [.Call (.Name "zip" p2) [e, e2] [] pos2] [] pos) (tTupZip X.K t) := by
  refine ⟨fun pins s σ H Q I h => ?_⟩
  refine wpAny_Call_Name_kw (ld_blt I hg hm (show bootBuiltins "tuple" = some (.type "tuple") by decide +kernel) ?_ (by decide) (by decide))
  refine PyProof.Rows.callWith_type1 ?_ he rfl
  rw [he]
  show wpAny _ _ (spliced ((false, eval (.Call (.Name "zip" p2) [e, e2] [] pos2) X.env) :: backTo pos (starEach [] X.env))) _ _ s
  refine Calls.spliced_cons ?_
  refine Call_ (ld_blt I hgz hmz PyProof.Rows.boot_zip (PyProof.Rows.callWith_type1 (thn (ha.run pos2 pins s σ H _ I h) fun us s1 ⟨vs, H1, I1, r1, q1⟩ => ?_) hs hpl))
  obtain ⟨z, a, ys, ev, hq, hlen, hl2, q⟩ := q1
  subst ev
  cases r1 with
  | cons ra rr =>
  cases rr with
  | cons rb rr =>
  cases rr
  obtain ⟨tk0, rfl⟩ := ra
  cases rb
  have hnd := I1.ok.hd hh
  rcases hq with hq | hq
  · obtain ⟨its, rv, p', _⟩ := I1.tuple hq
    refine zip_begins2 (begins_text z tk0) (begins_tuple a its.toArray) trivial p' fun h' hz hTI hTO g1 g2 hsz hk => Calls.spliced_nil ?_
    exact tupzip_end (St2 := fun i h => h.IsTupleIter (s1.heap.objs.size + 1) a i ∧ h.IsTuple a its.toArray) I1 hnd rv hk hz hTI hTO ⟨_, g1, rfl, rfl⟩ ⟨⟨_, g2, rfl, rfl⟩, Heap.IsTuple.at p' fun o e => hk _ _ e⟩ hsz (fun A' hA => Draws.tuple hA _ a (Nat.ne_of_lt (Nat.lt_succ_of_lt p'.lt)) its.toArray) p'.lt hlen hl2 q
  · obtain ⟨its, rv, p', _⟩ := I1.list hq
    refine zip_begins2 (begins_text z tk0) (begins_list a its.toArray) trivial p'.isList fun h' hz hTI hTO g1 g2 hsz hk => Calls.spliced_nil ?_
    exact tupzip_end (St2 := fun i h => h.IsListIter (s1.heap.objs.size + 1) a i ∧ h.IsList a its.toArray) I1 hnd rv hk hz hTI hTO ⟨_, g1, rfl, rfl⟩ ⟨⟨_, g2, rfl, rfl⟩, p'.isList.at fun o e => hk _ _ e⟩ hsz (fun A' hA => Draws.list hA _ a (Nat.ne_of_lt (Nat.lt_succ_of_lt p'.lt)) its.toArray) p'.lt hlen hl2 q
end Bt
end
section
set_option Elab.async false
set_option linter.all false
set_option maxRecDepth 100000
set_option maxHeartbeats 2000000
set_option autoImplicit false
namespace Bt
open PySem PySem.Spec PyProof.Rows L2 Rz
section
variable {P : Program} {w : World} {K : PySem.W.Frag} {mg : PySem.Str → Option Value} {base : Heap}
local macro_rules | `(tactic| walk_at "sd") => `(tactic| first
  | rfl | assumption
  | exact Sub.at ‹Sub _ _› (by assumption)
  | exact SqL.of (by assumption) | exact SqT.of (by assumption) | exact SqL.of (Sub.at ‹Sub _ _› (by assumption)) | exact SqT.of (Sub.at ‹Sub _ _› (by assumption))
  | exact Or.inl (SqL.of (by assumption)) | exact Or.inr (SqT.of (by assumption)) | exact Or.inl (SqL.of (Sub.at ‹Sub _ _› (by assumption))) | exact Or.inr (SqT.of (Sub.at ‹Sub _ _› (by assumption)))
  | exact ClsV.ty _ | exact TyX.base (.int _) | exact TyX.base (.str _) | exact TyX.base (.tup (by assumption)) | exact kit_int | exact kit_ib | exact kit_ss | exact kit_tt)
local macro_rules | `(tactic| walk_at "rd1") => `(tactic| first
  | (apply Exists.intro)
  | (refine And.intro ?_ ?_; (focus (walk_at "sd")))
  | (refine L2.iteT ?_)
  | (refine L2.iteF ?_))
local macro_rules | `(tactic| walk_at "rd") => `(tactic| repeat (walk_at "rd1"))
local macro_rules | `(tactic| walk_at "se") => `(tactic| first
  | rfl | assumption
  | exact Sub.at ‹Sub _ _› (by assumption)
  | exact SqL.of (by assumption) | exact SqT.of (by assumption) | exact SqL.of (Sub.at ‹Sub _ _› (by assumption)) | exact SqT.of (Sub.at ‹Sub _ _› (by assumption))
  | exact Or.inl (SqL.of (by assumption)) | exact Or.inr (SqT.of (by assumption)) | exact Or.inl (SqL.of (Sub.at ‹Sub _ _› (by assumption))) | exact Or.inr (SqT.of (Sub.at ‹Sub _ _› (by assumption)))
  | exact TRaw.ins ‹TRaw _ _ _ _ _› | exact TA.miss
  | exact TRaw.n ‹TRaw _ _ _ _ _›
  | exact TRaw.z ‹TRaw _ _ _ _ _›
  | exact TRaw.d ‹TRaw _ _ _ _ _›
  | exact TRaw.r ‹TRaw _ _ _ _ _›
  | exact TRaw.f ‹TRaw _ _ _ _ _›
  | exact TRaw.l ‹TRaw _ _ _ _ _›
  | exact TRaw.u ‹TRaw _ _ _ _ _›
  | exact TRaw.w ‹TRaw _ _ _ _ _› | exact TRaw.a ‹TRaw _ _ _ _ _› rfl
  | exact SqL.of (TRaw.n ‹TRaw _ _ _ _ _›)
  | exact SqL.of (TRaw.z ‹TRaw _ _ _ _ _›)
  | exact SqL.of (TRaw.d ‹TRaw _ _ _ _ _›)
  | exact SqL.of (TRaw.r ‹TRaw _ _ _ _ _›)
  | exact SqL.of (TRaw.f ‹TRaw _ _ _ _ _›)
  | exact SqL.of (TRaw.l ‹TRaw _ _ _ _ _›)
  | exact SqL.of (TRaw.u ‹TRaw _ _ _ _ _›)
  | exact SqL.of (TRaw.w ‹TRaw _ _ _ _ _›) | exact SqL.of (TRaw.a ‹TRaw _ _ _ _ _› rfl)
  | exact ClsV.ty _ | exact TyX.base (.int _) | exact TyX.base (.str _) | exact TyX.base (.tup (by assumption)) | exact kit_int | exact kit_ib | exact kit_ss | exact kit_tt)
local macro_rules | `(tactic| walk_at "re1") => `(tactic| first
  | (apply Exists.intro)
  | (refine And.intro ?_ ?_; (focus (walk_at "se")))
  | (refine L2.iteT ?_)
  | (refine L2.iteF ?_))
local macro_rules | `(tactic| walk_at "re") => `(tactic| repeat (walk_at "re1"))

theorem sc_Walker_scene_after : FnScope ["self", "edit", "marks", "time", "seen", "word", "values", "mark", "place", "steps", "later"] ["self", "edit"] (defScope s_Walker_scene_after) := ⟨rfl, rfl, rfl, by decide +kernel, rfl, by decide +kernel, by decide +kernel⟩
theorem sc_Walker_perform : FnScope ["self", "edit"] ["self", "edit"] (defScope s_Walker_perform) := ⟨rfl, rfl, rfl, by decide +kernel, rfl, by decide +kernel, by decide +kernel⟩
theorem sc_Walker_go : FnScope ["self", "steps"] ["self", "steps"] (defScope s_Walker_go) := ⟨rfl, rfl, rfl, by decide +kernel, rfl, by decide +kernel, by decide +kernel⟩
theorem sc_Walker_back_in : FnScope ["self", "marks", "found", "place", "mark"] ["self", "marks"] (defScope s_Walker_back_in) := ⟨rfl, rfl, rfl, by decide +kernel, rfl, by decide +kernel, by decide +kernel⟩
theorem Tx.limit (T : Tx K mg) : ∃ t, Con K (cW K) "LIMIT" (.int 60) (.int 60 t) := by
  have h := (He.ba (He.ba (He.ba (He.ba (He.ba T.exb).2).2).2).2).1
  unfold conB at h
  split at h
  · rename_i j t e
    obtain ⟨h1, h2⟩ := He.ba h
    obtain rfl : j = 60 := of_decide_eq_true h1
    exact ⟨t, ⟨e, ⟨t, rfl⟩, He.eqO_ok h2, by decide +kernel⟩⟩
  · cases h
/-- an edit that goes -/
def moveM (D : WD) (st : Int) : List (PySem.Str × Int) := D.ms.map fun x => (x.1, it (mv D.ls D.od) st.toNat x.2)
abbrev sp_Walker_scene_after (K : PySem.W.Frag) : Sp := P2 fun a b H Q => ∃ (W : WA) (D : WD) (ed : Addr) (st : Int), a = .ref W.w ∧ b = .ref ed ∧ H ed = some (.tup [.str "go", .int st]) ∧ WOk K H W D ∧ 0 ≤ st ∧ st ≤ 1000000000000000000 ∧
  ∀ H' q m as, Sub H H' → H' q = some (.tup [.ref m, .int (D.tm + st), .int 0]) → H' m = some (.tup (rV as)) → A2 (pM H') as (moveM D st) → Q (.ref q) H'
theorem ok_Walker_scene_after (T : Tx K mg) : Gm P w K mg base 5 (cW K) "scene_after" ["self", "edit"] [] (sp_Walker_scene_after K) := by
  refine mkm T.F_Walker_scene_after T.c_Walker T.m_Walker_scene_after sc_Walker_scene_after P2.ar (fun _ _ _ _ _ _ us hl => match us, hl with | [_, _], _ => rfl) fun cdv A0 outer s0 H vs Q E hr h => ?_
  obtain ⟨_, _, rfl, W, D, ed, st, rfl, rfl, hed, hw, st0, st1, hq⟩ := h
  have cc := T.c_Walker
  have x1 := T.a_Walker_scenes
  have x2 := T.a_Walker_turning
  have hi := hw.ins
  obtain ⟨q, m, rs, as, hs⟩ := hw.sc
  have l1 := atI_last (xs := rs) (x := .ref q) (by have := hs.len; have := hw.ok.kn; omega)
  have l2 := hs.sc
  have l3 := hs.at_
  refine ⟨_, (pss_cons (ps_asg (pe_ix ix_tup (pe_fld (pv 0) rfl) (pe_un un_neg pe_int) (fun _ _ => rfl)) (pg_tup rfl (pgs_cons (pg_name (i := 2) sc_Walker_scene_after.nd rfl (by first | exact .inl rfl | exact .inr rfl)) (pgs_cons (pg_name (i := 3) sc_Walker_scene_after.nd rfl (by first | exact .inl rfl | exact .inr rfl)) (pgs_cons (pg_name (i := 4) sc_Walker_scene_after.nd rfl (by first | exact .inl rfl | exact .inr rfl)) pgs_nil)))))
  (pss_cons (ps_asg (pv 1) (pg_star rfl (pgs_cons (pg_name (i := 5) sc_Walker_scene_after.nd rfl (by first | exact .inl rfl | exact .inr rfl)) (pgs_cons (pg_name (i := 6) sc_Walker_scene_after.nd rfl (by first | exact .inl rfl | exact .inr rfl)) pgs_nil))))
  (pss_cons (ps_if (pt_cmpR op_eq (pv 5) (pe_gS T.s_PUT) (nomark _)) pss_never pss_nil)
  (pss_cons (ps_if (pt_cmpR op_eq (pv 5) (pe_gS T.s_TAKE) (nomark _)) pss_never pss_nil)
  (pss_cons (ps_set (i := 9) sc_Walker_scene_after.nd rfl (by first | exact .inl rfl | exact .inr rfl) (pe_ix ix_list (pv 6) pe_int (fun _ _ => rfl)))
  (pss_cons (ps_if (pt_not (pt_val (cl (ok_is_whole T) hr (pa_cons (pv 9) (pa_cons (pe_op op_sub pe_int (pe_gI T.i_MAX_STEPS)) (pa_cons (pe_gI T.i_MAX_STEPS) pa_nil)))))) (pss_one ps_never) pss_nil)
  (pss_cons (ps_set (i := 10) sc_Walker_scene_after.nd rfl (by first | exact .inl rfl | exact .inr rfl) (pe_callTy call_tuple_of rfl T.n_tuple (by decide +kernel) (pa_cons (pe_lc (own := [("mark", 7), ("place", 8)]) (g := (gTup K 2 (gCons (gName 7) (gCons (gName 8) gNil)))) (tt := tYes) (te := (tTup (tCons (tVar 7) (tCons (tCall (sp_place_in K) [] E0 (tCons (tFld K (tVar 0) "turning") (tCons (tVar 8) (tCons (tVar 9) tNil)))) tNil)))) rfl sc_Walker_scene_after.nd (pi_tup (pv 2)) (blkOk_by (N := ["self", "edit", "marks", "time", "seen", "word", "values", "mark", "place", "steps", "later"]) (sc := defScope s_Walker_scene_after) (by decide +kernel)) (fun _ _ _ _ _ => (pg_tup rfl (pgs_cons (pg_name (i := 7) sc_Walker_scene_after.nd rfl (by first | exact .inl rfl | exact .inr rfl)) (pgs_cons (pg_name (i := 8) sc_Walker_scene_after.nd rfl (by first | exact .inl rfl | exact .inr rfl)) pgs_nil)))) (fun _ _ _ _ _ => pts_nil) (fun _ _ _ _ _ => (pe_tup (pa_cons (pv 7) (pa_cons (cl (ok_place_in T) hr (pa_cons (pe_fld (pv 0) rfl) (pa_cons (pv 8) (pa_cons (pv 9) pa_nil)))) pa_nil))))) pa_nil)))
  (pss_one (ps_ret (pe_tup (pa_cons (pv 10) (pa_cons (pe_op op_add (pv 3) (pv 9)) (pa_cons (pe_op op_add (pv 4) (cm (ok_Walker_gained T) hr (pv 0) (pa_cons (pv 2) (pa_cons (pv 9) pa_nil)))) pa_nil))))))))))))), ?_⟩
  have l4 := hs.ms
  walk_at "re"
  refine ⟨by show 1 ≤ 1000; decide, fun p np => ?_⟩
  have s1 : Sub H (upd H p (.lst [.int st])) := Sub.rfl'.new np
  have hp1 : (upd H p (.lst [.int st])) p = some (.lst [.int st]) := upd_same
  generalize upd H p (.lst [.int st]) = H1 at s1 hp1 ⊢
  have st0' : atI [V.int st] 0 = some (.int st) := rfl
  walk_at "re"
  refine ifF (by rw [decide_eq_true (by omega)]; decide) ?_
  have hTk := hw.tok
  have hd := hw.ok.done
  have hex := hw.ok.ok.ex
  walk_at "re"
  refine ⟨⟨_, SqT.of (s1.at l4)⟩, fun D0 hD0 => lc_col (walk_tup (xs := rV as)) hD0 (by rw [rV_len, hs.all.len]; have := hw.ok.ml; omega) (fun i v H' => ∃ a x, v = .ref a ∧ (moveM D st)[i]? = some x ∧ pM H' a x)
    (fun i v Ha Hb l hl hs ⟨a, x, e, h1, h2⟩ => ⟨a, x, e, h1, hs.at (msk_at h2 (by
      intro z
      have z' : a = D0 := by simpa using z
      have h3 : Ha a = _ := h2
      rw [z', hl] at h3; cases h3))⟩) (fun Hc hc => SqT.of ((s1.tr hc).at l4)) (fun i v Hc Hd hi2 hc hy Q' Nx hq' => ?_) fun acc Hc hc hac hl hR => ?_⟩
  · obtain ⟨rfl, hv⟩ := hy
    obtain ⟨a, ha, rfl⟩ := rV_inv hv
    obtain ⟨y, hy, hp⟩ := hs.all.get' ha
    have sc := s1.tr hc
    have hi3 := sc.at hi
    have hTk3 := hTk.sub sc
    obtain ⟨y0, y1⟩ := hw.ok.pl y (List.mem_of_getElem? hy)
    refine ⟨a, _, rfl, SqT.of (sc.at hp), rfl, ?_⟩
    walk_at "re"
    intro H4 s4
    refine ⟨by show 2 ≤ sizeLine; decide, fun t nt => ?_⟩
    exact hq' _ _ (s4.new nt) ⟨t, (y.1, it (mv D.ls D.od) st.toNat y.2), rfl, by unfold moveM; rw [List.getElem?_map, hy]; rfl, upd_same⟩
  · obtain ⟨as2, rfl, hA2⟩ : ∃ as2, acc = rV as2 ∧ A2 (pM Hc) as2 (moveM D st) := acc_of acc (moveM D st) (by rw [hl, rV_len, hs.all.len]; unfold moveM; rw [List.length_map]) hR
    have sc := s1.tr hc
    have hi3 := sc.at hi
    refine ⟨_, _, rfl, .inl ⟨SqL.of hac, fun l nl => ?_⟩⟩
    have s2 : Sub Hc (upd Hc l (.tup (rV as2))) := Sub.rfl'.new nl
    have hl2 : (upd Hc l (.tup (rV as2))) l = some (.tup (rV as2)) := upd_same
    generalize upd Hc l (.tup (rV as2)) = H5 at s2 hl2 ⊢
    have hi5 := s2.at hi3
    walk_at "re"
    refine ⟨by show 3 ≤ sizeLine; decide, fun r nr => ?_⟩
    exact hq _ r l as2 ((sc.tr s2).new nr) upd_same ((Sub.rfl'.new nr).at hl2) (hA2.mono fun a x z => (s2.new nr).at z)
/-- a new scene, a new edit -/
def WD.gone (D : WD) (st : Int) : WD := { D with ms := moveM D st, tm := D.tm + st, kn := D.kn + 1 }
abbrev sp_Walker_perform (K : PySem.W.Frag) : Sp := P2 fun a b H Q => ∃ (W : WA) (D : WD) (ed : Addr) (st : Int), a = .ref W.w ∧ b = .ref ed ∧ H ed = some (.tup [.str "go", .int st]) ∧ WOk K H W D ∧ D.kn < 60 ∧ 0 ≤ st ∧ st ≤ 1000000000000000000 ∧
  ∀ H' W', Sub (msk [W.w] H) H' → W'.w = W.w → W'.t = W.t → WOk K H' W' (D.gone st) → Q (.int ((D.kn + 1 : Nat) : Int)) H'
theorem ok_Walker_perform (T : Tx K mg) : Gm P w K mg base 6 (cW K) "perform" ["self", "edit"] [] (sp_Walker_perform K) := by
  refine mkm T.F_Walker_perform T.c_Walker T.m_Walker_perform sc_Walker_perform P2.ar (fun _ _ _ _ _ _ us hl => match us, hl with | [_, _], _ => rfl) fun cdv A0 outer s0 H vs Q E hr h => ?_
  obtain ⟨_, _, rfl, W, D, ed, st, rfl, rfl, hed, hw, hk, st0, st1, hq⟩ := h
  have cc := T.c_Walker
  have x1 := T.a_Walker_scenes
  have x2 := T.a_Walker_kept
  have hi := hw.ins
  obtain ⟨ks, k1, k2⟩ := hw.kp
  obtain ⟨t60, con⟩ := T.limit
  refine ⟨_, (pss_cons (ps_if (pt_cmpR op_eq (pe_callB call_len_seq rfl T.n_len (by decide +kernel) (pa_cons (pe_fld (pv 0) rfl) pa_nil)) (pe_con (pv 0) rfl) (nomark _)) (pss_one ps_never) pss_nil)
  (pss_cons (ps_fld (pv 0) (pe_tup (StX.pa_star (pe_fld (pv 0) rfl) (pa_cons (cm (ok_Walker_scene_after T) hr (pv 0) (pa_cons (pv 1) pa_nil)) pa_nil))) rfl)
  (pss_cons (ps_fld (pv 0) (pe_tup (StX.pa_star (pe_fld (pv 0) rfl) (pa_cons (pv 1) pa_nil))) rfl)
  (pss_one (ps_ret (pe_callB call_len_seq rfl T.n_len (by decide +kernel) (pa_cons (pe_fld (pv 0) rfl) pa_nil))))))), ?_⟩
  obtain ⟨q, m, rs, as, hs⟩ := hw.sc
  have l2 := hs.sc
  walk_at "re"
  refine ifF (by simp; omega) ?_
  walk_at "re"
  refine ⟨.inl (SqT.of l2), ?_⟩
  walk_at "re"
  intro H1 r m2 as2 s1 hr1 hm1 hA1
  have hi1 := s1.at hi
  refine ⟨by have := hs.len; simp; rw [sizeLine_eq]; omega, fun p np => ?_⟩
  have s2 : Sub H1 (upd H1 p (.tup ((rs ++ [.ref q]) ++ [.ref r]))) := Sub.rfl'.new np
  have hp2 : (upd H1 p (.tup ((rs ++ [.ref q]) ++ [.ref r]))) p = some (.tup ((rs ++ [.ref q]) ++ [.ref r])) := upd_same
  generalize hH2 : upd H1 p (.tup ((rs ++ [.ref q]) ++ [.ref r])) = H2 at s2 hp2
  have hi2 := s2.at hi1
  clear hH2
  have nq : ∀ {a : Addr} {ys : List V}, H2 a = some (.tup ys) → a ∉ [W.w] := fun h z => by rw [List.mem_singleton.mp z, hi2] at h; cases h
  have nk : W.kp ∉ [W.w] := nq (s2.at (s1.at k1))
  refine ⟨_, rfl, W.w, _, _, _, rfl, hi2, cc, x1, by show 5 < 1000; decide, ?_⟩
  generalize hH3 : upd H2 W.w (.ins (cW K) W.dx (putF "scenes" (.ref p) W.fs)) = H3
  have e3 : msk [W.w] H3 = msk [W.w] H2 := by rw [← hH3]; exact msk_upd (by simp)
  have hi3 : H3 W.w = some (.ins (cW K) W.dx (putF "scenes" (.ref p) W.fs)) := by rw [← hH3]; exact upd_same
  have m3 : Sub (msk [W.w] H) H3 := by rw [← hH3]; exact (msk_sub.tr (s1.tr s2)).upd (msk_in (by simp))
  clear hH3
  have kp3 := m3.at (msk_at k1 nk)
  walk_at "re"
  refine ⟨.inl (SqT.of kp3), ?_⟩
  walk_at "re"
  refine ⟨by simp; rw [sizeLine_eq]; omega, fun p4 n4 => ?_⟩
  have s4 : Sub H3 (upd H3 p4 (.tup (ks ++ [.ref ed]))) := Sub.rfl'.new n4
  have hp4 : (upd H3 p4 (.tup (ks ++ [.ref ed]))) p4 = some (.tup (ks ++ [.ref ed])) := upd_same
  generalize upd H3 p4 (.tup (ks ++ [.ref ed])) = H4 at s4 hp4 ⊢
  have hi4 := s4.at hi3
  have n4w : p4 ∉ [W.w] := fun z => by rw [List.mem_singleton.mp z, hi4] at hp4; cases hp4
  refine ⟨_, rfl, W.w, _, _, _, rfl, hi4, cc, x2, by show 5 < 1000; decide, ?_⟩
  generalize hH5 : upd H4 W.w (.ins (cW K) W.dx (putF "kept" (.ref p4) (putF "scenes" (.ref p) W.fs))) = H5
  have e5 : msk [W.w] H5 = msk [W.w] H4 := by rw [← hH5]; exact msk_upd (by simp)
  have hi5 : H5 W.w = some (.ins (cW K) W.dx (putF "kept" (.ref p4) (putF "scenes" (.ref p) W.fs))) := by rw [← hH5]; exact upd_same
  have m5 : Sub (msk [W.w] H) H5 := by rw [← hH5]; exact (m3.tr s4).upd (msk_in (by simp))
  have hp5 : H5 p4 = some (.tup (ks ++ [.ref ed])) := by
    rw [← hH5, upd_ne (fun z => n4w (by rw [z]; simp))]; exact hp4
  clear hH5
  walk_at "re"
  have lk : (ks ++ [V.ref ed]).length = D.kn + 1 := by rw [List.length_append, k2]; rfl
  rw [lk]
  have k24 : Sub (msk [W.w] H2) (msk [W.w] H5) := by rw [e5, ← e3]; exact msk_mono s4
  have k04 : Sub (msk [W.w] H) (msk [W.w] H5) := (msk_mono (s1.tr s2)).tr k24
  have up : ∀ {a : Addr} {ys : List V}, H2 a = some (.tup ys) → msk [W.w] H5 a = some (.tup ys) := fun h => k24.at (msk_at h (nq h))
  refine hq H5 { W with sc := p, kp := p4 } m5 rfl rfl ⟨hi5, ⟨(hw.inn.ex).sub k04, (hw.inn.tok).sub k04, ⟨r, m2, rs ++ [.ref q], as2, up hp2, by rw [List.length_append, hs.len]; rfl, up (s2.at hr1), up (s2.at hm1), hA1.mono fun a x z => up (s2.at z)⟩, ⟨_, by rw [e5]; exact msk_at hp4 n4w, lk⟩⟩, ?_⟩
  refine ⟨hw.ok.ok, hw.ok.done, fun x hx => ?_, ?_, ?_, by show D.kn + 1 ≤ 60; omega⟩
  · obtain ⟨y, hy, rfl⟩ := List.mem_map.mp hx
    have ex := hw.ok.ok.ex
    exact it_range (fun p a b => mv_range ex a b) _ _ (hw.ok.pl y hy).1 (hw.ok.pl y hy).2
  · show ((moveM D st).map (·.1)).Nodup
    have : (moveM D st).map (·.1) = D.ms.map (·.1) := by unfold moveM; rw [List.map_map]; rfl
    rw [this]; exact hw.ok.nd
  · show (moveM D st).length ≤ 4
    unfold moveM; rw [List.length_map]; exact hw.ok.ml
abbrev sp_Walker_go (K : PySem.W.Frag) : Sp := P2 fun a b H Q => ∃ (W : WA) (D : WD) (st : Int), a = .ref W.w ∧ b = .int st ∧ WOk K H W D ∧ D.kn < 60 ∧ 0 ≤ st ∧ st ≤ 1000000000000000000 ∧
  ∀ H' W', Sub (msk [W.w] H) H' → W'.w = W.w → W'.t = W.t → WOk K H' W' (D.gone st) → Q (.int ((D.kn + 1 : Nat) : Int)) H'
theorem ok_Walker_go (T : Tx K mg) : Gm P w K mg base 7 (cW K) "go" ["self", "steps"] [] (sp_Walker_go K) := by
  refine mkm T.F_Walker_go T.c_Walker T.m_Walker_go sc_Walker_go P2.ar (fun _ _ _ _ _ _ us hl => match us, hl with | [_, _], _ => rfl) fun cdv A0 outer s0 H vs Q E hr h => ?_
  obtain ⟨_, _, rfl, W, D, st, rfl, rfl, hw, hk, st0, st1, hq⟩ := h
  have hi := hw.ins
  refine ⟨_, (pss_cons (ps_expr (cm0 (ok_Walker_require_idle T) hr (pv 0)))
  (pss_one (ps_ret (cm (ok_Walker_perform T) hr (pv 0) (pa_cons (pe_tup (pa_cons (pe_gS T.s_GO) (pa_cons (pv 1) pa_nil))) pa_nil))))), ?_⟩
  walk_at "re"
  refine ⟨by show 2 ≤ sizeLine; decide, fun ed ne => ?_⟩
  have s1 : Sub H (upd H ed (.tup [.str "go", .int st])) := Sub.rfl'.new ne
  refine ⟨_, _, rfl, W, D, ed, st, rfl, rfl, upd_same, hw.sub s1, hk, st0, st1, fun H' W' m e et hw' => ?_⟩
  exact hq H' W' ((msk_mono s1).tr m) e et hw'
end
end Bt
end
section
set_option Elab.async false
set_option linter.all false
set_option maxRecDepth 100000
set_option maxHeartbeats 2000000
set_option autoImplicit false
namespace Bt
open PySem PySem.Spec PyProof.Rows L2 Rz
section
variable (P : Program) (w : World) (K : PySem.W.Frag) (mg : PySem.Str → Option Value) (base : Heap)
/-- a method with a star parameter; a classmethod -/
structure Gr (k : Nat) (C : Addr) (m : PySem.Str) (sp : Sp) : Prop where
  ex : ∃ f, FnR P w K mg base CX0 k f sp ∧ Cls K C ∧ Meth K C m f
structure Gc (k : Nat) (C : Addr) (m : PySem.Str) (sp : Sp) : Prop where
  ex : ∃ p f, FnR P w K mg base CX0 k f sp ∧ ClX.CRead K C (.type "type") ∧ ClX.CMet K C (.type "type") m p f
end
/-- what a def with a star parameter promises of its arguments as they are written -/
abbrev stSp (n : Nat) (sp : Sp) : Sp := fun vs H Q E => ∃ ws rest, vs = ws ++ rest ∧ ws.length = n ∧ rest.length ≤ sizeLine ∧ ∀ p, H p = Option.none → sp (ws ++ [V.ref p]) (upd H p (.tup rest)) Q E
section
variable {X : Cx} {j k : Nat} {x m : PySem.Str} {C : Addr} {sp : Sp} {e o : Expr} {es : List Expr} {t : L2.TA} {ta : TE} {p pos apos : Pos}
theorem cR {pl : Sem Bool} (G : Gr X.prog X.w X.K X.mg X.base j C m sp) (hr : Room k X.A) (he : PE X o ta) (ha : PA X (e :: es) t) (hjk : j ≤ k := by decide)
    (hst : starEach (e :: es) X.env = (false, eval e X.env) :: starEach es X.env := by rfl) (hpl : (backTo pos (starEach es X.env)).any (·.1) = false := by rfl)
    (ht : eval (.Call (.Attribute o m apos) (e :: es) [] pos) X.env = (do
      let ov ← eval o X.env
      standAt apos.atName
      let (f, first) ← holding [ov] (getMethod ov m pl)
      callWith pos f first (backTo pos (starEach (e :: es) X.env)) (backToKw pos (keywordEach [] X.env))) := by rfl) :
    PE X (.Call (.Attribute o m apos) (e :: es) [] pos) (tMethR C m sp E0 ta t) := by
  obtain ⟨f, F, c, M⟩ := G.ex
  exact pe_methR he c M F (hr.mono hjk) pass0 ha hst hpl ht
/-- C.m(e, ..) -/
theorem cC {pl : Sem Bool} (G : Gc X.prog X.w X.K X.mg X.base j C m sp) (hr : Room k X.A) (gm : X.mg x = some (.ref C)) (ha : PA X (e :: es) t) (hjk : j ≤ k := by decide) (hg : Gl X x := by rfl) (hdb : (x == ("__debug__" : PySem.Str)) = false := by decide)
    (hst : starEach (e :: es) X.env = (false, eval e X.env) :: starEach es X.env := by rfl) (hpl : (backTo pos (starEach es X.env)).any (·.1) = false := by rfl)
    (ht : eval (.Call (.Attribute (.Name x p) m apos) (e :: es) [] pos) X.env = (do
      let ov ← eval (.Name x p) X.env
      standAt apos.atName
      let (f, first) ← holding [ov] (getMethod ov m pl)
      callWith pos f first (backTo pos (starEach (e :: es) X.env)) (backToKw pos (keywordEach [] X.env))) := by rfl) :
    PE X (.Call (.Attribute (.Name x p) m apos) (e :: es) [] pos) (ClX.tCMeth C sp E0 (tC (.ref C)) t) := by
  obtain ⟨q, f, F, c, M⟩ := G.ex
  exact ClX.pe_cmeth (pe_glob hg gm rfl hdb) c M F (hr.mono hjk) pass0 ha hst hpl ht
end
section
variable {P : Program} {w : World} {K : PySem.W.Frag} {mg : PySem.Str → Option Value} {base : Heap}
theorem mkR {x qual pv : PySem.Str} {pa : Arguments} {bd : List Stmt} {sc : Scope} {f : Addr} {N ps : List PySem.Str} {k : Nat} {sp : Sp}
    (F : ∃ fd, FunD K x qual pa bd sc [] [] f fd) (S : FnScope N (ps ++ [pv]) sc)
    (hb : ∀ (kV doc pm : Value) (an : Option Addr) (cdv ct : Value) (us rest : List Value), us.length = ps.length → bindArgs (PySem.W.fnOf x qual pa bd sc .none kV doc pm an cdv ct) ⟨us ++ rest, []⟩ = (newTuple rest >>= fun t => pure (ps.zip us ++ [(pv, t)])))
    (b : Body P w K mg base N qual bd sc f k sp) : FnR P w K mg base CX0 (k + 1) f (stSp ps.length sp) := by
  obtain ⟨fd, F⟩ := F
  obtain ⟨oc, od, dV, kV, doc, pm, an, cdv, ct, osl, e, lk, hcd, hD, hK⟩ := F.ex
  subst e
  rcases hD with ⟨_, q⟩ | ⟨q, _⟩
  · subst q
    refine StX.fn_star lk hcd S StX.cxUp_none (hb kV doc pm an cdv ct) fun A outer s H vs Q E hr h => ?_
    obtain ⟨t, ht, q⟩ := b cdv A outer s H vs Q E hr h
    exact ⟨t, ht.nox, q⟩
  · exact absurd rfl q
local macro_rules | `(tactic| walk_at "sd") => `(tactic| first
  | rfl | assumption
  | exact Sub.at ‹Sub _ _› (by assumption)
  | exact SqL.of (by assumption) | exact SqT.of (by assumption) | exact SqL.of (Sub.at ‹Sub _ _› (by assumption)) | exact SqT.of (Sub.at ‹Sub _ _› (by assumption))
  | exact Or.inl (SqL.of (by assumption)) | exact Or.inr (SqT.of (by assumption)) | exact Or.inl (SqL.of (Sub.at ‹Sub _ _› (by assumption))) | exact Or.inr (SqT.of (Sub.at ‹Sub _ _› (by assumption)))
  | exact ClsV.ty _ | exact TyX.base (.int _) | exact TyX.base (.str _) | exact TyX.base (.tup (by assumption)) | exact kit_int | exact kit_ib | exact kit_ss | exact kit_tt)
local macro_rules | `(tactic| walk_at "rd1") => `(tactic| first
  | (apply Exists.intro)
  | (refine And.intro ?_ ?_; (focus (walk_at "sd")))
  | (refine L2.iteT ?_)
  | (refine L2.iteF ?_))
local macro_rules | `(tactic| walk_at "rd") => `(tactic| repeat (walk_at "rd1"))
local macro_rules | `(tactic| walk_at "se") => `(tactic| first
  | rfl | assumption
  | exact Sub.at ‹Sub _ _› (by assumption)
  | exact SqL.of (by assumption) | exact SqT.of (by assumption) | exact SqL.of (Sub.at ‹Sub _ _› (by assumption)) | exact SqT.of (Sub.at ‹Sub _ _› (by assumption))
  | exact Or.inl (SqL.of (by assumption)) | exact Or.inr (SqT.of (by assumption)) | exact Or.inl (SqL.of (Sub.at ‹Sub _ _› (by assumption))) | exact Or.inr (SqT.of (Sub.at ‹Sub _ _› (by assumption)))
  | exact TRaw.ins ‹TRaw _ _ _ _ _› | exact TA.miss
  | exact TRaw.n ‹TRaw _ _ _ _ _›
  | exact TRaw.z ‹TRaw _ _ _ _ _›
  | exact TRaw.d ‹TRaw _ _ _ _ _›
  | exact TRaw.r ‹TRaw _ _ _ _ _›
  | exact TRaw.f ‹TRaw _ _ _ _ _›
  | exact TRaw.l ‹TRaw _ _ _ _ _›
  | exact TRaw.u ‹TRaw _ _ _ _ _›
  | exact TRaw.w ‹TRaw _ _ _ _ _› | exact TRaw.a ‹TRaw _ _ _ _ _› rfl
  | exact SqL.of (TRaw.n ‹TRaw _ _ _ _ _›)
  | exact SqL.of (TRaw.z ‹TRaw _ _ _ _ _›)
  | exact SqL.of (TRaw.d ‹TRaw _ _ _ _ _›)
  | exact SqL.of (TRaw.r ‹TRaw _ _ _ _ _›)
  | exact SqL.of (TRaw.f ‹TRaw _ _ _ _ _›)
  | exact SqL.of (TRaw.l ‹TRaw _ _ _ _ _›)
  | exact SqL.of (TRaw.u ‹TRaw _ _ _ _ _›)
  | exact SqL.of (TRaw.w ‹TRaw _ _ _ _ _›) | exact SqL.of (TRaw.a ‹TRaw _ _ _ _ _› rfl)
  | exact ClsV.ty _ | exact TyX.base (.int _) | exact TyX.base (.str _) | exact TyX.base (.tup (by assumption)) | exact kit_int | exact kit_ib | exact kit_ss | exact kit_tt)
local macro_rules | `(tactic| walk_at "re1") => `(tactic| first
  | (apply Exists.intro)
  | (refine And.intro ?_ ?_; (focus (walk_at "se")))
  | (refine L2.iteT ?_)
  | (refine L2.iteF ?_))
local macro_rules | `(tactic| walk_at "re") => `(tactic| repeat (walk_at "re1"))

theorem sc_Walker_of : FnScope ["cls", "exchange", "places", "found", "place"] ["cls", "exchange", "places"] (defScope s_Walker_of) := ⟨rfl, rfl, rfl, by decide +kernel, rfl, by decide +kernel, by decide +kernel⟩
abbrev in_back_in (K : PySem.W.Frag) : Sp := P2 fun a b H Q => ∃ (W : WA) (D : WD) (m : Addr) (x : PySem.Str) (q : Int), a = .ref W.w ∧ b = .ref m ∧ H m = some (.tup [.str x]) ∧ WOk K H W D ∧ (x, q) ∈ D.ms ∧ ∀ H' z, Sub H H' → Per (mv D.ls D.od) q z → Q (.int (z : Int)) H'
abbrev sp_Walker_back_in (K : PySem.W.Frag) : Sp := stSp 1 (in_back_in K)
theorem ok_Walker_back_in (T : Tx K mg) : Gr P w K mg base 4 (cW K) "back_in" (sp_Walker_back_in K) := by
  refine ⟨_, mkR (ps := ["self"]) (pv := "marks") T.F_Walker_back_in sc_Walker_back_in (fun kV doc pm an cdv ct => StX.bind_star1 (B := fun us => bindArgs (PySem.W.fnOf d_Walker_back_in.name d_Walker_back_in.qual d_Walker_back_in.params d_Walker_back_in.body d_Walker_back_in.scope .none kV doc pm an cdv ct) ⟨us, []⟩) (p1 := "self") (pv := "marks") (fun a => rfl) (fun a r rs => rfl)) fun cdv A0 outer s0 H vs Q E hr h => ?_, T.c_Walker, T.m_Walker_back_in⟩
  obtain ⟨_, _, rfl, W, D, m, x, q, rfl, rfl, hm, hw, hx, hq⟩ := h
  have cc := T.c_Walker
  have x1 := T.a_Walker_turning
  have hi := hw.ins
  refine ⟨_, (pss_cons (ps_set (i := 2) sc_Walker_back_in.nd rfl (by first | exact .inl rfl | exact .inr rfl) pe_int)
  (pss_cons (ps_for PassesOwn.never rfl (pi_list (pe_lc (own := [("mark", 4)]) (g := (gName 4)) (tt := tYes) (te := (tMeth (cW K) "place_of" (sp_Walker_place_of K) [.non] E0 (tVar 0) (tCons (tVar 4) tNil))) rfl sc_Walker_back_in.nd (pi_tup (pv 1)) (blkOk_by (N := ["self", "marks", "found", "place", "mark"]) (sc := defScope s_Walker_back_in) (by decide +kernel)) (fun _ _ _ _ _ => (pg_name (i := 4) sc_Walker_back_in.nd rfl (by first | exact .inl rfl | exact .inr rfl))) (fun _ _ _ _ _ => pts_nil) (fun _ _ _ _ _ => (cm (ok_Walker_place_of T) hr (pv 0) (pa_cons (pv 4) pa_nil))))) (pg_name (i := 3) sc_Walker_back_in.nd rfl (by first | exact .inl rfl | exact .inr rfl)) (pss_one (ps_set (i := 2) sc_Walker_back_in.nd rfl (by first | exact .inl rfl | exact .inr rfl) (cl (ok_common_multiple T) hr (pa_cons (pv 2) (pa_cons (cm (ok_Walker_length_in T) hr (pv 0) (pa_cons (pe_ix ix_tup (cm (ok_Turning_position T) hr (pe_fld (pv 0) rfl) (pa_cons (pv 3) pa_nil)) pe_int (fun _ _ => rfl)) pa_nil)) pa_nil))))))
  (pss_one (ps_ret (pv 2))))), ?_⟩
  walk_at "re"
  have hd := hw.ok.done
  have hex := hw.ok.ok.ex
  obtain ⟨q0, q1⟩ := hw.ok.pl _ hx
  obtain ⟨c, b0, w0, i0, q2, k0, t0, sp⟩ := spot_of hd.f.g hd.up q0 q1
  have per := sp.per (fun p a b => mv_range hex a b) (fun p q a b c d e => mv_inj hex a b c d e) q0 q1
  have hil : i0 < D.s.nodes.length := sp.isT.lt
  have hzs : D.s.sz i0 = t0.size := sp.isT.sz
  have hzp : 0 < D.s.sz i0 := by rw [hzs]; exact sp.wd.pos
  refine ⟨⟨_, SqT.of hm⟩, fun D0 hD0 => lc_val (walk_tup (xs := [.str x])) hD0 (by show 1 < 100000; decide) [.int q] rfl (fun Ha s => SqT.of (s.at hm)) (fun i v Ha Hb hi2 s hy Q' Nx hq' => ?_) fun Ha sa ha => ?_⟩
  · obtain ⟨rfl, hv⟩ := hy
    have hv2 : v = .str x ∧ [V.int q][i]? = some (.int q) := by
      match i, hi2, hv with
      | 0, _, hv => cases hv; exact ⟨rfl, rfl⟩
    obtain ⟨rfl, hv3⟩ := hv2
    have hia := s.at hi
    have hwa := hw.sub s
    walk_at "re"
    exact hq' _ _ Sub.rfl' hv3
  refine ⟨D0, rfl, ⟨_, SqL.of ha⟩, for_it (walk_list (xs := [.int q])) (fun ix σ H' => Bx (Sub Ha H' ∧ ∃ (f : Int) (o : Option V), σ = [some (.ref W.w), some (.ref m), some (.int f), o, none] ∧ ((ix = 0 ∧ f = 1) ∨ (ix = 1 ∧ f = (D.s.sz i0 : Int)))))
    ⟨Sub.rfl', 1, none, rfl, .inl ⟨rfl, rfl⟩⟩ (fun ix σ H' _ h => SqL.of (h.o.1.at ha)) (fun ix v σ Hb Hc hi2 h hy => ?_) fun σ Hb h => ?_⟩
  · obtain ⟨s2, f, o, rfl, hf⟩ := h.o
    obtain ⟨rfl, hv⟩ := hy
    have hix : ix = 0 := by
      have : ix < 1 := hi2
      omega
    subst hix
    obtain rfl : V.int q = v := Option.some.inj hv
    obtain rfl : f = 1 := by
      rcases hf with ⟨_, e⟩ | ⟨e, _⟩
      · exact e
      · cases e
    have s3 := sa.tr s2
    have hib := s3.at hi
    have hwb := hw.sub s3
    have hTk := hwb.tok
    obtain ⟨R, hT, hD⟩ := hTk.ex
    refine ⟨_, rfl, _, rfl, W.w, _, _, rfl, hib, rfl, _, rfl, W.w, _, _, _, _, rfl, hib, cc, x1, rfl, W.t.t, _, _, rfl, hT.ins, TA.miss, _, rfl, _, _, rfl, W.t, D.s, exN D.ls, q, c, b0, w0, i0, q2, k0, rfl, rfl, hTk, hd.fits, q0, q1, sp.pos, sp.bd, hil, hzp, fun r H1 s1 hr1 => ?_⟩
    refine ⟨_, _, _, _, rfl, rfl, SqT.of hr1, rfl, ?_⟩
    refine ⟨_, _, rfl, W, D, c, b0, w0, i0, rfl, rfl, hwb.sub s1, sp.bd, hil, fun H5 s5 => ?_⟩
    refine ⟨_, _, rfl, (D.s.sz i0 : Int), rfl, rfl, by omega, ?_⟩
    exact ⟨(s2.tr s1).tr s5, _, _, rfl, .inr ⟨rfl, rfl⟩⟩
  · obtain ⟨s2, f, o, rfl, hf⟩ := h.o
    obtain rfl : f = (D.s.sz i0 : Int) := by
      rcases hf with ⟨e, _⟩ | ⟨_, e⟩
      · cases e
      · exact e
    refine ⟨_, rfl, ?_⟩
    rw [hzs]
    exact hq _ _ (sa.tr s2) per
/-- the names that new marks bear -/
def lets : List PySem.Str := ["a", "b", "c", "d"]
abbrev abc : PySem.Str := "abcdefghijklmnopqrstuvwxyz"
theorem abc_get {i c : Nat} (hi : i < 4) (h : abc.cps[i]? = some c) : lets[i]? = some ⟨#[c]⟩ := by
  have k : ∀ d : Nat, abc.cps[i]? = some d → c = d := fun d e => by rw [h] at e; exact Option.some.inj e
  match i, hi, k with
  | 0, _, k =>
    obtain rfl := k 97 (by decide +kernel)
    decide +kernel
  | 1, _, k =>
    obtain rfl := k 98 (by decide +kernel)
    decide +kernel
  | 2, _, k =>
    obtain rfl := k 99 (by decide +kernel)
    decide +kernel
  | 3, _, k =>
    obtain rfl := k 100 (by decide +kernel)
    decide +kernel
theorem zip_sub {α β : Type} : ∀ (xs : List α) (ys : List β), ((xs.zip ys).map (·.1)).Sublist xs
  | [], _ => by simp
  | _ :: _, [] => by simp
  | x :: xs, y :: ys => by
    rw [List.zip_cons_cons, List.map_cons]
    exact (zip_sub xs ys).cons₂ x
theorem lets_nd : lets.Nodup := by decide +kernel
abbrev in_of (K : PySem.W.Frag) : Sp := P3 fun a b c H Q => ∃ (e pl : Addr) (ls : List Int) (od : List Nat) (ps : List Int), a = .ref (cW K) ∧ b = .ref e ∧ c = .ref pl ∧ H pl = some (.tup (iV ps)) ∧ ps.length ≤ 4 ∧ (∀ p ∈ ps, 0 ≤ p ∧ p < exN ls) ∧ ExT H e ls od ∧ ExOk ls od ∧ Ends 200 (st0 ls od) ∧
  ∀ H' W s, Sub H H' → H W.w = none → W.e = e → (∀ a ∈ W.t.fp true, H a = none) → WOk K H' W ⟨ls, od, s, lets.zip ps, 0, 0⟩ → Q (.ref W.w) H'
abbrev sp_Walker_of (K : PySem.W.Frag) : Sp := stSp 2 (in_of K)
theorem ok_Walker_of (T : Tx K mg) : Gc P w K mg base 10 (cW K) "of" (sp_Walker_of K) := by
  have hb := He.ba (He.ba (He.ba T.exb).2).2
  have hc := He.ba hb.2
  have hd := He.ba hc.2
  have he := He.ba hd.2
  have hf := He.ba he.1
  refine ⟨_, _, mkR (ps := ["cls", "exchange"]) (pv := "places") T.F_Walker_of sc_Walker_of (fun kV doc pm an cdv ct => StX.bind_star2 (B := fun us => bindArgs (PySem.W.fnOf d_Walker_of.name d_Walker_of.qual d_Walker_of.params d_Walker_of.body d_Walker_of.scope .none kV doc pm an cdv ct) ⟨us, []⟩) (p1 := "cls") (p2 := "exchange") (pv := "places") (fun a b => rfl) (fun a b r rs => rfl)) fun cdv A0 outer s0 H vs Q E hr h => ?_, ⟨hf.1, He.eqO_ok hf.2⟩, He5.cmet_of hc.1 he.2⟩
  obtain ⟨_, _, _, rfl, e, pl, ls, od, ps, rfl, rfl, rfl, hpl, h4, hps, hex, ok, hend, hq⟩ := h
  have cc := T.c_Walker
  have x1 := T.a_Walker_scenes
  refine ⟨_, (pss_cons (ps_set (i := 3) sc_Walker_of.nd rfl (by first | exact .inl rfl | exact .inr rfl) (pe_makeV (i := 0) (ok_Walker_init T) hr (pa_cons (pv 1) pa_nil)))
  (pss_cons (ps_if (pt_cmpR op_gt (pe_callB call_len_seq rfl T.n_len (by decide +kernel) (pa_cons (pv 2) pa_nil)) (pe_gI T.i_MAX_MARKS) (nomark _)) (pss_one ps_never) pss_nil)
  (pss_cons (ps_for PassesOwn.never rfl (pi_tup (pv 2)) (pg_name (i := 4) sc_Walker_of.nd rfl (by first | exact .inl rfl | exact .inr rfl)) (pss_one (ps_expr (cm (ok_Walker_require_place T) hr (pv 3) (pa_cons (pv 4) pa_nil)))))
  (pss_cons (ps_fld (pv 3) (pe_tup (pa_cons (pe_tup (pa_cons (pe_tupZip rfl T.n_tuple rfl T.n_zip (pa_cons (pe_gS T.s_LETTERS) (pa_cons (pv 2) pa_nil))) (pa_cons pe_int (pa_cons pe_int pa_nil)))) pa_nil)) rfl)
  (pss_one (ps_ret (pv 3))))))), ?_⟩
  clear hb hc hd he hf
  walk_at "re"
  intro x dx nx nd ne
  refine ⟨_, _, rfl, x, dx, e, ls, od, rfl, rfl, upd_same, hex.sub ((Sub.rfl'.new nd).upd nx), ok, hend, fun H1 W s m ew ee hfr hw1 => ⟨rfl, ?_⟩⟩
  subst ew
  subst ee
  have s1 : Sub H H1 := Sub.born nx nd ne m
  have hi1 := hw1.ins
  have hp1 := s1.at hpl
  have hx1 := hw1.ex
  clear m
  walk_at "re"
  refine ifF (by rw [iV_len]; simp; omega) ?_
  walk_at "re"
  refine ⟨⟨_, SqT.of hp1⟩, for_it (walk_tup (xs := iV ps)) (fun i σ H' => Bx (H' = H1 ∧ ∃ o, σ = [some (.ref (cW K)), some (.ref W.e), some (.ref pl), some (.ref W.w), o]))
    ⟨rfl, _, rfl⟩ (fun i σ H' _ h => by rw [h.o.1]; exact SqT.of hp1) (fun i v σ Hb Hc hi h hy => ?_) fun σ Hb h => ?_⟩
  · obtain ⟨rfl, o, rfl⟩ := h.o
    obtain ⟨rfl, hv⟩ := hy
    obtain ⟨p, hp, rfl⟩ := iV_inv hv
    obtain ⟨p0, p1⟩ := hps p (List.mem_of_getElem? hp)
    refine ⟨_, rfl, W.w, _, _, rfl, hi1, rfl, _, rfl, _, _, rfl, W.w, W.dx, W.e, W.fs, ls, od, p, rfl, rfl, hi1, rfl, hx1, p0, p1, ?_⟩
    exact ⟨rfl, _, rfl⟩
  obtain ⟨rfl, o, rfl⟩ := h.o
  walk_at "re"
  refine ⟨.inl (SqT.of hp1), by rw [iV_len]; exact Nat.le_trans h4 (by decide +kernel), by rw [iV_len]; omega, fun H2 p as s2 hp hA => ?_⟩
  have hi2 := s2.at hi1
  refine ⟨by show 3 ≤ sizeLine; decide, fun q nq => ?_⟩
  refine ⟨by show 1 ≤ sizeLine; decide, fun r nr => ?_⟩
  have s3 : Sub H2 (upd (upd H2 q (.tup [.ref p, .int 0, .int 0])) r (.tup [.ref q])) := (Sub.rfl'.new nq).tr (Sub.rfl'.new nr)
  have f1 : (upd (upd H2 q (.tup [.ref p, .int 0, .int 0])) r (.tup [.ref q])) r = some (.tup [.ref q]) := upd_same
  have f2 : (upd (upd H2 q (.tup [.ref p, .int 0, .int 0])) r (.tup [.ref q])) q = some (.tup [.ref p, .int 0, .int 0]) := (Sub.rfl'.new nr).at upd_same
  generalize upd (upd H2 q (.tup [.ref p, .int 0, .int 0])) r (.tup [.ref q]) = H3 at s3 f1 f2 ⊢
  have hi3 := s3.at hi2
  refine ⟨_, rfl, W.w, _, _, _, rfl, hi3, cc, x1, by show 5 < 1000; decide, ?_⟩
  refine ⟨_, rfl, ?_⟩
  have up : ∀ {a : Addr} {ys : List V}, H3 a = some (.tup ys) → msk [W.w] H3 a = some (.tup ys) := fun h => msk_at h (fun z => by rw [List.mem_singleton.mp z, hi3] at h; cases h)
  have hA2 : A2 (pM (msk [W.w] H3)) as (lets.zip ps) := by
    have hl := hA.len
    rw [List.length_zip, List.length_range, iV_len, Nat.min_self] at hl
    refine ⟨by rw [hl, List.length_zip]; show _ = min 4 _; omega, fun i a m ha hm => ?_⟩
    have hi : i < ps.length := by have := (List.getElem?_eq_some_iff.mp ha).1; omega
    obtain ⟨cc2, hc, hq2⟩ := hA.at_ i a (i, V.int (ps[i])) ha (by
      rw [List.getElem?_zip_eq_some, iV_len, List.getElem?_range hi]
      exact ⟨rfl, iV_get (List.getElem?_eq_getElem hi)⟩)
    have hm2 := List.getElem?_zip_eq_some.mp hm
    have e1 := abc_get (by omega) hc
    rw [hm2.1] at e1
    have e2 : m.2 = ps[i] := by have := hm2.2; rw [List.getElem?_eq_getElem hi] at this; exact (Option.some.inj this).symm
    have hq3 := up (s3.at hq2)
    show msk [W.w] H3 a = _
    rw [hq3, Option.some.inj e1, e2]
  have n2 : msk [W.w] (upd H3 W.w (.ins (cW K) W.dx (putF "scenes" (.ref r) W.fs))) = msk [W.w] H3 := msk_upd (by simp)
  have w2 := hw1.inn.sub (msk_mono (s2.tr s3))
  have w3 : WIn K (msk [W.w] H3) { W with sc := r } ⟨ls, od, s, lets.zip ps, 0, 0⟩ := ⟨w2.ex, w2.tok, ⟨q, p, [], as, up f1, rfl, up f2, up (s3.at hp), hA2⟩, w2.kp⟩
  refine hq _ { W with sc := r } s ((s1.tr (s2.tr s3)).upd nx) nx rfl (fun a ha => ((Sub.rfl'.new nd).upd nx).fresh (hfr a ha)) ⟨upd_same, ?_, ⟨ok, hw1.ok.done, fun y hy => ?_, ?_, ?_, Nat.zero_le _⟩⟩
  · rw [← n2] at w3
    exact w3
  · exact hps y.2 (List.of_mem_zip (a := y.1) (b := y.2) hy).2
  · exact lets_nd.sublist (zip_sub lets ps)
  · show (lets.zip ps).length ≤ 4
    rw [List.length_zip]
    show min 4 _ ≤ 4
    omega
end
end Bt
end
section
set_option Elab.async false
set_option linter.all false
set_option maxRecDepth 100000
set_option maxHeartbeats 2000000
set_option autoImplicit false
namespace Bt
open PySem PySem.Spec PyProof.Rows L2 Rz
/-! ### the law's own defs -/
structure JarF (H : Hp) (J C : Addr) (st : Int) (cs : List Int) : Prop where
  j : H J = some (.lst [.ref C, .int st])
  c : H C = some (.lst (iV cs))
  ne : J ≠ C
  s0 : 0 ≤ st
  s1 : st < 4294967291
  nn : ∀ x ∈ cs, 0 ≤ x
  len : cs.length ≤ 1000
structure Jar (H : Hp) (J C : Addr) : Prop where
  ex : ∃ st cs, JarF H J C st cs
section
variable {P : Program} {w : World} {K : PySem.W.Frag} {mg : PySem.Str → Option Value} {base : Heap}
local macro_rules | `(tactic| walk_at "sd") => `(tactic| first
  | rfl | assumption
  | exact Sub.at ‹Sub _ _› (by assumption)
  | exact SqL.of (by assumption) | exact SqT.of (by assumption) | exact SqL.of (Sub.at ‹Sub _ _› (by assumption)) | exact SqT.of (Sub.at ‹Sub _ _› (by assumption))
  | exact Or.inl (SqL.of (by assumption)) | exact Or.inr (SqT.of (by assumption)) | exact Or.inl (SqL.of (Sub.at ‹Sub _ _› (by assumption))) | exact Or.inr (SqT.of (Sub.at ‹Sub _ _› (by assumption)))
  | exact ClsV.ty _ | exact TyX.base (.int _) | exact TyX.base (.str _) | exact TyX.base (.tup (by assumption)) | exact kit_int | exact kit_ib | exact kit_ss | exact kit_tt)
local macro_rules | `(tactic| walk_at "rd1") => `(tactic| first
  | (apply Exists.intro)
  | (refine And.intro ?_ ?_; (focus (walk_at "sd")))
  | (refine L2.iteT ?_)
  | (refine L2.iteF ?_))
local macro_rules | `(tactic| walk_at "rd") => `(tactic| repeat (walk_at "rd1"))
local macro_rules | `(tactic| walk_at "se") => `(tactic| first
  | rfl | assumption
  | exact Sub.at ‹Sub _ _› (by assumption)
  | exact SqL.of (by assumption) | exact SqT.of (by assumption) | exact SqL.of (Sub.at ‹Sub _ _› (by assumption)) | exact SqT.of (Sub.at ‹Sub _ _› (by assumption))
  | exact Or.inl (SqL.of (by assumption)) | exact Or.inr (SqT.of (by assumption)) | exact Or.inl (SqL.of (Sub.at ‹Sub _ _› (by assumption))) | exact Or.inr (SqT.of (Sub.at ‹Sub _ _› (by assumption)))
  | exact TRaw.ins ‹TRaw _ _ _ _ _› | exact TA.miss
  | exact TRaw.n ‹TRaw _ _ _ _ _›
  | exact TRaw.z ‹TRaw _ _ _ _ _›
  | exact TRaw.d ‹TRaw _ _ _ _ _›
  | exact TRaw.r ‹TRaw _ _ _ _ _›
  | exact TRaw.f ‹TRaw _ _ _ _ _›
  | exact TRaw.l ‹TRaw _ _ _ _ _›
  | exact TRaw.u ‹TRaw _ _ _ _ _›
  | exact TRaw.w ‹TRaw _ _ _ _ _› | exact TRaw.a ‹TRaw _ _ _ _ _› rfl
  | exact SqL.of (TRaw.n ‹TRaw _ _ _ _ _›)
  | exact SqL.of (TRaw.z ‹TRaw _ _ _ _ _›)
  | exact SqL.of (TRaw.d ‹TRaw _ _ _ _ _›)
  | exact SqL.of (TRaw.r ‹TRaw _ _ _ _ _›)
  | exact SqL.of (TRaw.f ‹TRaw _ _ _ _ _›)
  | exact SqL.of (TRaw.l ‹TRaw _ _ _ _ _›)
  | exact SqL.of (TRaw.u ‹TRaw _ _ _ _ _›)
  | exact SqL.of (TRaw.w ‹TRaw _ _ _ _ _›) | exact SqL.of (TRaw.a ‹TRaw _ _ _ _ _› rfl)
  | exact ClsV.ty _ | exact TyX.base (.int _) | exact TyX.base (.str _) | exact TyX.base (.tup (by assumption)) | exact kit_int | exact kit_ib | exact kit_ss | exact kit_tt)
local macro_rules | `(tactic| walk_at "re1") => `(tactic| first
  | (apply Exists.intro)
  | (refine And.intro ?_ ?_; (focus (walk_at "se")))
  | (refine L2.iteT ?_)
  | (refine L2.iteF ?_))
local macro_rules | `(tactic| walk_at "re") => `(tactic| repeat (walk_at "re1"))

theorem sc_law_sip : FnScope ["_law_jar_here", "_law_many", "_law_cell", "_law_found", "_law_room"] ["_law_jar_here", "_law_many"] (defScope s_law_sip) := ⟨rfl, rfl, rfl, by decide +kernel, rfl, by decide +kernel, by decide +kernel⟩
abbrev sp_law_sip (K : PySem.W.Frag) : Sp := P2 fun a b H Q => ∃ (J C : Addr) (many : Int), a = .ref J ∧ b = .int many ∧ Jar H J C ∧ 1 ≤ many ∧ many ≤ 2000000000000000000 ∧ ∀ H' r, Sub (msk [J, C] H) H' → Jar H' J C → 0 ≤ r → r < many → Q (.int r) H'
theorem ok_law_sip (T : Tx K mg) : Gd P w K mg base 1 "_law_sip" ["_law_jar_here", "_law_many"] (sp_law_sip K) := by
  refine mkd T.F_law_sip T.g_law_sip sc_law_sip P2.ar (fun _ _ _ _ _ _ us hl => match us, hl with | [_, _], _ => rfl) fun cdv A0 outer s0 H vs Q E hr h => ?_
  obtain ⟨_, _, rfl, J, C, many, rfl, rfl, ⟨st, cs, hj⟩, m1, m2, hq⟩ := h
  have j1 := hj.j
  have j2 := hj.c
  refine ⟨_, (pss_cons (ps_if (pt_cmpR (op_neD hr.units) (pe_ix ix_list (pv 0) pe_int (fun _ _ => rfl)) (pe_lst pa_nil) (nomark _)) (pss_cons (ps_set (i := 2) sc_law_sip.nd rfl (by first | exact .inl rfl | exact .inr rfl) (pe_bm0 PySem.F.plainAttrs_list PySem.F.slot_list_pop PySem.F.type_list_pop mt_pop (pe_ix ix_list (pv 0) pe_int (fun _ _ => rfl))))
  (pss_cons (ps_if (pt_chain op_ge op_gt (pv 2) (pv 1) pe_int) (pss_one (ps_expr (pe_bm PySem.F.plainAttrs_list PySem.F.slot_list_append PySem.F.type_list_append mt_append (pe_ix ix_list (pv 0) pe_int (fun _ _ => rfl)) (pa_cons (pe_op op_fdivW (pv 2) (pv 1)) pa_nil)))) pss_nil)
  (pss_one (ps_ret (pe_op op_mod (pv 2) (pv 1)))))) pss_nil)
  (pss_cons (ps_asg (pe_tup (pa_cons pe_int (pa_cons pe_int pa_nil))) (pg_tup rfl (pgs_cons (pg_name (i := 3) sc_law_sip.nd rfl (by first | exact .inl rfl | exact .inr rfl)) (pgs_cons (pg_name (i := 4) sc_law_sip.nd rfl (by first | exact .inl rfl | exact .inr rfl)) pgs_nil))))
  (pss_cons (ps_while PassesOwn.never (pt_cmpR op_lt (pv 4) (pv 1) (nomark _)) (pss_cons (ps_asg (pe_op op_mod (pe_op op_add (pe_op op_mul (pe_ix ix_list (pv 0) pe_int (fun _ _ => rfl)) pe_int) pe_int) pe_int) (pg_sub (pv 0) pe_int set_list))
  (pss_one (ps_par (i := 3) (j := 4) rfl sc_law_sip.nd rfl rfl (by decide) rfl rfl (pa_cons (pe_op op_add (pe_op op_mul (pv 3) pe_int) (pe_op op_fdivW (pe_ix ix_list (pv 0) pe_int (fun _ _ => rfl)) pe_int)) (pa_cons (pe_op op_mul (pv 4) pe_int) pa_nil)) rfl))))
  (pss_one (ps_ret (pe_op op_mod (pv 3) (pv 1))))))), ?_⟩
  walk_at "re"
  refine ⟨by show 0 ≤ sizeLine; decide, fun b nb => ?_⟩
  have s1 : Sub H (upd H b (.lst [])) := Sub.rfl'.new nb
  have hb : (upd H b (.lst [])) b = some (.lst []) := upd_same
  generalize upd H b (.lst []) = H1 at s1 hb ⊢
  have i1 := s1.at j1
  have i2 := s1.at j2
  refine r_ne0i (SqL.of i2) hb ⟨_, rfl, ?_⟩
  have ne := hj.ne
  by_cases hc : cs = []
  · subst hc
    refine ifF (by decide) ?_
    refine ⟨by show 2 ≤ sizeLine; decide, fun q nq => ?_⟩
    refine ⟨q, _, rfl, SqT.of upd_same, rfl, ?_⟩
    have s2 : Sub H1 (upd H1 q (.tup [.int 0, .int 1])) := Sub.rfl'.new nq
    generalize upd H1 q (.tup [.int 0, .int 1]) = H2 at s2 ⊢
    have i3 := s2.at i1
    have i4 := s2.at i2
    refine ⟨_, _, rfl, _, _, rfl, rfl, ?_⟩
    refine ⟨fun m σ H' => Bx (∃ (st' f r : Int), σ = [some (.ref J), some (.int many), none, some (.int f), some (.int r)] ∧ Sub (msk [J, C] H) H' ∧ JarF H' J C st' [] ∧ 1 ≤ r ∧ m = (many - r).toNat),
      ⟨_, st, 0, 1, rfl, msk_sub.tr (s1.tr s2), ⟨i3, i4, ne, hj.s0, hj.s1, hj.nn, hj.len⟩, by omega, rfl⟩, fun m σ H' h => ?_⟩
    obtain ⟨st', f, r, rfl, m', hj', r1, rfl⟩ := h.o
    have l1 := hj'.j
    have l2 := hj'.c
    have g0 := hj'.s0
    have g1 := hj'.s1
    refine ⟨_, rfl, _, rfl, _, _, rfl, rfl, _, rfl, ?_⟩
    refine L2.ite2 (fun z => ?_) fun z => ?_
    · have z' : r < many := of_decide_eq_true z
      refine ⟨fun σ2 H2 => Bx (∃ (st2 f2 r2 : Int), σ2 = [some (.ref J), some (.int many), none, some (.int f2), some (.int r2)] ∧ Sub (msk [J, C] H) H2 ∧ JarF H2 J C st2 [] ∧ 1 ≤ r2 ∧ (many - r2).toNat < (many - r).toNat),
        fun σ2 H2 h => by
          obtain ⟨st2, f2, r2, e1, e2, e3, e4, e5⟩ := h.o
          exact ⟨_, e5, ⟨st2, f2, r2, e1, e2, e3, e4, rfl⟩⟩, ?_⟩
      have a0 : atI [V.ref C, V.int st'] 1 = some (.int st') := rfl
      have c1 : CMul st' 279470273 := cmulL (by omega) (by omega)
      have c2 : CMul f 65536 := cmulR (by omega) (by omega)
      have c3 : CMul r 65536 := cmulR (by omega) (by omega)
      walk_at "re"
      refine ⟨show (0 : Int) < 4294967291 by decide, ?_⟩
      have u0 : 0 ≤ (st' * 279470273 + 11) % 4294967291 := Int.emod_nonneg _ (by decide)
      have u1 : (st' * 279470273 + 11) % 4294967291 < 4294967291 := Int.emod_lt_of_pos _ (by decide)
      refine ⟨_, rfl, J, _, _, _, rfl, rfl, l1, (rfl : ixN 2 1 = some 1), ?_⟩
      have m3 : Sub (msk [J, C] H) (upd H' J (.lst [.ref C, .int ((st' * 279470273 + 11) % 4294967291)])) := m'.upd (msk_in (by simp))
      have q1 : (upd H' J (.lst [.ref C, .int ((st' * 279470273 + 11) % 4294967291)])) J = some (.lst [.ref C, .int ((st' * 279470273 + 11) % 4294967291)]) := upd_same
      have q2 : (upd H' J (.lst [.ref C, .int ((st' * 279470273 + 11) % 4294967291)])) C = some (.lst (iV [])) := by rw [upd_ne (Ne.symm ne)]; exact l2
      refine (show (_ : Hp → Prop) (upd H' J (.lst [.ref C, .int ((st' * 279470273 + 11) % 4294967291)])) from ?_)
      generalize upd H' J (.lst [.ref C, .int ((st' * 279470273 + 11) % 4294967291)]) = H3 at m3 q1 q2 ⊢
      generalize (st' * 279470273 + 11) % 4294967291 = st2 at u0 u1 q1 ⊢
      have b0 : atI [V.ref C, V.int st2] 1 = some (.int st2) := rfl
      have c4 : CDivW st2 65537 := cdiv12 (by omega) (by omega)
      walk_at "re"
      refine ⟨st2, _, _, rfl, m3, ⟨q1, q2, ne, u0, u1, hj'.nn, hj'.len⟩, by omega, by omega⟩
    · walk_at "re"
      exact hq H' _ m' ⟨st', [], hj'⟩ (Int.emod_nonneg _ (by omega)) (Int.emod_lt_of_pos _ (by omega))
  · obtain ⟨ini, cell, rfl⟩ : ∃ ini cell, cs = ini ++ [cell] := ⟨cs.dropLast, cs.getLast hc, (List.dropLast_concat_getLast hc).symm⟩
    refine ifT (by simp) ?_
    have e1 : (iV (ini ++ [cell]))[(iV (ini ++ [cell])).length - 1]? = some (.int cell) := by
      rw [iV_len]; exact iV_get (by simp)
    have e2 : (iV (ini ++ [cell])).dropLast = iV ini := by unfold iV; rw [List.map_append]; simp
    have s2 : Sub (msk [J, C] H) (upd H1 C (.lst (iV (ini ++ [cell])).dropLast)) := (msk_sub.tr s1).upd (msk_in (by simp))
    have k1 : (upd H1 C (.lst (iV (ini ++ [cell])).dropLast)) J = some (.lst [.ref C, .int st]) := by rw [upd_ne ne]; exact i1
    have k2 : (upd H1 C (.lst (iV (ini ++ [cell])).dropLast)) C = some (.lst (iV ini)) := by rw [upd_same, e2]
    have cn : 0 ≤ cell := hj.nn cell (by simp)
    refine ⟨_, rfl, J, _, _, _, rfl, rfl, SqL.of i1, rfl, tyL i2, C, _, _, rfl, rfl, i2, e1, ?_⟩
    generalize upd H1 C (.lst (iV (ini ++ [cell])).dropLast) = H2 at s2 k1 k2 ⊢
    have fin : Q (.int (cell % many)) H2 := hq H2 _ s2 ⟨st, ini, k1, k2, ne, hj.s0, hj.s1, fun x hx => hj.nn x (by simp [hx]), by have := hj.len; simp at this; omega⟩ (Int.emod_nonneg _ (by omega)) (Int.emod_lt_of_pos _ (by omega))
    have mp : (0 : Int) < many := by omega
    walk_at "re"
    refine L2.ite2 (fun z => ?_) fun z => ?_
    · have z' : many ≤ cell := of_decide_eq_true z
      walk_at "re"
      refine L2.ite2 (fun z2 => ?_) fun z2 => ?_
      · have p64 : (2 : Nat) ^ 64 = 18446744073709551616 := by decide
        have cd : CDivW cell many := wide_div (b := 64) (by omega) (by omega) (by decide) (by decide)
        refine ⟨_, rfl, J, _, _, _, rfl, rfl, SqL.of k1, rfl, tyL k2, _, rfl, _, rfl, _, _, rfl, rfl, cd, C, _, _, rfl, rfl, k2, szlt (by rw [iV_len]; have := hj.len; simp at this; omega), ?_⟩
        have cn2 : 0 ≤ cell / many := Int.ediv_nonneg cn (by omega)
        have s3 : Sub (msk [J, C] H) (upd H2 C (.lst (iV ini ++ [.int (cell / many)]))) := s2.upd (msk_in (by simp))
        have q1 : (upd H2 C (.lst (iV ini ++ [.int (cell / many)]))) J = some (.lst [.ref C, .int st]) := by rw [upd_ne ne]; exact k1
        have q2 : (upd H2 C (.lst (iV ini ++ [.int (cell / many)]))) C = some (.lst (iV (ini ++ [cell / many]))) := by rw [upd_same]; unfold iV; rw [List.map_append]; rfl
        generalize upd H2 C (.lst (iV ini ++ [.int (cell / many)])) = H3 at s3 q1 q2 ⊢
        refine ⟨_, rfl, _, rfl, _, _, rfl, rfl, mp, ?_⟩
        refine hq H3 _ s3 ⟨st, ini ++ [cell / many], q1, q2, ne, hj.s0, hj.s1, fun x hx => ?_, by have := hj.len; simp at this ⊢; omega⟩ (Int.emod_nonneg _ (by omega)) (Int.emod_lt_of_pos _ (by omega))
        rcases List.mem_append.mp hx with z | z
        · exact hj.nn x (by simp [z])
        · rw [List.mem_singleton.mp z]; exact cn2
      · exact ⟨_, rfl, _, rfl, _, _, rfl, rfl, mp, fin⟩
    · refine ⟨_, rfl, ifF (by decide) ?_⟩
      exact ⟨_, rfl, _, rfl, _, _, rfl, rfl, mp, fin⟩
end
end Bt
end
section
set_option Elab.async false
set_option linter.all false
set_option maxRecDepth 100000
set_option maxHeartbeats 2000000
set_option autoImplicit false
namespace Bt
open PySem PySem.Spec PyProof.Rows L2 Rz
section
variable {P : Program} {w : World} {K : PySem.W.Frag} {mg : PySem.Str → Option Value} {base : Heap}
local macro_rules | `(tactic| walk_at "sd") => `(tactic| first
  | rfl | assumption
  | exact Sub.at ‹Sub _ _› (by assumption)
  | exact SqL.of (by assumption) | exact SqT.of (by assumption) | exact SqL.of (Sub.at ‹Sub _ _› (by assumption)) | exact SqT.of (Sub.at ‹Sub _ _› (by assumption))
  | exact Or.inl (SqL.of (by assumption)) | exact Or.inr (SqT.of (by assumption)) | exact Or.inl (SqL.of (Sub.at ‹Sub _ _› (by assumption))) | exact Or.inr (SqT.of (Sub.at ‹Sub _ _› (by assumption)))
  | exact ClsV.ty _ | exact TyX.base (.int _) | exact TyX.base (.str _) | exact TyX.base (.tup (by assumption)) | exact kit_int | exact kit_ib | exact kit_ss | exact kit_tt)
local macro_rules | `(tactic| walk_at "rd1") => `(tactic| first
  | (apply Exists.intro)
  | (refine And.intro ?_ ?_; (focus (walk_at "sd")))
  | (refine L2.iteT ?_)
  | (refine L2.iteF ?_))
local macro_rules | `(tactic| walk_at "rd") => `(tactic| repeat (walk_at "rd1"))
local macro_rules | `(tactic| walk_at "se") => `(tactic| first
  | rfl | assumption
  | exact Sub.at ‹Sub _ _› (by assumption)
  | exact SqL.of (by assumption) | exact SqT.of (by assumption) | exact SqL.of (Sub.at ‹Sub _ _› (by assumption)) | exact SqT.of (Sub.at ‹Sub _ _› (by assumption))
  | exact Or.inl (SqL.of (by assumption)) | exact Or.inr (SqT.of (by assumption)) | exact Or.inl (SqL.of (Sub.at ‹Sub _ _› (by assumption))) | exact Or.inr (SqT.of (Sub.at ‹Sub _ _› (by assumption)))
  | exact TRaw.ins ‹TRaw _ _ _ _ _› | exact TA.miss
  | exact TRaw.n ‹TRaw _ _ _ _ _›
  | exact TRaw.z ‹TRaw _ _ _ _ _›
  | exact TRaw.d ‹TRaw _ _ _ _ _›
  | exact TRaw.r ‹TRaw _ _ _ _ _›
  | exact TRaw.f ‹TRaw _ _ _ _ _›
  | exact TRaw.l ‹TRaw _ _ _ _ _›
  | exact TRaw.u ‹TRaw _ _ _ _ _›
  | exact TRaw.w ‹TRaw _ _ _ _ _› | exact TRaw.a ‹TRaw _ _ _ _ _› rfl
  | exact SqL.of (TRaw.n ‹TRaw _ _ _ _ _›)
  | exact SqL.of (TRaw.z ‹TRaw _ _ _ _ _›)
  | exact SqL.of (TRaw.d ‹TRaw _ _ _ _ _›)
  | exact SqL.of (TRaw.r ‹TRaw _ _ _ _ _›)
  | exact SqL.of (TRaw.f ‹TRaw _ _ _ _ _›)
  | exact SqL.of (TRaw.l ‹TRaw _ _ _ _ _›)
  | exact SqL.of (TRaw.u ‹TRaw _ _ _ _ _›)
  | exact SqL.of (TRaw.w ‹TRaw _ _ _ _ _›) | exact SqL.of (TRaw.a ‹TRaw _ _ _ _ _› rfl)
  | exact ClsV.ty _ | exact TyX.base (.int _) | exact TyX.base (.str _) | exact TyX.base (.tup (by assumption)) | exact kit_int | exact kit_ib | exact kit_ss | exact kit_tt)
local macro_rules | `(tactic| walk_at "re1") => `(tactic| first
  | (apply Exists.intro)
  | (refine And.intro ?_ ?_; (focus (walk_at "se")))
  | (refine L2.iteT ?_)
  | (refine L2.iteF ?_))
local macro_rules | `(tactic| walk_at "re") => `(tactic| repeat (walk_at "re1"))

theorem sc_law_mixed : FnScope ["_law_jar_here", "_law_many", "_law_rest", "_law_found"] ["_law_jar_here", "_law_many"] (defScope s_law_mixed) := ⟨rfl, rfl, rfl, by decide +kernel, rfl, by decide +kernel, by decide +kernel⟩
theorem sc_law_ring : FnScope ["_law_moved_here", "_law_place", "_law_found"] ["_law_moved_here", "_law_place"] (defScope s_law_ring) := ⟨rfl, rfl, rfl, by decide +kernel, rfl, by decide +kernel, by decide +kernel⟩
theorem nV_eraseIdx : ∀ (l : List Nat) (k : Nat), (nV l).eraseIdx k = nV (l.eraseIdx k)
  | [], _ => rfl
  | _ :: _, 0 => rfl
  | x :: r, k + 1 => congrArg (V.int (x : Int) :: ·) (nV_eraseIdx r k)
theorem perm_erase : ∀ (l : List Nat) (k : Nat) (h : k < l.length), l.Perm ([l[k]] ++ l.eraseIdx k)
  | [], k, h => by simp at h
  | x :: r, 0, _ => List.Perm.refl _
  | x :: r, k + 1, h => ((perm_erase r k (by simpa using h)).cons x).trans (List.Perm.swap _ _ _)
abbrev sp_law_mixed (K : PySem.W.Frag) : Sp := P2 fun a b H Q => ∃ (J C : Addr) (many : Nat), a = .ref J ∧ b = .int (many : Int) ∧ Jar H J C ∧ many ≤ 1000 ∧ ∀ H' F od, F ∉ [J, C] → Sub (msk [J, C] H) H' → Jar H' J C → H' F = some (.lst (nV od)) → (List.range many).Perm od → Q (.ref F) H'
theorem ok_law_mixed (T : Tx K mg) : Gd P w K mg base 2 "_law_mixed" ["_law_jar_here", "_law_many"] (sp_law_mixed K) := by
  refine mkd T.F_law_mixed T.g_law_mixed sc_law_mixed P2.ar (fun _ _ _ _ _ _ us hl => match us, hl with | [_, _], _ => rfl) fun cdv A0 outer s0 H vs Q E hr h => ?_
  obtain ⟨_, _, rfl, J, C, many, rfl, rfl, hj, m2, hq⟩ := h
  refine ⟨_, (pss_cons (ps_par (i := 2) (j := 3) rfl sc_law_mixed.nd rfl rfl (by decide) rfl rfl (pa_cons (pe_listRg rfl rfl T.n_list (prg_1 rfl T.n_range (pv 1))) (pa_cons (pe_lst pa_nil) pa_nil)) rfl)
  (pss_cons (ps_while PassesOwn.never (pt_cmpR (op_neD hr.units) (pv 2) (pe_lst pa_nil) (nomark _)) (pss_one (ps_expr (pe_bm PySem.F.plainAttrs_list PySem.F.slot_list_append PySem.F.type_list_append mt_append (pv 3) (pa_cons (pe_bm PySem.F.plainAttrs_list PySem.F.slot_list_pop PySem.F.type_list_pop mt_popAt (pv 2) (pa_cons (cl (ok_law_sip T) hr (pa_cons (pv 0) (pa_cons (pe_callB call_len_seq rfl T.n_len (by decide +kernel) (pa_cons (pv 2) pa_nil)) pa_nil))) pa_nil)) pa_nil)))))
  (pss_one (ps_ret (pv 3))))), ?_⟩
  have hj0 := hj
  walk_at "re"
  refine ⟨RgOk.of_le (by decide) (by omega) (by decide) (by omega), fun R nR => ?_⟩
  refine ⟨by show 0 ≤ sizeLine; decide, fun F nF => ?_⟩
  refine ⟨_, _, rfl, ?_⟩
  have s2 : Sub H (upd (upd H R (.lst (rgV 0 (many : Int)))) F (.lst [])) := (Sub.rfl'.new nR).tr (Sub.rfl'.new nF)
  have hF : (upd (upd H R (.lst (rgV 0 (many : Int)))) F (.lst [])) F = some (.lst (nV [])) := upd_same
  have hR : (upd (upd H R (.lst (rgV 0 (many : Int)))) F (.lst [])) R = some (.lst (nV (List.range many))) := by rw [← rgV_nV]; exact (Sub.rfl'.new nF).at upd_same
  have nRF : R ≠ F := fun e => by rw [e] at nF; rw [upd_same] at nF; cases nF
  have nFH : H F = none := by
    cases q : H F with
    | none => rfl
    | some o => rw [(Sub.rfl'.new nR).at q] at nF; cases nF
  generalize upd (upd H R (.lst (rgV 0 (many : Int)))) F (.lst []) = H2 at s2 hF hR ⊢
  obtain ⟨st0, cs0, jf0⟩ := hj.ex
  have kR : ∀ x ∈ [J, C], R ≠ x := fun x hx e => by
    rcases List.mem_cons.mp hx with z | z
    · rw [e, z, jf0.j] at nR; cases nR
    · rw [e, List.mem_singleton.mp z, jf0.c] at nR; cases nR
  have kF : ∀ x ∈ [J, C], F ≠ x := fun x hx e => by
    rcases List.mem_cons.mp hx with z | z
    · rw [e, z, jf0.j] at nFH; cases nFH
    · rw [e, List.mem_singleton.mp z, jf0.c] at nFH; cases nFH
  have mR : msk [J, C] H R = none := by rw [msk_out (fun h => kR R h rfl)]; exact nR
  have mF : msk [J, C] H F = none := by rw [msk_out (fun h => kF F h rfl)]; exact nFH
  refine ⟨fun m σ H' => Bx (∃ rs fs : List Nat, σ = [some (.ref J), some (.int (many : Int)), some (.ref R), some (.ref F)] ∧ Sub (msk [J, C] H) H' ∧ Jar H' J C ∧ H' R = some (.lst (nV rs)) ∧ H' F = some (.lst (nV fs)) ∧ (List.range many).Perm (fs ++ rs) ∧ m = rs.length),
    ⟨_, List.range many, [], rfl, msk_sub.tr s2, ⟨st0, cs0, s2.at jf0.j, s2.at jf0.c, jf0.ne, jf0.s0, jf0.s1, jf0.nn, jf0.len⟩, hR, hF, List.Perm.refl _, rfl⟩, fun m σ H3 h => ?_⟩
  obtain ⟨rs, fs, rfl, m3, hj3, hR3, hF3, hp, rfl⟩ := h.o
  refine ⟨_, rfl, by show 0 ≤ sizeLine; decide, fun b nb => ?_⟩
  have s4 : Sub H3 (upd H3 b (.lst [])) := Sub.rfl'.new nb
  have hb : (upd H3 b (.lst [])) b = some (.lst []) := upd_same
  generalize upd H3 b (.lst []) = H4 at s4 hb ⊢
  obtain ⟨st3, cs3, jf3⟩ := hj3.ex
  have hj4 : Jar H4 J C := ⟨st3, cs3, s4.at jf3.j, s4.at jf3.c, jf3.ne, jf3.s0, jf3.s1, jf3.nn, jf3.len⟩
  have hR4 := s4.at hR3
  have hF4 := s4.at hF3
  have len := hp.length_eq
  rw [List.length_range, List.length_append] at len
  refine r_ne0 (SqL.of hR4) hb ⟨_, rfl, ?_⟩
  by_cases c : rs = []
  · subst c
    refine ifF (by decide) ?_
    refine ⟨_, rfl, ?_⟩
    rw [List.append_nil] at hp
    exact hq H4 F fs (fun h => kF F h rfl) (m3.tr s4) hj4 hF4 hp
  · refine ifT (by simp [c]) ?_
    have rp : 0 < rs.length := List.length_pos_iff.mpr c
    refine ⟨fun σ H' => Bx (∃ rs2 fs2 : List Nat, σ = [some (.ref J), some (.int (many : Int)), some (.ref R), some (.ref F)] ∧ Sub (msk [J, C] H) H' ∧ Jar H' J C ∧ H' R = some (.lst (nV rs2)) ∧ H' F = some (.lst (nV fs2)) ∧ (List.range many).Perm (fs2 ++ rs2) ∧ rs2.length < rs.length), fun σ H' h => ?_, ?_⟩
    · obtain ⟨rs2, fs2, e1, e2, e3, e4, e5, e6, e7⟩ := h.o
      exact ⟨_, e7, ⟨rs2, fs2, e1, e2, e3, e4, e5, e6, rfl⟩⟩
    refine ⟨_, rfl, tyL hF4, _, rfl, tyL hR4, _, rfl, _, rfl, _, _, rfl, .inl (SqL.of hR4), ?_⟩
    refine ⟨_, _, rfl, J, C, ((nV rs).length : Int), rfl, rfl, hj4, by rw [nV_len]; omega, by rw [nV_len]; omega, fun H5 r m5 hj5 r0 r1 => ?_⟩
    rw [nV_len] at r1
    have hR5 := m5.at (msk_at hR4 (fun h => kR R h rfl))
    have hF5 := m5.at (msk_at hF4 (fun h => kF F h rfl))
    obtain ⟨k, rfl⟩ : ∃ k : Nat, r = (k : Int) := ⟨r.toNat, by omega⟩
    have kl : k < rs.length := by omega
    have hk := List.getElem?_eq_getElem kl
    refine ⟨R, _, _, k, _, rfl, rfl, hR5, by omega, p63 (by omega), ?_, nV_get hk, ?_⟩
    · rw [nV_len, seqIndex_of (by omega) (by omega)]; rfl
    · have hF6 : (upd H5 R (.lst ((nV rs).eraseIdx k))) F = some (.lst (nV fs)) := by rw [upd_ne (Ne.symm nRF)]; exact hF5
      refine ⟨F, _, _, rfl, rfl, hF6, szlt (by rw [nV_len]; omega), ?_⟩
      obtain ⟨st5, cs5, jf5⟩ := hj5.ex
      have nJ : ∀ x ∈ [J, C], ∀ o, H5 x = some o → (upd (upd H5 R (.lst ((nV rs).eraseIdx k))) F (.lst (nV fs ++ [V.int (rs[k] : Int)]))) x = some o := fun x hx o ho => by
        rw [upd_ne (Ne.symm (kF x hx)), upd_ne (Ne.symm (kR x hx))]; exact ho
      have mm : Sub (msk [J, C] H) H5 := fun a o h => by
        by_cases ha : a ∈ [J, C]
        · rw [msk_in ha] at h; cases h
        · exact m5.at (msk_at (s4.at (m3.at h)) ha)
      refine ⟨rs.eraseIdx k, fs ++ [rs[k]], rfl, (mm.upd mR).upd mF, ⟨st5, cs5, nJ J (by simp) _ jf5.j, nJ C (by simp) _ jf5.c, jf5.ne, jf5.s0, jf5.s1, jf5.nn, jf5.len⟩, ?_, ?_, ?_, ?_⟩
      · rw [upd_ne nRF, upd_same, nV_eraseIdx]
      · rw [upd_same, nV_snoc]
      · refine hp.trans ?_
        rw [List.append_assoc]
        exact (perm_erase rs k kl).append_left fs
      · rw [List.length_eraseIdx_of_lt kl]; omega
/-- the table of one step, as the law has it -/
structure TabAt (H : Hp) (M : Addr) (ls : List Int) (od : List Nat) : Prop where
  ex : ∃ fs : List Int, H M = some (.lst (iV fs)) ∧ (fs.length : Int) = exN ls ∧ ∀ p, 0 ≤ p → p < exN ls → fs[p.toNat]? = some (mv ls od p)
theorem TabAt.sub {H H' : Hp} {M : Addr} {ls : List Int} {od : List Nat} (h : TabAt H M ls od) (s : Sub H H') : TabAt H' M ls od := let ⟨fs, a, b⟩ := h.ex; ⟨fs, s.at a, b⟩
theorem TabAt.get {H : Hp} {M : Addr} {ls : List Int} {od : List Nat} (h : TabAt H M ls od) {p : Int} (p0 : 0 ≤ p) (p1 : p < exN ls) : ∃ xs, SqL K H M xs ∧ atI xs p = some (.int (mv ls od p)) := by
  obtain ⟨fs, a, b, c⟩ := h.ex
  refine ⟨iV fs, SqL.of a, ?_⟩
  have := atI_nat (iV_get (c p p0 p1))
  rwa [show ((p.toNat : Nat) : Int) = p by omega] at this
abbrev sp_law_ring (K : PySem.W.Frag) : Sp := P2 fun a b H Q => ∃ (M : Addr) (ls : List Int) (od : List Nat) (p : Int) (z : Nat), a = .ref M ∧ b = .int p ∧ TabAt H M ls od ∧ Ex ls od ∧ 0 ≤ p ∧ p < exN ls ∧ Per (mv ls od) p z ∧ z ≤ 90000 ∧ ∀ H' F, Sub H H' → H F = none → H' F = some (.lst (iV (orb (mv ls od) p z))) → Q (.ref F) H'
theorem ok_law_ring (T : Tx K mg) : Gd P w K mg base 1 "_law_ring" ["_law_moved_here", "_law_place"] (sp_law_ring K) := by
  refine mkd T.F_law_ring T.g_law_ring sc_law_ring P2.ar (fun _ _ _ _ _ _ us hl => match us, hl with | [_, _], _ => rfl) fun cdv A0 outer s0 H vs Q E hr h => ?_
  obtain ⟨_, _, rfl, M, ls, od, p, z, rfl, rfl, ht, ex, p0, p1, per, zl, hq⟩ := h
  refine ⟨_, (pss_cons (ps_set (i := 2) sc_law_ring.nd rfl (by first | exact .inl rfl | exact .inr rfl) (pe_lst (pa_cons (pv 1) pa_nil)))
  (pss_cons (ps_while PassesOwn.never (pt_cmpR op_ne (pe_ix ix_list (pv 0) (pe_ix ix_list (pv 2) (pe_un un_neg pe_int) (fun _ _ => rfl)) (fun _ _ => rfl)) (pv 1) (nomark _)) (pss_one (ps_expr (pe_bm PySem.F.plainAttrs_list PySem.F.slot_list_append PySem.F.type_list_append mt_append (pv 2) (pa_cons (pe_ix ix_list (pv 0) (pe_ix ix_list (pv 2) (pe_un un_neg pe_int) (fun _ _ => rfl)) (fun _ _ => rfl)) pa_nil)))))
  (pss_one (ps_ret (pv 2))))), ?_⟩
  walk_at "re"
  refine ⟨by show 1 ≤ sizeLine; decide, fun F nF => ?_⟩
  have s1 : Sub H (upd H F (.lst [.int p])) := Sub.rfl'.new nF
  have f1 : (upd H F (.lst [.int p])) F = some (.lst (iV (orb (mv ls od) p 1))) := upd_same
  generalize upd H F (.lst [.int p]) = H1 at s1 f1 ⊢
  refine ⟨fun m σ H' => Bx (∃ k, 0 < k ∧ k ≤ z ∧ m = z - k ∧ σ = [some (.ref M), some (.int p), some (.ref F)] ∧ Sub H H' ∧ H' F = some (.lst (iV (orb (mv ls od) p k)))),
    ⟨z - 1, 1, Nat.zero_lt_one, per.pos, rfl, rfl, s1, f1⟩, fun m σ H2 h => ?_⟩
  obtain ⟨k, k0, k1, rfl, rfl, s2, f2⟩ := h.o
  have hl : atI (iV (orb (mv ls od) p k)) (-1) = some (.int (it (mv ls od) (k - 1) p)) := by
    obtain ⟨j, rfl⟩ : ∃ j, k = j + 1 := ⟨k - 1, by omega⟩
    rw [orb_succ]
    have : iV (orb (mv ls od) p j ++ [it (mv ls od) j p]) = iV (orb (mv ls od) p j) ++ [.int (it (mv ls od) j p)] := by unfold iV; rw [List.map_append]; rfl
    rw [this]
    exact atI_last (by rw [iV_len, orb_len]; omega)
  have rng := it_range (fun p a b => mv_range ex a b) (k - 1) p p0 p1
  obtain ⟨xs, hM, hat⟩ := (ht.sub s2).get (K := K) rng.1 rng.2
  have ek : mv ls od (it (mv ls od) (k - 1) p) = it (mv ls od) k p := by
    rw [← it_succ (mv ls od), show k - 1 + 1 = k by omega]
  rw [ek] at hat
  have f2' : SqL K H2 F (iV (orb (mv ls od) p k)) := SqL.of f2
  walk_at "re"
  by_cases c : it (mv ls od) k p = p
  · have ez : k = z := by
      rcases Nat.lt_or_ge k z with q | q
      · exact absurd c (per.min k k0 q)
      · omega
    subst ez
    refine ifF (by rw [c]; simp) ?_
    exact ⟨_, rfl, hq H2 F s2 nF f2⟩
  · refine ifT (by simp [c]) ?_
    have kz : k < z := by
      rcases Nat.lt_or_ge k z with q | q
      · exact q
      · have : k = z := by omega
        subst this
        exact absurd per.back c
    refine ⟨fun σ H' => Bx (σ = [some (.ref M), some (.int p), some (.ref F)] ∧ Sub H H' ∧ H' F = some (.lst (iV (orb (mv ls od) p (k + 1))))), fun σ H' h => ?_, ?_⟩
    · obtain ⟨rfl, a, b⟩ := h.o
      exact ⟨z - (k + 1), by omega, ⟨k + 1, by omega, kz, rfl, rfl, a, b⟩⟩
    · refine ⟨_, rfl, tyL f2, ?_⟩
      walk_at "re"
      refine ⟨szlt (by rw [iV_len, orb_len]; omega), ?_⟩
      refine ⟨rfl, s2.upd ?_, ?_⟩
      · cases q : H F with
        | none => rfl
        | some o => rw [q] at nF; cases nF
      · rw [upd_same, orb_succ]; unfold iV; rw [List.map_append]; rfl
end
end Bt
end
section
set_option Elab.async false
set_option linter.all false
set_option maxRecDepth 100000
set_option maxHeartbeats 2000000
set_option autoImplicit false
namespace Bt
open PySem PySem.Spec PyProof.Rows L2 Rz
section
variable {P : Program} {w : World} {K : PySem.W.Frag} {mg : PySem.Str → Option Value} {base : Heap}
local macro_rules | `(tactic| walk_at "sd") => `(tactic| first
  | rfl | assumption
  | exact Sub.at ‹Sub _ _› (by assumption)
  | exact SqL.of (by assumption) | exact SqT.of (by assumption) | exact SqL.of (Sub.at ‹Sub _ _› (by assumption)) | exact SqT.of (Sub.at ‹Sub _ _› (by assumption))
  | exact Or.inl (SqL.of (by assumption)) | exact Or.inr (SqT.of (by assumption)) | exact Or.inl (SqL.of (Sub.at ‹Sub _ _› (by assumption))) | exact Or.inr (SqT.of (Sub.at ‹Sub _ _› (by assumption)))
  | exact ClsV.ty _ | exact TyX.base (.int _) | exact TyX.base (.str _) | exact TyX.base (.tup (by assumption)) | exact kit_int | exact kit_ib | exact kit_ss | exact kit_tt)
local macro_rules | `(tactic| walk_at "rd1") => `(tactic| first
  | (apply Exists.intro)
  | (refine And.intro ?_ ?_; (focus (walk_at "sd")))
  | (refine L2.iteT ?_)
  | (refine L2.iteF ?_))
local macro_rules | `(tactic| walk_at "rd") => `(tactic| repeat (walk_at "rd1"))
local macro_rules | `(tactic| walk_at "se") => `(tactic| first
  | rfl | assumption
  | exact Sub.at ‹Sub _ _› (by assumption)
  | exact SqL.of (by assumption) | exact SqT.of (by assumption) | exact SqL.of (Sub.at ‹Sub _ _› (by assumption)) | exact SqT.of (Sub.at ‹Sub _ _› (by assumption))
  | exact Or.inl (SqL.of (by assumption)) | exact Or.inr (SqT.of (by assumption)) | exact Or.inl (SqL.of (Sub.at ‹Sub _ _› (by assumption))) | exact Or.inr (SqT.of (Sub.at ‹Sub _ _› (by assumption)))
  | exact TRaw.ins ‹TRaw _ _ _ _ _› | exact TA.miss
  | exact TRaw.n ‹TRaw _ _ _ _ _›
  | exact TRaw.z ‹TRaw _ _ _ _ _›
  | exact TRaw.d ‹TRaw _ _ _ _ _›
  | exact TRaw.r ‹TRaw _ _ _ _ _›
  | exact TRaw.f ‹TRaw _ _ _ _ _›
  | exact TRaw.l ‹TRaw _ _ _ _ _›
  | exact TRaw.u ‹TRaw _ _ _ _ _›
  | exact TRaw.w ‹TRaw _ _ _ _ _› | exact TRaw.a ‹TRaw _ _ _ _ _› rfl
  | exact SqL.of (TRaw.n ‹TRaw _ _ _ _ _›)
  | exact SqL.of (TRaw.z ‹TRaw _ _ _ _ _›)
  | exact SqL.of (TRaw.d ‹TRaw _ _ _ _ _›)
  | exact SqL.of (TRaw.r ‹TRaw _ _ _ _ _›)
  | exact SqL.of (TRaw.f ‹TRaw _ _ _ _ _›)
  | exact SqL.of (TRaw.l ‹TRaw _ _ _ _ _›)
  | exact SqL.of (TRaw.u ‹TRaw _ _ _ _ _›)
  | exact SqL.of (TRaw.w ‹TRaw _ _ _ _ _›) | exact SqL.of (TRaw.a ‹TRaw _ _ _ _ _› rfl)
  | exact ClsV.ty _ | exact TyX.base (.int _) | exact TyX.base (.str _) | exact TyX.base (.tup (by assumption)) | exact kit_int | exact kit_ib | exact kit_ss | exact kit_tt)
local macro_rules | `(tactic| walk_at "re1") => `(tactic| first
  | (apply Exists.intro)
  | (refine And.intro ?_ ?_; (focus (walk_at "se")))
  | (refine L2.iteT ?_)
  | (refine L2.iteF ?_))
local macro_rules | `(tactic| walk_at "re") => `(tactic| repeat (walk_at "re1"))

theorem sc_law_moved : FnScope ["_law_exchange", "_law_lengths", "_law_order", "_law_found", "_law_place", "_law_block", "_law_k"] ["_law_exchange"] (defScope s_law_moved) := ⟨rfl, rfl, rfl, by decide +kernel, rfl, by decide +kernel, by decide +kernel⟩
theorem rep_flat (n : Nat) : (List.replicate n [V.int 0]).flatten = iV (List.replicate n 0) := by
  induction n with
  | zero => rfl
  | succ n ih => rw [List.replicate_succ, List.flatten_cons, ih, List.replicate_succ]; rfl
theorem tot_rg (ls : List Int) : ∀ x, x ≤ ls.length → tot (exL ls) (List.range x) = (ls.take x).sum
  | 0, _ => rfl
  | x + 1, h => by
    rw [List.range_succ, tot_append, tot_rg ls x (by omega), List.take_add_one, List.sum_append]
    have : ls[x]? = some (exL ls x) := by unfold exL; rw [List.getD_eq_getElem?_getD, List.getElem?_eq_getElem (show x < ls.length by omega)]; rfl
    rw [this]
    show _ + (exL ls x + 0) = _ + (exL ls x + 0)
    rfl
theorem pre_rg {ls : List Int} {x : Nat} (h : x < ls.length) : pre (exL ls) (List.range ls.length) x = (ls.take x).sum := by
  have e : List.range ls.length = List.range x ++ (x :: (List.range ls.length).drop (x + 1)) := by
    have h1 : x < (List.range ls.length).length := by rw [List.length_range]; exact h
    have h2 := (List.take_append_drop x (List.range ls.length)).symm
    rw [List.drop_eq_getElem_cons h1, List.getElem_range, List.take_range] at h2
    rw [show min x ls.length = x by omega] at h2
    exact h2
  rw [e, pre_not _ _ _ _ (by simp), pre_self, tot_rg ls x (by omega)]
  omega
abbrev sp_law_moved (K : PySem.W.Frag) : Sp := P1 fun a H Q => ∃ (e : Addr) (ls : List Int) (od : List Nat), a = .ref e ∧ ExT H e ls od ∧ ExOk ls od ∧ exN ls ≤ 40 ∧ ∀ H' M, Sub H H' → H M = none → TabAt H' M ls od → Q (.ref M) H'
theorem ok_law_moved (T : Tx K mg) : Gd P w K mg base 1 "_law_moved" ["_law_exchange"] (sp_law_moved K) := by
  refine mkd T.F_law_moved T.g_law_moved sc_law_moved P1.ar (fun _ _ _ _ _ _ us hl => match us, hl with | [_], _ => rfl) fun cdv A0 outer s0 H vs Q E hr h => ?_
  obtain ⟨_, rfl, e, ls, od, rfl, ⟨l, o, he, hl, ho⟩, ok, n40, hq⟩ := h
  have hl' : SqT K H l (ls.map V.int) := SqT.of hl
  refine ⟨_, (pss_cons (ps_asg (pv 0) (pg_tup rfl (pgs_cons (pg_name (i := 1) sc_law_moved.nd rfl (by first | exact .inl rfl | exact .inr rfl)) (pgs_cons (pg_name (i := 2) sc_law_moved.nd rfl (by first | exact .inl rfl | exact .inr rfl)) pgs_nil))))
  (pss_cons (ps_set (i := 3) sc_law_moved.nd rfl (by first | exact .inl rfl | exact .inr rfl) (pe_op op_rep (pe_lst (pa_cons pe_int pa_nil)) (pe_callB (cr_sumT rfl) rfl T.n_sum (by decide +kernel) (pa_cons (pv 1) pa_nil))))
  (pss_cons (ps_set (i := 4) sc_law_moved.nd rfl (by first | exact .inl rfl | exact .inr rfl) pe_int)
  (pss_cons (ps_for PassesOwn.never rfl (pi_tup (pv 2)) (pg_name (i := 5) sc_law_moved.nd rfl (by first | exact .inl rfl | exact .inr rfl)) (pss_one (ps_for PassesOwn.never rfl (pi_range1 rfl T.n_range (pa_cons (pe_ix ix_tup (pv 1) (pv 5) (fun _ _ => rfl)) pa_nil)) (pg_name (i := 6) sc_law_moved.nd rfl (by first | exact .inl rfl | exact .inr rfl)) (pss_cons (ps_asg (pv 4) (pg_sub (pv 3) (pe_op op_add (pe_callB (cr_sumT rfl) rfl T.n_sum (by decide +kernel) (pa_cons (pe_slice sl_tupA (pv 1) po_none (po_some (pv 5))) pa_nil)) (pv 6)) set_list))
  (pss_one (ps_set (i := 4) sc_law_moved.nd rfl (by first | exact .inl rfl | exact .inr rfl) (pe_op op_add (pv 4) pe_int)))))))
  (pss_one (ps_ret (pv 3))))))), ?_⟩
  walk_at "re"
  refine ⟨by show 1 ≤ sizeLine; decide, fun b nb => ?_⟩
  have s1 : Sub H (upd H b (.lst [.int 0])) := Sub.rfl'.new nb
  have hb : (upd H b (.lst [.int 0])) b = some (.lst [.int 0]) := upd_same
  generalize upd H b (.lst [.int 0]) = H1 at s1 hb ⊢
  have hl1 : SqT K H1 l (ls.map V.int) := SqT.of (s1.at hl)
  walk_at "re"
  have sp0 := sum_pos ok
  have en := exN_sum ls
  refine ⟨by omega, by omega, by rw [sizeLine_eq]; simp; omega, fun M nM => ?_⟩
  rw [rep_flat]
  have s2 : Sub H (upd H1 M (.lst (iV (List.replicate ls.sum.toNat 0)))) := s1.tr (Sub.rfl'.new nM)
  have hM : (upd H1 M (.lst (iV (List.replicate ls.sum.toNat 0)))) M = some (.lst (iV (List.replicate ls.sum.toNat 0))) := upd_same
  have nMH : H M = none := by
    cases q : H M with
    | none => rfl
    | some o => rw [s1.at q] at nM; cases nM
  generalize upd H1 M (.lst (iV (List.replicate ls.sum.toNat 0))) = H2 at s2 hM ⊢
  have hl2 := s2.at hl
  have ho2 := s2.at ho
  walk_at "re"
  refine ⟨⟨_, SqT.of ho2⟩, for_it (walk_tup (xs := nV od)) (fun i σ H' => Bx (∃ (fs : List Int) (o1 o2 : Option V), σ = [some (.ref e), some (.ref l), some (.ref o), some (.ref M), some (.int (tot (exL ls) (od.take i))), o1, o2] ∧ Sub H H' ∧ H' M = some (.lst (iV fs)) ∧ Tab ls od fs i 0))
    ⟨_, none, none, rfl, s2, hM, Tab.zero _ (by omega)⟩ (fun i σ H' _ h => by obtain ⟨_, _, _, _, s, _⟩ := h.o; exact SqT.of (s.at ho)) (fun i v σ Ha Hb hi h hy => ?_) fun σ Ha h => ?_⟩
  · obtain ⟨fs, o1, o2, rfl, sa, hMa, tab⟩ := h.o
    obtain ⟨rfl, hv⟩ := hy
    obtain ⟨x, hx, rfl⟩ := nV_inv hv
    have hxl : x < ls.length := by have := ok.lt x (List.mem_of_getElem? hx); rw [ok.lenO] at this; exact this
    have hgx : ls[x]? = some (exL ls x) := by unfold exL; rw [List.getD_eq_getElem?_getD, List.getElem?_eq_getElem hxl]; rfl
    have hat := atI_nat (iV_get hgx)
    have hla := sa.at hl
    have xp := ok.ex.pos x hxl
    have xle : exL ls x ≤ ls.sum := sum_le_of ls _ ok.pos (List.mem_of_getElem? hgx)
    walk_at "re"
    refine ⟨by omega, by omega, ?_⟩
    refine for_it (walk_range (lo := 0) (n := (exL ls x).toNat)) (fun k σ H' => Bx (∃ (fs : List Int) (o2 : Option V), σ = [some (.ref e), some (.ref l), some (.ref o), some (.ref M), some (.int (tot (exL ls) (od.take i) + (k : Int))), some (.int (x : Int)), o2] ∧ Sub H H' ∧ H' M = some (.lst (iV fs)) ∧ Tab ls od fs i k))
      ⟨fs, o2, by rw [show ((0 : Nat) : Int) = 0 from rfl, Int.add_zero]; rfl, sa, hMa, tab⟩ (fun _ _ _ _ _ => trivial) (fun k v σ Hc Hd hk h hy => ?_) fun σ Hc h => ?_
    · obtain ⟨fs2, o3, rfl, sc, hMc, tab2⟩ := h.o
      obtain ⟨rfl, rfl⟩ := hy
      have hlc := sc.at hl
      refine ⟨_, rfl, _, rfl, ?_⟩
      walk_at "re"
      refine ⟨fun z => ?_, fun _ p np => ?_⟩
      · have := z.2
        rw [HT.sIx_nat, iV_len] at this
        omega
      · rw [cut_to, iV_take]
        have sp : Sub Hd (upd Hd p (.tup (iV (ls.take x)))) := Sub.rfl'.new np
        have hp : (upd Hd p (.tup (iV (ls.take x)))) p = some (.tup (iV (ls.take x))) := upd_same
        generalize upd Hd p (.tup (iV (ls.take x))) = He at sp hp ⊢
        have hp' : SqT K He p ((ls.take x).map V.int) := SqT.of hp
        have hMe := sp.at hMc
        refine ⟨_, _, rfl, hp', ?_⟩
        rw [← pre_rg hxl]
        have pl := Tab.pos_lt ok.ex hxl (k := k) (by omega)
        have tl := tab2.len
        have hix : ixN (iV fs2).length (pre (exL ls) (List.range ls.length) x + (0 + (k : Int))) = some (pre (exL ls) (List.range ls.length) x + (k : Int)).toNat := by
          rw [iV_len, Int.zero_add]
          have e : pre (exL ls) (List.range ls.length) x + (k : Int) = (((pre (exL ls) (List.range ls.length) x + (k : Int)).toNat : Nat) : Int) := by omega
          rw [e]
          exact ix_nat (by omega)
        refine ⟨_, rfl, _, _, rfl, rfl, M, _, _, _, rfl, rfl, hMe, hix, ?_⟩
        rw [iV_set]
        refine ⟨_, rfl, _, _, rfl, rfl, ?_⟩
        refine ⟨fs2.set (pre (exL ls) (List.range ls.length) x + (k : Int)).toNat (tot (exL ls) (od.take i) + (k : Int)), some (.int (0 + (k : Int))), ?_, (sc.tr sp).upd nMH, upd_same, tab2.step ok.ex hx (by omega)⟩
        have e : tot (exL ls) (od.take i) + ((k + 1 : Nat) : Int) = tot (exL ls) (od.take i) + (k : Int) + 1 := by omega
        rw [e]; rfl
    · obtain ⟨fs2, o3, rfl, sc, hMc, tab2⟩ := h.o
      have e1 : tot (exL ls) (od.take (i + 1)) = tot (exL ls) (od.take i) + (((exL ls x).toNat : Nat) : Int) := by
        rw [List.take_add_one, hx]
        show tot (exL ls) (od.take i ++ [x]) = _
        rw [tot_append]
        show _ + (exL ls x + 0) = _
        omega
      refine ⟨fs2, some (.int (x : Int)), o3, ?_, sc, hMc, tab2.next hx (by omega)⟩
      rw [e1]
  · obtain ⟨fs, o1, o2, rfl, sa, hMa, tab⟩ := h.o
    refine ⟨_, rfl, hq Ha M sa nMH ⟨fs, hMa, tab.len, fun p p0 p1 => ?_⟩⟩
    have ln : (nV od).length = od.length := nV_len _
    rw [ln] at tab
    exact tab.done ok.ex p0 p1
end
end Bt
end
section
set_option Elab.async false
set_option linter.all false
set_option maxRecDepth 100000
set_option maxHeartbeats 2000000
set_option autoImplicit false
namespace Bt
open PySem PySem.Spec PyProof.Rows L2 Rz
section
variable {P : Program} {w : World} {K : PySem.W.Frag} {mg : PySem.Str → Option Value} {base : Heap}
local macro_rules | `(tactic| walk_at "sd") => `(tactic| first
  | rfl | assumption
  | exact Sub.at ‹Sub _ _› (by assumption)
  | exact SqL.of (by assumption) | exact SqT.of (by assumption) | exact SqL.of (Sub.at ‹Sub _ _› (by assumption)) | exact SqT.of (Sub.at ‹Sub _ _› (by assumption))
  | exact Or.inl (SqL.of (by assumption)) | exact Or.inr (SqT.of (by assumption)) | exact Or.inl (SqL.of (Sub.at ‹Sub _ _› (by assumption))) | exact Or.inr (SqT.of (Sub.at ‹Sub _ _› (by assumption)))
  | exact ClsV.ty _ | exact TyX.base (.int _) | exact TyX.base (.str _) | exact TyX.base (.tup (by assumption)) | exact kit_int | exact kit_ib | exact kit_ss | exact kit_tt)
local macro_rules | `(tactic| walk_at "rd1") => `(tactic| first
  | (apply Exists.intro)
  | (refine And.intro ?_ ?_; (focus (walk_at "sd")))
  | (refine L2.iteT ?_)
  | (refine L2.iteF ?_))
local macro_rules | `(tactic| walk_at "rd") => `(tactic| repeat (walk_at "rd1"))
local macro_rules | `(tactic| walk_at "se") => `(tactic| first
  | rfl | assumption
  | exact Sub.at ‹Sub _ _› (by assumption)
  | exact SqL.of (by assumption) | exact SqT.of (by assumption) | exact SqL.of (Sub.at ‹Sub _ _› (by assumption)) | exact SqT.of (Sub.at ‹Sub _ _› (by assumption))
  | exact Or.inl (SqL.of (by assumption)) | exact Or.inr (SqT.of (by assumption)) | exact Or.inl (SqL.of (Sub.at ‹Sub _ _› (by assumption))) | exact Or.inr (SqT.of (Sub.at ‹Sub _ _› (by assumption)))
  | exact TRaw.ins ‹TRaw _ _ _ _ _› | exact TA.miss
  | exact TRaw.n ‹TRaw _ _ _ _ _›
  | exact TRaw.z ‹TRaw _ _ _ _ _›
  | exact TRaw.d ‹TRaw _ _ _ _ _›
  | exact TRaw.r ‹TRaw _ _ _ _ _›
  | exact TRaw.f ‹TRaw _ _ _ _ _›
  | exact TRaw.l ‹TRaw _ _ _ _ _›
  | exact TRaw.u ‹TRaw _ _ _ _ _›
  | exact TRaw.w ‹TRaw _ _ _ _ _› | exact TRaw.a ‹TRaw _ _ _ _ _› rfl
  | exact SqL.of (TRaw.n ‹TRaw _ _ _ _ _›)
  | exact SqL.of (TRaw.z ‹TRaw _ _ _ _ _›)
  | exact SqL.of (TRaw.d ‹TRaw _ _ _ _ _›)
  | exact SqL.of (TRaw.r ‹TRaw _ _ _ _ _›)
  | exact SqL.of (TRaw.f ‹TRaw _ _ _ _ _›)
  | exact SqL.of (TRaw.l ‹TRaw _ _ _ _ _›)
  | exact SqL.of (TRaw.u ‹TRaw _ _ _ _ _›)
  | exact SqL.of (TRaw.w ‹TRaw _ _ _ _ _›) | exact SqL.of (TRaw.a ‹TRaw _ _ _ _ _› rfl)
  | exact ClsV.ty _ | exact TyX.base (.int _) | exact TyX.base (.str _) | exact TyX.base (.tup (by assumption)) | exact kit_int | exact kit_ib | exact kit_ss | exact kit_tt)
local macro_rules | `(tactic| walk_at "re1") => `(tactic| first
  | (apply Exists.intro)
  | (refine And.intro ?_ ?_; (focus (walk_at "se")))
  | (refine L2.iteT ?_)
  | (refine L2.iteF ?_))
local macro_rules | `(tactic| walk_at "re") => `(tactic| repeat (walk_at "re1"))

theorem sc_law_jar : FnScope ["_law_script", "_law_stirred", "_law_cell"] ["_law_script"] (defScope s_law_jar) := ⟨rfl, rfl, rfl, by decide +kernel, rfl, by decide +kernel, by decide +kernel⟩
theorem sql_sub {K : PySem.W.Frag} {H H' : Hp} {a : Addr} {xs : List V} (h : SqL K H a xs) (s : Sub H H') : SqL K H' a xs := by
  rcases h with (h | ⟨o, h⟩) | h
  · exact .inl (.inl (s.at h))
  · exact .inl (.inr ⟨o, s.at h⟩)
  · exact .inr h
abbrev sp_law_jar (K : PySem.W.Frag) : Sp := P1 fun a H Q => ∃ (S : Addr) (xs : List Int), a = .ref S ∧ SqL K H S (iV xs) ∧ xs.length ≤ 1000 ∧ ∀ H' J C, Sub H H' → Jar H' J C → H J = none → H C = none → Q (.ref J) H'
theorem ok_law_jar (T : Tx K mg) : Gd P w K mg base 1 "_law_jar" ["_law_script"] (sp_law_jar K) := by
  refine mkd T.F_law_jar T.g_law_jar sc_law_jar P1.ar (fun _ _ _ _ _ _ us hl => match us, hl with | [_], _ => rfl) fun cdv A0 outer s0 H vs Q E hr h => ?_
  obtain ⟨_, rfl, S, xs, rfl, hS, hn, hq⟩ := h
  have m1 : (0 : Int) < 998244353 := by decide
  have m2 : (0 : Int) < 4294967291 := by decide
  refine ⟨_, (pss_cons (ps_set (i := 1) sc_law_jar.nd rfl (by first | exact .inl rfl | exact .inr rfl) (pe_op op_add pe_int (pe_callB call_len_seq rfl T.n_len (by decide +kernel) (pa_cons (pv 0) pa_nil))))
  (pss_cons (ps_for PassesOwn.never rfl (pi_list (pv 0)) (pg_name (i := 2) sc_law_jar.nd rfl (by first | exact .inl rfl | exact .inr rfl)) (pss_one (ps_set (i := 1) sc_law_jar.nd rfl (by first | exact .inl rfl | exact .inr rfl) (pe_op op_mod (pe_op op_add (pe_op op_mul (pv 1) pe_int) (pe_op op_mod (pe_callB call_abs rfl T.n_abs (by decide +kernel) (pa_cons (pv 2) pa_nil)) pe_int)) pe_int))))
  (pss_one (ps_ret (pe_lst (pa_cons (pe_revL (pe_lc (own := [("_law_cell", 2)]) (g := (gName 2)) (tt := (tTest (tOp (rI0 fun i j => .bl (decide (j ≤ i))) (tVar 2) (tOp (rI CPow fun i j => .int (i ^ j.toNat)) (tC (.int 10)) (tC (.int 18)))))) (te := (tVar 2)) rfl sc_law_jar.nd (pi_list (pv 0)) (blkOk_by (N := ["_law_script", "_law_stirred", "_law_cell"]) (sc := defScope s_law_jar) (by decide +kernel)) (fun _ _ _ _ _ => (pg_name (i := 2) sc_law_jar.nd rfl (by first | exact .inl rfl | exact .inr rfl))) (fun _ _ _ _ _ => (pts_one (pt_cmpR op_ge (pv 2) (pe_op op_pow pe_int pe_int) (nomark _)))) (fun _ _ _ _ _ => (pv 2)))) (pa_cons (pv 1) pa_nil))))))), ?_⟩
  walk_at "re"
  refine ⟨.inl hS, ?_⟩
  walk_at "re"
  refine ⟨⟨_, hS⟩, for_it (walk_list (xs := iV xs)) (fun i σ H' => Bx (H' = H ∧ ∃ (st : Int) (o1 : Option V), σ = [some (.ref S), some (.int st), o1] ∧ 0 ≤ st ∧ st < 4294967291))
    ⟨rfl, _, _, rfl, by omega, by rw [iV_len]; omega⟩ (fun i σ H' _ h => by rw [h.o.1]; exact hS) (fun i v σ Ha Hb hi h hy => ?_) fun σ Ha h => ?_⟩
  · obtain ⟨rfl, st, o1, rfl, g0, g1⟩ := h.o
    obtain ⟨rfl, hv⟩ := hy
    obtain ⟨c, hc, rfl⟩ := iV_inv hv
    have c1 : CMul st 69069 := cmulL (by omega) (by omega)
    walk_at "re"
    exact ⟨rfl, _, _, rfl, Int.emod_nonneg _ (by decide), Int.emod_lt_of_pos _ (by decide)⟩
  · obtain ⟨rfl, st, o1, rfl, g0, g1⟩ := h.o
    walk_at "re"
    refine ⟨⟨_, hS⟩, fun D hD => lc_it (walk_list (xs := iV xs)) (fun i H' => Bx (Sub Ha H' ∧ ∃ acc : List Int, H' D = some (.lst (iV acc)) ∧ acc.length ≤ i ∧ ∀ x ∈ acc, 0 ≤ x))
      ⟨Sub.rfl'.new hD, [], upd_same, Nat.le_refl _, fun x hx => by simp at hx⟩ (fun i H' _ h => sql_sub hS h.o.1) (fun i v Hb Hc hi h hy => ?_) fun Hb h => ?_⟩
    · obtain ⟨s2, acc, hA, hl, hnn⟩ := h.o
      obtain ⟨rfl, hv⟩ := hy
      obtain ⟨c, hc, rfl⟩ := iV_inv hv
      rw [iV_len] at hi
      have hcut : (iV acc).length < sizeLine := szlt (by rw [iV_len]; omega)
      have cpw : CPow 10 18 := ⟨by decide, by decide, by decide⟩
      refine ⟨rfl, ?_⟩
      walk_at "re"
      refine L2.ite2 (fun z => ?_) fun z => ?_
      · have z' : 10 ^ 18 ≤ c := of_decide_eq_true z
        walk_at "re"
        have c0 : 0 ≤ c := by
          have : (10 : Int) ^ 18 = 1000000000000000000 := by decide
          omega
        refine ⟨s2.upd hD, acc ++ [c], ?_, by rw [List.length_append]; show acc.length + 1 ≤ _; omega, fun x hx => ?_⟩
        · rw [upd_same]; unfold iV; rw [List.map_append]; rfl
        · rcases List.mem_append.mp hx with q | q
          · exact hnn x q
          · rw [List.mem_singleton.mp q]; exact c0
      · exact ⟨s2, acc, hA, by omega, hnn⟩
    · obtain ⟨s2, acc, hA, hl, hnn⟩ := h.o
      walk_at "re"
      intro C nC
      have er : (iV acc).reverse = iV acc.reverse := by unfold iV; rw [List.map_reverse]
      refine ⟨_, rfl, by show 2 ≤ sizeLine; decide, fun J nJ => ?_⟩
      have s3 : Sub Hb (upd (upd Hb C (.lst (iV acc).reverse)) J (.lst [.ref C, .int st])) := (Sub.rfl'.new nC).tr (Sub.rfl'.new nJ)
      have hC : (upd (upd Hb C (.lst (iV acc).reverse)) J (.lst [.ref C, .int st])) C = some (.lst (iV acc.reverse)) := by rw [← er]; exact (Sub.rfl'.new nJ).at upd_same
      refine hq _ J C (s2.tr s3) ⟨st, acc.reverse, upd_same, hC, fun e => ?_, g0, g1, fun x hx => hnn x (List.mem_reverse.mp hx), by rw [List.length_reverse]; rw [iV_len] at hl; omega⟩ ?_ ?_
      · rw [e, upd_same] at nJ; cases nJ
      · cases q : Ha J with
        | none => rfl
        | some o => rw [(s2.tr (Sub.rfl'.new nC)).at q] at nJ; cases nJ
      · cases q : Ha C with
        | none => rfl
        | some o => rw [s2.at q] at nC; cases nC
end
end Bt
end
section
set_option Elab.async false
set_option linter.all false
set_option maxRecDepth 100000
set_option maxHeartbeats 2000000
set_option autoImplicit false
namespace Bt
open PySem PySem.Spec PyProof.Rows L2 Rz
section
variable {P : Program} {w : World} {K : PySem.W.Frag} {mg : PySem.Str → Option Value} {base : Heap}
local macro_rules | `(tactic| walk_at "sd") => `(tactic| first
  | rfl | assumption
  | exact Sub.at ‹Sub _ _› (by assumption)
  | exact SqL.of (by assumption) | exact SqT.of (by assumption) | exact SqL.of (Sub.at ‹Sub _ _› (by assumption)) | exact SqT.of (Sub.at ‹Sub _ _› (by assumption))
  | exact Or.inl (SqL.of (by assumption)) | exact Or.inr (SqT.of (by assumption)) | exact Or.inl (SqL.of (Sub.at ‹Sub _ _› (by assumption))) | exact Or.inr (SqT.of (Sub.at ‹Sub _ _› (by assumption)))
  | exact ClsV.ty _ | exact TyX.base (.int _) | exact TyX.base (.str _) | exact TyX.base (.tup (by assumption)) | exact kit_int | exact kit_ib | exact kit_ss | exact kit_tt)
local macro_rules | `(tactic| walk_at "rd1") => `(tactic| first
  | (apply Exists.intro)
  | (refine And.intro ?_ ?_; (focus (walk_at "sd")))
  | (refine L2.iteT ?_)
  | (refine L2.iteF ?_))
local macro_rules | `(tactic| walk_at "rd") => `(tactic| repeat (walk_at "rd1"))
local macro_rules | `(tactic| walk_at "se") => `(tactic| first
  | rfl | assumption
  | exact Sub.at ‹Sub _ _› (by assumption)
  | exact SqL.of (by assumption) | exact SqT.of (by assumption) | exact SqL.of (Sub.at ‹Sub _ _› (by assumption)) | exact SqT.of (Sub.at ‹Sub _ _› (by assumption))
  | exact Or.inl (SqL.of (by assumption)) | exact Or.inr (SqT.of (by assumption)) | exact Or.inl (SqL.of (Sub.at ‹Sub _ _› (by assumption))) | exact Or.inr (SqT.of (Sub.at ‹Sub _ _› (by assumption)))
  | exact TRaw.ins ‹TRaw _ _ _ _ _› | exact TA.miss
  | exact TRaw.n ‹TRaw _ _ _ _ _›
  | exact TRaw.z ‹TRaw _ _ _ _ _›
  | exact TRaw.d ‹TRaw _ _ _ _ _›
  | exact TRaw.r ‹TRaw _ _ _ _ _›
  | exact TRaw.f ‹TRaw _ _ _ _ _›
  | exact TRaw.l ‹TRaw _ _ _ _ _›
  | exact TRaw.u ‹TRaw _ _ _ _ _›
  | exact TRaw.w ‹TRaw _ _ _ _ _› | exact TRaw.a ‹TRaw _ _ _ _ _› rfl
  | exact SqL.of (TRaw.n ‹TRaw _ _ _ _ _›)
  | exact SqL.of (TRaw.z ‹TRaw _ _ _ _ _›)
  | exact SqL.of (TRaw.d ‹TRaw _ _ _ _ _›)
  | exact SqL.of (TRaw.r ‹TRaw _ _ _ _ _›)
  | exact SqL.of (TRaw.f ‹TRaw _ _ _ _ _›)
  | exact SqL.of (TRaw.l ‹TRaw _ _ _ _ _›)
  | exact SqL.of (TRaw.u ‹TRaw _ _ _ _ _›)
  | exact SqL.of (TRaw.w ‹TRaw _ _ _ _ _›) | exact SqL.of (TRaw.a ‹TRaw _ _ _ _ _› rfl)
  | exact ClsV.ty _ | exact TyX.base (.int _) | exact TyX.base (.str _) | exact TyX.base (.tup (by assumption)) | exact kit_int | exact kit_ib | exact kit_ss | exact kit_tt)
local macro_rules | `(tactic| walk_at "re1") => `(tactic| first
  | (apply Exists.intro)
  | (refine And.intro ?_ ?_; (focus (walk_at "se")))
  | (refine L2.iteT ?_)
  | (refine L2.iteF ?_))
local macro_rules | `(tactic| walk_at "re") => `(tactic| repeat (walk_at "re1"))

theorem sc_law_small : FnScope ["_law_jar_here", "_law_most", "_law_many", "_law_lengths", "_law_turn", "_law_at", "_law_order"] ["_law_jar_here", "_law_most"] (defScope s_law_small) := ⟨rfl, rfl, rfl, by decide +kernel, rfl, by decide +kernel, by decide +kernel⟩
theorem JarF.sub {H H' : Hp} {J C : Addr} {st : Int} {cs : List Int} (h : JarF H J C st cs) (s : Sub H H') : JarF H' J C st cs := ⟨s.at h.j, s.at h.c, h.ne, h.s0, h.s1, h.nn, h.len⟩
theorem Jar.sub {H H' : Hp} {J C : Addr} (h : Jar H J C) (s : Sub H H') : Jar H' J C := let ⟨st, cs, a⟩ := h.ex; ⟨st, cs, a.sub s⟩
theorem Jar.out {H : Hp} {J C p : Addr} (h : Jar H J C) (np : H p = none) : p ∉ [J, C] := fun hx => by
  obtain ⟨st, cs, j⟩ := h.ex
  rcases List.mem_cons.mp hx with z | z
  · rw [z, j.j] at np; cases np
  · rw [List.mem_singleton.mp z, j.c] at np; cases np
theorem sum_rep1 (n : Nat) : (List.replicate n (1 : Int)).sum = (n : Int) := by
  induction n with
  | zero => rfl
  | succ n ih => rw [List.replicate_succ, List.sum_cons, ih]; omega
theorem Jar.off {H : Hp} {J C p : Addr} {o : HO} (h : Jar H J C) (np : p ∉ [J, C]) : Jar (upd H p o) J C := by
  obtain ⟨st, cs, j⟩ := h.ex
  exact ⟨st, cs, by rw [upd_ne (fun e => np (by rw [← e]; simp))]; exact j.j, by rw [upd_ne (fun e => np (by rw [← e]; simp))]; exact j.c, j.ne, j.s0, j.s1, j.nn, j.len⟩
theorem sum_set : ∀ (l : List Int) (j : Nat) (h : j < l.length), (l.set j (l[j] + 1)).sum = l.sum + 1
  | [], j, h => by simp at h
  | x :: r, 0, _ => by
    show (x + 1) + r.sum = x + r.sum + 1
    omega
  | x :: r, j + 1, h => by
    show x + (r.set j (r[j]'(by simpa using h) + 1)).sum = x + r.sum + 1
    rw [sum_set r j (by simpa using h)]
    omega
theorem rep_flat1 (n : Nat) : (List.replicate n [V.int 1]).flatten = iV (List.replicate n 1) := by
  induction n with
  | zero => rfl
  | succ n ih => rw [List.replicate_succ, List.flatten_cons, ih, List.replicate_succ]; rfl
abbrev sp_law_small (K : PySem.W.Frag) : Sp := P2 fun a b H Q => ∃ (J C : Addr) (most : Int), a = .ref J ∧ b = .int most ∧ Jar H J C ∧ 6 ≤ most ∧ most ≤ 40 ∧ ∀ H' e ls od, Sub (msk [J, C] H) H' → Jar H' J C → ExT H' e ls od → ExOk ls od → exN ls ≤ most → Q (.ref e) H'
theorem ok_law_small (T : Tx K mg) : Gd P w K mg base 3 "_law_small" ["_law_jar_here", "_law_most"] (sp_law_small K) := by
  refine mkd T.F_law_small T.g_law_small sc_law_small P2.ar (fun _ _ _ _ _ _ us hl => match us, hl with | [_, _], _ => rfl) fun cdv A0 outer s0 H vs Q E hr h => ?_
  obtain ⟨_, _, rfl, J, C, most, rfl, rfl, hj, m6, m40, hq⟩ := h
  refine ⟨_, (pss_cons (ps_set (i := 2) sc_law_small.nd rfl (by first | exact .inl rfl | exact .inr rfl) (pe_op op_add pe_int (cl (ok_law_sip T) hr (pa_cons (pv 0) (pa_cons (pe_callB (call_min2 rfl) rfl T.n_min (by decide +kernel) (pa_cons pe_int (pa_cons (pv 1) pa_nil))) pa_nil)))))
  (pss_cons (ps_set (i := 3) sc_law_small.nd rfl (by first | exact .inl rfl | exact .inr rfl) (pe_op op_rep (pe_lst (pa_cons pe_int pa_nil)) (pv 2)))
  (pss_cons (ps_for PassesOwn.never rfl (pi_range1 rfl T.n_range (pa_cons (cl (ok_law_sip T) hr (pa_cons (pv 0) (pa_cons (pe_op op_add (pe_op op_sub (pv 1) (pv 2)) pe_int) pa_nil))) pa_nil)) (pg_name (i := 4) sc_law_small.nd rfl (by first | exact .inl rfl | exact .inr rfl)) (pss_cons (ps_set (i := 5) sc_law_small.nd rfl (by first | exact .inl rfl | exact .inr rfl) (cl (ok_law_sip T) hr (pa_cons (pv 0) (pa_cons (pv 2) pa_nil))))
  (pss_one (ps_asg (pe_op op_add (pe_ix ix_list (pv 3) (pv 5) (fun _ _ => rfl)) pe_int) (pg_sub (pv 3) (pv 5) set_list)))))
  (pss_cons (ps_set (i := 6) sc_law_small.nd rfl (by first | exact .inl rfl | exact .inr rfl) (pe_ix ix_list (pe_lst (pa_cons (cl (ok_law_mixed T) hr (pa_cons (pv 0) (pa_cons (pv 2) pa_nil))) (pa_cons (pe_revL (pe_listRg rfl rfl T.n_list (prg_1 rfl T.n_range (pv 2)))) pa_nil))) (cl (ok_law_sip T) hr (pa_cons (pv 0) (pa_cons pe_int pa_nil))) (fun _ _ => rfl)))
  (pss_one (ps_ret (pe_tup (pa_cons (pe_callTy call_tuple_of rfl T.n_tuple (by decide +kernel) (pa_cons (pv 3) pa_nil)) (pa_cons (pe_callTy call_tuple_of rfl T.n_tuple (by decide +kernel) (pa_cons (pv 6) pa_nil)) pa_nil))))))))), ?_⟩
  walk_at "re"
  refine ⟨by split <;> omega, by split <;> omega, fun H1 r m1 hj1 r0 r1 => ?_⟩
  obtain ⟨k, rfl⟩ : ∃ k : Nat, r = (k : Int) := ⟨r.toNat, by omega⟩
  have k6 : k < 6 := by split at r1 <;> omega
  walk_at "re"
  refine ⟨by show 1 ≤ sizeLine; decide, fun b nb => ?_⟩
  have s2 : Sub H1 (upd H1 b (.lst [.int 1])) := Sub.rfl'.new nb
  have hb : (upd H1 b (.lst [.int 1])) b = some (.lst [.int 1]) := upd_same
  have hj2 := hj1.sub s2
  generalize upd H1 b (.lst [.int 1]) = H2 at s2 hb hj2 ⊢
  walk_at "re"
  refine ⟨by omega, by omega, by rw [sizeLine_eq]; simp; omega, fun L nL => ?_⟩
  rw [rep_flat1]
  have s3 : Sub H2 (upd H2 L (.lst (iV (List.replicate (1 + (k : Int)).toNat 1)))) := Sub.rfl'.new nL
  have hL : (upd H2 L (.lst (iV (List.replicate (1 + (k : Int)).toNat 1)))) L = some (.lst (iV (List.replicate (1 + (k : Int)).toNat 1))) := upd_same
  have hj3 := hj2.sub s3
  generalize upd H2 L (.lst (iV (List.replicate (1 + (k : Int)).toNat 1))) = H3 at s3 hL hj3 ⊢
  walk_at "re"
  refine ⟨by omega, by omega, fun H4 tn m4 hj4 tn0 tn1 => ?_⟩
  obtain ⟨n, rfl⟩ : ∃ n : Nat, tn = (n : Int) := ⟨tn.toNat, by omega⟩
  walk_at "re"
  have M1 : Sub (msk [J, C] H) H2 := m1.tr s2
  have M3 : Sub (msk [J, C] H) H3 := M1.tr s3
  have mL : msk [J, C] H L = none := M1.fresh nL
  have oL : L ∉ [J, C] := hj2.out nL
  have M4 : Sub (msk [J, C] H) H4 := fun a o h => m4.at (msk_at (M3.at h) (fun z => by rw [msk_in z] at h; cases h))
  have hL4 := m4.at (msk_at hL oL)
  refine ⟨by omega, by omega, ?_⟩
  refine for_it (walk_range (lo := 0) (n := n)) (fun i σ H' => Bx (∃ (lens : List Int) (o4 o5 : Option V), σ = [some (.ref J), some (.int most), some (.int (1 + (k : Int))), some (.ref L), o4, o5, none] ∧ Sub (msk [J, C] H) H' ∧ Jar H' J C ∧ H' L = some (.lst (iV lens)) ∧ lens.length = 1 + k ∧ (∀ x ∈ lens, 1 ≤ x) ∧ lens.sum = 1 + (k : Int) + (i : Int)))
    ⟨_, none, none, rfl, M4, hj4, hL4, by rw [List.length_replicate]; omega, fun x hx => by rw [(List.mem_replicate.mp hx).2]; omega, by rw [sum_rep1]; omega⟩ (fun _ _ _ _ _ => trivial) (fun i v σ Ha Hb hi h hy => ?_) fun σ Ha h => ?_
  · obtain ⟨lens, o4, o5, rfl, ma, hja, hLa, hlen, hge, hsum⟩ := h.o
    obtain ⟨rfl, rfl⟩ := hy
    walk_at "re"
    refine ⟨by omega, by omega, fun Hc a mc hjc a0 a1 => ?_⟩
    obtain ⟨j, rfl⟩ : ∃ j : Nat, a = (j : Int) := ⟨a.toNat, by omega⟩
    have hLc := mc.at (msk_at hLa oL)
    have hjl : j < lens.length := by omega
    have hg := List.getElem?_eq_getElem hjl
    have hat := atI_nat (iV_get hg)
    have hix : ixN (iV lens).length (j : Int) = some j := ix_nat (by rw [iV_len]; exact hjl)
    walk_at "re"
    rw [iV_set]
    have mc2 : Sub (msk [J, C] H) Hc := fun a o h => mc.at (msk_at (ma.at h) (fun z => by rw [msk_in z] at h; cases h))
    refine ⟨lens.set j (lens[j] + 1), _, _, rfl, mc2.upd mL, hjc.off oL, upd_same, by rw [List.length_set]; exact hlen, fun x hx => ?_, ?_⟩
    · rcases List.mem_or_eq_of_mem_set hx with z | z
      · exact hge x z
      · have := hge _ (List.getElem_mem hjl)
        omega
    · rw [sum_set lens j hjl, hsum]; omega
  · obtain ⟨lens, o4, o5, rfl, ma, hja, hLa, hlen, hge, hsum⟩ := h.o
    walk_at "re"
    refine ⟨by show 1 + k ≤ 1000; omega, fun H5 F od oF m5 hj5 hF hperm => ?_⟩
    have hL5 := m5.at (msk_at hLa oL)
    have M5 : Sub (msk [J, C] H) H5 := fun a o h => m5.at (msk_at (ma.at h) (fun z => by rw [msk_in z] at h; cases h))
    walk_at "re"
    refine ⟨RgOk.of_le (by decide) (by omega) (by decide) (by omega), fun R nR => ?_⟩
    have e1 : rgV 0 (1 + (k : Int)) = nV (List.range (1 + k)) := by rw [← rgV_nV]; congr 1
    rw [e1]
    have s6 : Sub H5 (upd H5 R (.lst (nV (List.range (1 + k))))) := Sub.rfl'.new nR
    have hR : (upd H5 R (.lst (nV (List.range (1 + k))))) R = some (.lst (nV (List.range (1 + k)))) := upd_same
    generalize upd H5 R (.lst (nV (List.range (1 + k)))) = H6 at s6 hR ⊢
    refine ⟨R, _, rfl, SqL.of hR, fun R2 nR2 => ?_⟩
    have e2 : (nV (List.range (1 + k))).reverse = nV (List.range (1 + k)).reverse := by unfold nV; rw [List.map_reverse]
    rw [e2]
    have s7 : Sub H6 (upd H6 R2 (.lst (nV (List.range (1 + k)).reverse))) := Sub.rfl'.new nR2
    have hR2 : (upd H6 R2 (.lst (nV (List.range (1 + k)).reverse))) R2 = some (.lst (nV (List.range (1 + k)).reverse)) := upd_same
    generalize upd H6 R2 (.lst (nV (List.range (1 + k)).reverse)) = H7 at s7 hR2 ⊢
    refine ⟨by show 2 ≤ sizeLine; decide, fun B nB => ?_⟩
    have s8 : Sub H7 (upd H7 B (.lst [.ref F, .ref R2])) := Sub.rfl'.new nB
    have hB : (upd H7 B (.lst [.ref F, .ref R2])) B = some (.lst [.ref F, .ref R2]) := upd_same
    generalize upd H7 B (.lst [.ref F, .ref R2]) = H8 at s8 hB ⊢
    have hj8 := hj5.sub (s6.tr (s7.tr s8))
    have oB : B ∉ [J, C] := (hj5.sub (s6.tr s7)).out nB
    have oR : R2 ∉ [J, C] := (hj5.sub s6).out nR2
    walk_at "re"
    refine ⟨by omega, by omega, fun H9 r m9 hj9 q0 q1 => ?_⟩
    have hB9 := m9.at (msk_at hB oB)
    have hL9 := m9.at (msk_at ((s6.tr (s7.tr s8)).at hL5) oL)
    have M9 : Sub (msk [J, C] H) H9 := fun a o h => m9.at (msk_at ((s6.tr (s7.tr s8)).at (M5.at h)) (fun z => by rw [msk_in z] at h; cases h))
    obtain ⟨O, od2, hO, hp2, hat2⟩ : ∃ O od2, H9 O = some (.lst (nV od2)) ∧ (List.range (1 + k)).Perm od2 ∧ atI [V.ref F, V.ref R2] r = some (.ref O) := by
      by_cases c : r = 0
      · subst c
        exact ⟨F, od, m9.at (msk_at ((s6.tr (s7.tr s8)).at hF) oF), hperm, rfl⟩
      · obtain rfl : r = 1 := by omega
        exact ⟨R2, _, m9.at (msk_at (s8.at hR2) oR), (List.reverse_perm _).symm, rfl⟩
    refine ⟨_, _, _, _, rfl, rfl, SqL.of hB9, hat2, ?_⟩
    refine ⟨_, rfl, L, _, rfl, .inl ⟨SqL.of hL9, fun p1 n1 => ?_⟩⟩
    have s10 : Sub H9 (upd H9 p1 (.tup (iV lens))) := Sub.rfl'.new n1
    have hp1 : (upd H9 p1 (.tup (iV lens))) p1 = some (.tup (iV lens)) := upd_same
    generalize upd H9 p1 (.tup (iV lens)) = H10 at s10 hp1 ⊢
    refine ⟨_, rfl, O, _, rfl, .inl ⟨SqL.of (s10.at hO), fun p2 n2 => ?_⟩⟩
    have s11 : Sub H10 (upd H10 p2 (.tup (nV od2))) := Sub.rfl'.new n2
    have hp3 : (upd H10 p2 (.tup (nV od2))) p2 = some (.tup (nV od2)) := upd_same
    generalize upd H10 p2 (.tup (nV od2)) = H11 at s11 hp3 ⊢
    refine ⟨by show 2 ≤ sizeLine; decide, fun e ne => ?_⟩
    have s12 := (Sub.rfl' (G := H11)).new (o := .tup [.ref p1, .ref p2]) ne
    have ex : Ex lens od2 := ⟨fun x hx => by
      unfold exL
      rw [List.getD_eq_getElem?_getD, List.getElem?_eq_getElem hx]
      exact hge _ (List.getElem_mem hx), by rw [hlen]; exact hp2⟩
    refine hq _ e lens od2 (M9.tr (s10.tr (s11.tr s12))) ((hj9.sub s10).sub (s11.tr s12)) ⟨p1, p2, upd_same, s12.at (s11.at hp1), s12.at hp3⟩ ⟨ex, by omega, by omega, by omega⟩ ?_
    rw [exN_sum, hsum]
    have : (n : Int) ≤ most - 1 - (k : Int) := by omega
    omega
end
end Bt
end
section
set_option Elab.async false
set_option linter.all false
set_option maxRecDepth 100000
set_option maxHeartbeats 2000000
set_option autoImplicit false
namespace Bt
open PySem PySem.Spec PyProof.Rows L2
/-! ### len, str of an instance by its own __len__, __str__ -/
section
variable {X : Cx} {j k : Nat} {C : Addr} {sp : Sp} {e : Expr} {ta : TE} {p pos : Pos}
/-- the value of a call of a method of an instance, one level in -/
theorem run_in1 {pins : List (Addr × Obj)} {σ : L2.St} {H : Hp} {s : Shared} {Q : VK} {f a : Addr} {fd : FuncData} {ps : List PySem.Str} {E : Value → Shared → Prop} (F : FnOk X.prog X.w X.K X.mg X.base CX0 j f fd ps sp) (hr : Room (j + 1) X.A) (hb : Binds X.K fd ps []) (I : Inv X pins σ H s)
    (h : sp [.ref a] H Q E0) : wpAny (model X.prog X.w) X.A.in1 (call (.ref f) [.ref a]) (EP X pins σ Q) E s := by
  have hl : ([Value.ref a] ++ ([] : List Value)).length = ps.length := (F.len _ _ _ _ h)
  refine wpAny_call (codeAny_mono (F.run X.A.in1 X.stack s H ⟨[.ref a], []⟩ [.ref a] [.ref a] Q E0 hr.in1 I.env0.in1 (hb s [.ref a] I.kIn hl) (.cons rfl .nil) h) fun r s' hq => ?_)
  cases r with
  | error er => exact False.elim hq
  | ok fl =>
    cases fl with
    | ret u => exact I.after hq
    | next => exact False.elim hq
    | brk => exact False.elim hq
    | cont => exact False.elim hq
def tLenO (C : Addr) (sp : Sp) (ta : TE) : TE := fun σ H Q => ta σ H fun x H1 => ∃ a dx fs, x = .ref a ∧ H1 a = some (.ins C dx fs) ∧ sp [.ref a] H1 (fun v H2 => ∃ n : Int, v = .int n ∧ 0 ≤ n ∧ n < 2 ^ 63 ∧ Q (.int n) H2) E0
theorem pe_lenO (hg : Gl X "len") (hm : X.mg "len" = none) (G : Gm X.prog X.w X.K X.mg X.base j C "__len__" ["self"] [] sp) (hr : Room k X.A) (he : PE X e ta) (hjk : j + 1 ≤ k := by decide)
    (hst : starEach [e] X.env = (false, eval e X.env) :: starEach [] X.env := by rfl) (hpl : (backTo pos (starEach [] X.env)).any (·.1) = false := by rfl) :
    PE X (.Call (.Name "len" p) [e] [] pos) (tLenO C sp ta) := by
  obtain ⟨f, fd, ds, F, c, M, b, v⟩ := G.ex
  cases v
  refine ⟨fun pins s σ H Q I h => ?_⟩
  refine wpAny_Call_Name_kw (ld_blt I hg hm (show bootBuiltins "len" = some (.builtin "len") by decide +kernel) ?_ (by decide) (by decide))
  refine PyProof.Rows.callWith_builtin1 ?_ hst hpl
  rw [hst]
  show wpAny _ _ (spliced ((false, eval e X.env) :: backTo pos (starEach [] X.env))) _ _ s
  refine Calls.spliced_cons (thn (he.run pins s σ H _ I h) fun u s1 ⟨x, H1, I1, rx, a, dx, fs, ex, ea, q⟩ => Calls.spliced_nil ?_)
  subst ex
  obtain rfl : u = Value.ref a := rx
  obtain ⟨mA, O, _, _, _, _⟩ := ins_get I1.hok ea
  obtain ⟨od, J, _⟩ := O.look
  refine Calls.call_function_entry PySem.kind_len PySem.plain_len PySem.entry_len (PySem.args_len1 _) ?_
  unfold Builtin.«len»
  refine wpAny_bind (m := oneArg "len" _) (wpAny_pure ?_)
  refine wpAny_bind (m := callSpecial? (.ref a) (Str.ofString "__len__")) (PySem.W.special_fn I1.kIn J M.at_ (beq_iff_eq.mp M.fn) (wpAny_mono (run_in1 (E := X.xe) F (hr.mono hjk) b I1 q) (fun r s2 hr2 => ?_) fun _ _ y => y))
  obtain ⟨v2, H2, I2, rv, n, rfl, n0, n1, q2⟩ := hr2
  obtain ⟨tk, rfl⟩ := rv
  refine wpAny_bind (wpAny_holding (wpAny_pure ?_))
  refine wpAny_bind (wpAny_letGo ?_)
  show wpAny _ _ (if n < 0 then _ else _) _ _ _
  rw [if_neg (by omega)]
  show wpAny _ _ (if n ≥ 2 ^ 63 then _ else _) _ _ _
  rw [if_neg (by omega)]
  exact wpAny_bind (wpAny_mkInt (wpAny_pure ⟨_, rfl, ⟨.int n, H2, I2.tok _, ⟨_, rfl⟩, q2⟩⟩))
end
end Bt
end
section
set_option Elab.async false
set_option linter.all false
set_option maxRecDepth 100000
set_option maxHeartbeats 2000000
set_option autoImplicit false
namespace Bt
open PySem PySem.Spec PyProof.Rows L2 Rz
section
variable {P : Program} {w : World} {K : PySem.W.Frag} {mg : PySem.Str → Option Value} {base : Heap}
local macro_rules | `(tactic| walk_at "sd") => `(tactic| first
  | rfl | assumption
  | exact Sub.at ‹Sub _ _› (by assumption)
  | exact SqL.of (by assumption) | exact SqT.of (by assumption) | exact SqL.of (Sub.at ‹Sub _ _› (by assumption)) | exact SqT.of (Sub.at ‹Sub _ _› (by assumption))
  | exact Or.inl (SqL.of (by assumption)) | exact Or.inr (SqT.of (by assumption)) | exact Or.inl (SqL.of (Sub.at ‹Sub _ _› (by assumption))) | exact Or.inr (SqT.of (Sub.at ‹Sub _ _› (by assumption)))
  | exact ClsV.ty _ | exact TyX.base (.int _) | exact TyX.base (.str _) | exact TyX.base (.tup (by assumption)) | exact kit_int | exact kit_ib | exact kit_ss | exact kit_tt)
local macro_rules | `(tactic| walk_at "rd1") => `(tactic| first
  | (apply Exists.intro)
  | (refine And.intro ?_ ?_; (focus (walk_at "sd")))
  | (refine L2.iteT ?_)
  | (refine L2.iteF ?_))
local macro_rules | `(tactic| walk_at "rd") => `(tactic| repeat (walk_at "rd1"))
local macro_rules | `(tactic| walk_at "se") => `(tactic| first
  | rfl | assumption
  | exact Sub.at ‹Sub _ _› (by assumption)
  | exact SqL.of (by assumption) | exact SqT.of (by assumption) | exact SqL.of (Sub.at ‹Sub _ _› (by assumption)) | exact SqT.of (Sub.at ‹Sub _ _› (by assumption))
  | exact Or.inl (SqL.of (by assumption)) | exact Or.inr (SqT.of (by assumption)) | exact Or.inl (SqL.of (Sub.at ‹Sub _ _› (by assumption))) | exact Or.inr (SqT.of (Sub.at ‹Sub _ _› (by assumption)))
  | exact TRaw.ins ‹TRaw _ _ _ _ _› | exact TA.miss
  | exact TRaw.n ‹TRaw _ _ _ _ _›
  | exact TRaw.z ‹TRaw _ _ _ _ _›
  | exact TRaw.d ‹TRaw _ _ _ _ _›
  | exact TRaw.r ‹TRaw _ _ _ _ _›
  | exact TRaw.f ‹TRaw _ _ _ _ _›
  | exact TRaw.l ‹TRaw _ _ _ _ _›
  | exact TRaw.u ‹TRaw _ _ _ _ _›
  | exact TRaw.w ‹TRaw _ _ _ _ _› | exact TRaw.a ‹TRaw _ _ _ _ _› rfl
  | exact SqL.of (TRaw.n ‹TRaw _ _ _ _ _›)
  | exact SqL.of (TRaw.z ‹TRaw _ _ _ _ _›)
  | exact SqL.of (TRaw.d ‹TRaw _ _ _ _ _›)
  | exact SqL.of (TRaw.r ‹TRaw _ _ _ _ _›)
  | exact SqL.of (TRaw.f ‹TRaw _ _ _ _ _›)
  | exact SqL.of (TRaw.l ‹TRaw _ _ _ _ _›)
  | exact SqL.of (TRaw.u ‹TRaw _ _ _ _ _›)
  | exact SqL.of (TRaw.w ‹TRaw _ _ _ _ _›) | exact SqL.of (TRaw.a ‹TRaw _ _ _ _ _› rfl)
  | exact ClsV.ty _ | exact TyX.base (.int _) | exact TyX.base (.str _) | exact TyX.base (.tup (by assumption)) | exact kit_int | exact kit_ib | exact kit_ss | exact kit_tt)
local macro_rules | `(tactic| walk_at "re1") => `(tactic| first
  | (apply Exists.intro)
  | (refine And.intro ?_ ?_; (focus (walk_at "se")))
  | (refine L2.iteT ?_)
  | (refine L2.iteF ?_))
local macro_rules | `(tactic| walk_at "re") => `(tactic| repeat (walk_at "re1"))

theorem sc_law_followed : FnScope ["_law_walker", "_law_mark", "_law_span", "_law_most", "_law_twin", "_law_found"] ["_law_walker", "_law_mark", "_law_span", "_law_most"] (defScope s_law_followed) := ⟨rfl, rfl, rfl, by decide +kernel, rfl, by decide +kernel, by decide +kernel⟩
theorem WOk.updL {H : Hp} {W : WA} {D : WD} {F : Addr} {xs : List V} {o : HO} (h : WOk K H W D) (hF : H F = some (.lst xs)) (nf : F ∉ W.t.fp true) : WOk K (L2.upd H F o) W D := by
  have nw : F ≠ W.w := fun e => by rw [e, h.ins] at hF; cases hF
  have e : msk [W.w] (L2.upd H F o) = L2.upd (msk [W.w] H) F o := by
    funext a
    by_cases ha : a = W.w
    · subst ha
      rw [msk_in (by simp), upd_ne (Ne.symm nw), msk_in (by simp)]
    · rw [msk_out (by simpa using ha)]
      by_cases hb : a = F
      · subst hb; rw [upd_same, upd_same]
      · rw [upd_ne hb, upd_ne hb, msk_out (by simpa using ha)]
  have hG : msk [W.w] H F = some (.lst xs) := msk_at hF (by simpa using nw)
  have im := Imm.updL (K := K) (o := o) hG
  refine ⟨by rw [upd_ne (Ne.symm nw)]; exact h.ins, ?_, h.ok⟩
  rw [e]
  obtain ⟨l, oo, a, b, c⟩ := h.inn.ex
  obtain ⟨R, hT, hD⟩ := h.inn.tok.ex
  obtain ⟨q, m, rs, as, s⟩ := h.inn.sc
  obtain ⟨ks, k1, k2⟩ := h.inn.kp
  exact ⟨⟨l, oo, im.tup _ _ a, im.tup _ _ b, im.tup _ _ c⟩, ⟨R, hT.off nf, hD.imm im⟩, ⟨q, m, rs, as, im.tup _ _ s.sc, s.len, im.tup _ _ s.at_, im.tup _ _ s.ms, s.all.mono fun a x z => im.tup _ _ z⟩, ⟨ks, im.tup _ _ k1, k2⟩⟩
/-- the first places of the walk by stride a, no more than n; y: where it is back -/
abbrev sp_law_followed (K : PySem.W.Frag) : Sp := P4 fun a b c d H Q => ∃ (W : WA) (D : WD) (x : PySem.Str) (p span : Int) (y : Nat), a = .ref W.w ∧ b = .str x ∧ c = .int span ∧ d = .int 4 ∧ WOk K H W D ∧ (x, p) ∈ D.ms ∧ D.kn = 0 ∧ D.tm = 0 ∧ 1 ≤ span ∧ span ≤ 1000000000000000000 ∧ Ends 200 (st0 D.ls D.od) ∧ Per (fun q => it (mv D.ls D.od) span.toNat q) p y ∧
  ∀ H' F, Sub H H' → H' F = some (.lst (iV (orb (fun q => it (mv D.ls D.od) span.toNat q) p (min 4 y)))) → Q (.ref F) H'
theorem ok_law_followed (T : Tx K mg) : Gd P w K mg base 13 "_law_followed" ["_law_walker", "_law_mark", "_law_span", "_law_most"] (sp_law_followed K) := by
  refine mkd T.F_law_followed T.g_law_followed sc_law_followed P4.ar (fun _ _ _ _ _ _ us hl => match us, hl with | [_, _, _, _], _ => rfl) fun cdv A0 outer s0 H vs Q E hr h => ?_
  obtain ⟨_, _, _, _, rfl, W, D, x, p, span, y, rfl, rfl, rfl, rfl, hw, hx, hk, htm, sp1, sp2, hend, per, hq⟩ := h
  have hi := hw.ins
  refine ⟨_, (pss_cons (ps_par (i := 4) (j := 5) rfl sc_law_followed.nd rfl rfl (by decide) rfl rfl (pa_cons (cm0 (ok_Walker_copy T) hr (pv 0)) (pa_cons (pe_lst (pa_cons (cm (ok_Walker_place_of T) hr (pv 0) (pa_cons (pv 1) pa_nil)) pa_nil)) pa_nil)) rfl)
  (pss_cons (ps_while PassesOwn.never (PW.pt (pw_and (pt_cmpR op_lt (pe_callB call_len_seq rfl T.n_len (by decide +kernel) (pa_cons (pv 5) pa_nil)) (pv 3) (nomark _)) (pw_and1 (pt_cmpR op_lt (pe_lenO rfl T.n_len (ok_Walker_len T) hr (pv 4)) pe_int (nomark _))))) (pss_cons (ps_expr (cm (ok_Walker_go T) hr (pv 4) (pa_cons (pv 2) pa_nil)))
  (pss_cons (ps_if (pt_cmpR op_eq (cm (ok_Walker_place_of T) hr (pv 4) (pa_cons (pv 1) pa_nil)) (pe_ix ix_list (pv 5) pe_int (fun _ _ => rfl)) (nomark _)) (pss_one ps_break) pss_nil)
  (pss_one (ps_expr (pe_bm PySem.F.plainAttrs_list PySem.F.slot_list_append PySem.F.type_list_append mt_append (pv 5) (pa_cons (cm (ok_Walker_place_of T) hr (pv 4) (pa_cons (pv 1) pa_nil)) pa_nil)))))))
  (pss_one (ps_ret (pv 5))))), ?_⟩
  walk_at "re"
  intro H1 W1 s1' s1 nw hw1
  have hi1 := s1.at hi
  have hww := hw.sub s1
  walk_at "re"
  refine ⟨by show 1 ≤ sizeLine; decide, fun F nF => ?_⟩
  have s2 : Sub H1 (upd H1 F (.lst [.int p])) := Sub.rfl'.new nF
  have nFH : H F = none := s1.fresh nF
  have nFt : F ∉ W1.t.fp true := by
    obtain ⟨R, hT, _⟩ := hw1.tok.ex
    exact hT.out nF
  have hF : (upd H1 F (.lst [.int p])) F = some (.lst (iV (orb (fun q => it (mv D.ls D.od) span.toNat q) p 1))) := upd_same
  generalize upd H1 F (.lst [.int p]) = H2 at s2 hF ⊢
  refine ⟨_, _, rfl, ?_⟩
  refine ⟨fun m σ H' => Bx (∃ (k : Nat) (W2 : WA) (D2 : WD), σ = [some (.ref W.w), some (.str x), some (.int span), some (.int 4), some (.ref W1.w), some (.ref F)] ∧ 0 < k ∧ k ≤ 4 ∧ k ≤ y ∧ m = 4 - k ∧ Sub H H' ∧ W2.w = W1.w ∧ W2.t = W1.t ∧ WOk K H' W2 D2 ∧
      D2.ls = D.ls ∧ D2.od = D.od ∧ D2.kn = k - 1 ∧ (x, it (fun q => it (mv D.ls D.od) span.toNat q) (k - 1) p) ∈ D2.ms ∧ H' F = some (.lst (iV (orb (fun q => it (mv D.ls D.od) span.toNat q) p k)))),
    ⟨_, 1, W1, _, rfl, by decide, by decide, per.pos, rfl, s1.tr s2, rfl, rfl, hw1.sub s2, rfl, rfl, hk, hx, hF⟩, fun m σ H3 h => ?_⟩
  obtain ⟨k, W2, D2, rfl, k0, k4, ky, rfl, s3, ew, etw, hw2, els, eod, ekn, hx2, hF3⟩ := h.o
  have hi2 := hw2.ins
  rw [ew] at hi2
  walk_at "re"
  by_cases c4 : k = 4
  · subst c4
    refine ifF (by rw [iV_len, orb_len]; decide) ?_
    refine ifF (by decide) ?_
    refine ⟨_, rfl, hq H3 F s3 ?_⟩
    rw [show min 4 y = 4 by omega]
    exact hF3
  refine ifT (by rw [iV_len, orb_len]; exact decide_eq_true (by omega)) ?_
  refine ⟨_, rfl, W1.w, _, _, rfl, hi2, _, rfl, W2, D2, by rw [ew], hw2, _, rfl, by omega, by have := hw2.ok.kn; omega, _, _, rfl, rfl, _, rfl, ?_⟩
  refine ifT (decide_eq_true (by omega)) ?_
  have nFw : F ∉ [W2.w] := fun z => by rw [List.mem_singleton.mp z, ew, hi2] at hF3; cases hF3
  refine ⟨fun σ H' => Bx (∃ (W3 : WA) (D3 : WD), σ = [some (.ref W.w), some (.str x), some (.int span), some (.int 4), some (.ref W1.w), some (.ref F)] ∧ k + 1 ≤ y ∧ Sub H H' ∧ W3.w = W1.w ∧ W3.t = W1.t ∧ WOk K H' W3 D3 ∧
      D3.ls = D.ls ∧ D3.od = D.od ∧ D3.kn = k ∧ (x, it (fun q => it (mv D.ls D.od) span.toNat q) k p) ∈ D3.ms ∧ H' F = some (.lst (iV (orb (fun q => it (mv D.ls D.od) span.toNat q) p (k + 1))))), fun σ H' h => ?_, ?_⟩
  · obtain ⟨W3, D3, e1, e2, e3, e4, e4t, e5, e6, e7, e8, e9, e10⟩ := h.o
    exact ⟨4 - (k + 1), by omega, ⟨k + 1, W3, D3, e1, by omega, by omega, e2, rfl, e3, e4, e4t, e5, e6, e7, e8, e9, e10⟩⟩
  refine ⟨_, rfl, W1.w, _, _, rfl, hi2, rfl, _, rfl, _, _, rfl, W2, D2, span, by rw [ew], rfl, hw2, by omega, by omega, sp2, fun H4 W3 m4 e4 e4t hw3 => ?_⟩
  have hi3 := hw3.ins
  rw [e4, ew] at hi3
  have hF4 := m4.at (msk_at hF3 nFw)
  have nw1 : msk [W2.w] H3 = msk [W1.w] H3 := by rw [ew]
  have s4 : Sub H H4 := fun a o h => m4.at (msk_at (s3.at h) (fun z => by rw [List.mem_singleton.mp z, ew, nw] at h; cases h))
  have hx3 : (x, it (fun q => it (mv D.ls D.od) span.toNat q) k p) ∈ (D2.gone span).ms := by
    refine List.mem_map.mpr ⟨_, hx2, ?_⟩
    show (x, it (mv D2.ls D2.od) span.toNat (it (fun q => it (mv D.ls D.od) span.toNat q) (k - 1) p)) = _
    rw [els, eod]
    congr 1
    have := it_succ (fun q => it (mv D.ls D.od) span.toNat q) (k - 1) p
    rw [show k - 1 + 1 = k by omega] at this
    exact this.symm
  have hf0 : atI (iV (orb (fun q => it (mv D.ls D.od) span.toNat q) p k)) 0 = some (.int p) := by
    have := atI_nat (iV_get (orb_get (T := fun q => it (mv D.ls D.od) span.toNat q) (p := p) k0))
    exact this
  refine ⟨_, rfl, W1.w, _, _, rfl, hi3, rfl, _, rfl, _, _, _, rfl, W3, D2.gone span, x, _, by rw [e4, ew], rfl, rfl, hw3, hx3, ?_⟩
  refine ⟨_, rfl, F, _, _, _, rfl, rfl, SqL.of hF4, hf0, ?_⟩
  walk_at "re"
  refine L2.ite2 (fun z => ?_) fun z => ?_
  · have z' : it (fun q => it (mv D.ls D.od) span.toNat q) k p = p := V.int.inj (of_decide_eq_true z)
    have ey : k = y := by
      rcases Nat.lt_or_ge k y with q | q
      · exact absurd z' (per.min k k0 q)
      · omega
    refine ⟨_, rfl, hq H4 F s4 ?_⟩
    rw [show min 4 y = k by omega]
    exact hF4
  · have z' : it (fun q => it (mv D.ls D.od) span.toNat q) k p ≠ p := fun e => z (by rw [e]; simp)
    have ky2 : k < y := by
      rcases Nat.lt_or_ge k y with q | q
      · exact q
      · exfalso
        have : k = y := by omega
        subst this
        exact z' per.back
    refine ⟨_, rfl, tyL hF4, _, rfl, W1.w, _, _, rfl, hi3, rfl, _, rfl, _, _, _, rfl, W3, D2.gone span, x, _, by rw [e4, ew], rfl, rfl, hw3, hx3, F, _, _, rfl, rfl, hF4, szlt (by rw [iV_len, orb_len]; omega), ?_⟩
    refine ⟨W3, D2.gone span, rfl, ky2, s4.upd nFH, by rw [e4, ew], by rw [e4t, etw], hw3.updL hF4 (by rw [e4t, etw]; exact nFt), els, eod, by show D2.kn + 1 = k; omega, hx3, ?_⟩
    rw [upd_same, orb_succ]; unfold iV; rw [List.map_append]; rfl
end
end Bt
end
section
set_option Elab.async false
set_option linter.all false
set_option maxRecDepth 100000
set_option maxHeartbeats 2000000
set_option autoImplicit false
namespace Bt
open PySem PySem.Spec PyProof.Rows L2
section
variable {X : Cx} {j k : Nat} {C : Addr} {sp : Sp} {e : Expr} {ta : TE} {p pos : Pos}
def tStrO (C : Addr) (sp : Sp) (ta : TE) : TE := fun σ H Q => ta σ H fun x H1 => ∃ a dx fs, x = .ref a ∧ H1 a = some (.ins C dx fs) ∧ sp [.ref a] H1 (fun v H2 => ∃ y : PySem.Str, v = .str y ∧ Q (.str y) H2) E0
/-- str(o), o an instance with its own __str__ -/
theorem pe_strO (hg : Gl X "str") (hm : X.mg "str" = none) (G : Gm X.prog X.w X.K X.mg X.base j C "__str__" ["self"] [] sp) (hr : Room k X.A) (he : PE X e ta) (hjk : j + 2 ≤ k := by decide)
    (hst : starEach [e] X.env = (false, eval e X.env) :: starEach [] X.env := by rfl) (hpl : (backTo pos (starEach [] X.env)).any (·.1) = false := by rfl) :
    PE X (.Call (.Name "str" p) [e] [] pos) (tStrO C sp ta) := by
  obtain ⟨f, fd, ds, F, c, M, b, v⟩ := G.ex
  cases v
  refine ⟨fun pins s σ H Q I h => ?_⟩
  refine wpAny_Call_Name_kw (ld_blt I hg hm (show bootBuiltins "str" = some (.type "str") by decide +kernel) ?_ (by decide) (by decide))
  refine PyProof.Rows.callWith_type1 ?_ hst hpl
  rw [hst]
  show wpAny _ _ (spliced ((false, eval e X.env) :: backTo pos (starEach [] X.env))) _ _ s
  refine Calls.spliced_cons (thn (he.run pins s σ H _ I h) fun u s1 ⟨x, H1, I1, rx, a, dx, fs, ex, ea, q⟩ => Calls.spliced_nil ?_)
  subst ex
  obtain rfl : u = Value.ref a := rx
  obtain ⟨mA, O, _, _, _, _⟩ := ins_get I1.hok ea
  obtain ⟨od, J, _⟩ := O.look
  have hrj : Room (j + 2) X.A := hr.mono hjk
  refine PySem.W.kso_call (by have := hrj.in1.in1.un; show X.A.in1.in1.units < cLine; omega) I1.kIn J M.at_ M.fn ?_
  have hl : ([Value.ref a] ++ ([] : List Value)).length = ["self"].length := rfl
  refine wpAny_call (codeAny_mono (F.run X.A.in1.in1 X.stack s1 H1 ⟨[.ref a], []⟩ [.ref a] [.ref a] _ E0 hrj.in1.in1 I1.env0.in1.in1 (b s1 [.ref a] I1.kIn hl) (.cons rfl .nil) q) fun r s' hq => ?_)
  cases r with
  | error er => exact False.elim hq
  | ok fl =>
    cases fl with
    | ret u =>
      obtain ⟨v2, H2, I2, rv, y, rfl, q2⟩ := I1.after hq
      obtain ⟨tk, rfl⟩ := rv
      exact ⟨.str y, H2, I2, ⟨_, rfl⟩, q2⟩
    | next => exact False.elim hq
    | brk => exact False.elim hq
    | cont => exact False.elim hq
end
end Bt
end
section
set_option Elab.async false
set_option linter.all false
set_option maxRecDepth 100000
set_option maxHeartbeats 2000000
set_option autoImplicit false
namespace Bt
open PySem PySem.Spec PyProof.Rows L2 Rz
section
variable {P : Program} {w : World} {K : PySem.W.Frag} {mg : PySem.Str → Option Value} {base : Heap}
local macro_rules | `(tactic| walk_at "sd") => `(tactic| first
  | rfl | assumption
  | exact Sub.at ‹Sub _ _› (by assumption)
  | exact SqL.of (by assumption) | exact SqT.of (by assumption) | exact SqL.of (Sub.at ‹Sub _ _› (by assumption)) | exact SqT.of (Sub.at ‹Sub _ _› (by assumption))
  | exact Or.inl (SqL.of (by assumption)) | exact Or.inr (SqT.of (by assumption)) | exact Or.inl (SqL.of (Sub.at ‹Sub _ _› (by assumption))) | exact Or.inr (SqT.of (Sub.at ‹Sub _ _› (by assumption)))
  | exact ClsV.ty _ | exact TyX.base (.int _) | exact TyX.base (.str _) | exact TyX.base (.tup (by assumption)) | exact kit_int | exact kit_ib | exact kit_ss | exact kit_tt)
local macro_rules | `(tactic| walk_at "rd1") => `(tactic| first
  | (apply Exists.intro)
  | (refine And.intro ?_ ?_; (focus (walk_at "sd")))
  | (refine L2.iteT ?_)
  | (refine L2.iteF ?_))
local macro_rules | `(tactic| walk_at "rd") => `(tactic| repeat (walk_at "rd1"))
local macro_rules | `(tactic| walk_at "se") => `(tactic| first
  | rfl | assumption
  | exact Sub.at ‹Sub _ _› (by assumption)
  | exact SqL.of (by assumption) | exact SqT.of (by assumption) | exact SqL.of (Sub.at ‹Sub _ _› (by assumption)) | exact SqT.of (Sub.at ‹Sub _ _› (by assumption))
  | exact Or.inl (SqL.of (by assumption)) | exact Or.inr (SqT.of (by assumption)) | exact Or.inl (SqL.of (Sub.at ‹Sub _ _› (by assumption))) | exact Or.inr (SqT.of (Sub.at ‹Sub _ _› (by assumption)))
  | exact TRaw.ins ‹TRaw _ _ _ _ _› | exact TA.miss
  | exact TRaw.n ‹TRaw _ _ _ _ _›
  | exact TRaw.z ‹TRaw _ _ _ _ _›
  | exact TRaw.d ‹TRaw _ _ _ _ _›
  | exact TRaw.r ‹TRaw _ _ _ _ _›
  | exact TRaw.f ‹TRaw _ _ _ _ _›
  | exact TRaw.l ‹TRaw _ _ _ _ _›
  | exact TRaw.u ‹TRaw _ _ _ _ _›
  | exact TRaw.w ‹TRaw _ _ _ _ _› | exact TRaw.a ‹TRaw _ _ _ _ _› rfl
  | exact SqL.of (TRaw.n ‹TRaw _ _ _ _ _›)
  | exact SqL.of (TRaw.z ‹TRaw _ _ _ _ _›)
  | exact SqL.of (TRaw.d ‹TRaw _ _ _ _ _›)
  | exact SqL.of (TRaw.r ‹TRaw _ _ _ _ _›)
  | exact SqL.of (TRaw.f ‹TRaw _ _ _ _ _›)
  | exact SqL.of (TRaw.l ‹TRaw _ _ _ _ _›)
  | exact SqL.of (TRaw.u ‹TRaw _ _ _ _ _›)
  | exact SqL.of (TRaw.w ‹TRaw _ _ _ _ _›) | exact SqL.of (TRaw.a ‹TRaw _ _ _ _ _› rfl)
  | exact ClsV.ty _ | exact TyX.base (.int _) | exact TyX.base (.str _) | exact TyX.base (.tup (by assumption)) | exact kit_int | exact kit_ib | exact kit_ss | exact kit_tt)
local macro_rules | `(tactic| walk_at "re1") => `(tactic| first
  | (apply Exists.intro)
  | (refine And.intro ?_ ?_; (focus (walk_at "se")))
  | (refine L2.iteT ?_)
  | (refine L2.iteF ?_))
local macro_rules | `(tactic| walk_at "re") => `(tactic| repeat (walk_at "re1"))

theorem sc_law_seen : FnScope ["_law_walker", "_law_found", "_law_mark", "_law_place"] ["_law_walker"] (defScope s_law_seen) := ⟨rfl, rfl, rfl, by decide +kernel, rfl, by decide +kernel, by decide +kernel⟩
theorem dpa_marks {H H' : Hp} (s : ∀ a x, pM H a x → pM H' a x) : ∀ {as : List Addr} {ms : List (PySem.Str × Int)}, A2 (pM H) as ms → DpAll K H' (rV as) (ms.map fun x => PyData.tuple [.str x.1, .int x.2])
  | [], [], _ => .nil
  | [], _ :: _, h => by have := h.len; simp at this
  | _ :: _, [], h => by have := h.len; simp at this
  | a :: as, x :: ms, h => .cons (.tup (SqT.of (s a x (h.at_ 0 a x rfl rfl))) (.cons (.str _) (.cons (.int _) .nil)))
      (dpa_marks s (as := as) (ms := ms) ⟨by have := h.len; simpa using this, fun i u v hu hv => h.at_ (i + 1) u v (by rwa [List.getElem?_cons_succ]) (by rwa [List.getElem?_cons_succ])⟩)
/-- what is seen of a walker, as data -/
def seenD (D : WD) : PyData := .list [.tuple (D.ms.map fun x => .tuple [.str x.1, .int x.2]), .int 0, .int (D.ms.length : Int), .tuple [], .int 0, .str (tellS D.ls.sum D.ms.length),
  .tuple [.tuple (D.ls.map PyData.int), .tuple ((D.od.map fun n : Nat => (n : Int)).map PyData.int)], .list ((D.ms.map (·.2)).map PyData.int)]
abbrev sp_law_seen (K : PySem.W.Frag) : Sp := P1 fun a H Q => ∃ (W : WA) (D : WD), a = .ref W.w ∧ WOk K H W D ∧ D.tm = 0 ∧ D.kn = 0 ∧ ∀ H' F, Sub H H' → Dp K H' (.ref F) (seenD D) → Q (.ref F) H'
theorem ok_law_seen (T : Tx K mg) : Gd P w K mg base 7 "_law_seen" ["_law_walker"] (sp_law_seen K) := by
  refine mkd T.F_law_seen T.g_law_seen sc_law_seen P1.ar (fun _ _ _ _ _ _ us hl => match us, hl with | [_], _ => rfl) fun cdv A0 outer s0 H vs Q E hr h => ?_
  obtain ⟨_, rfl, W, D, rfl, hw, htm, hkn, hq⟩ := h
  have hi := hw.ins
  refine ⟨_, (pss_cons (ps_set (i := 1) sc_law_seen.nd rfl (by first | exact .inl rfl | exact .inr rfl) (pe_lst (pa_cons (cm0 (ok_Walker_marks T) hr (pv 0)) (pa_cons (cp (ok_Walker_time T) hr (pv 0)) (pa_cons (cp (ok_Walker_many T) hr (pv 0)) (pa_cons (cm0 (ok_Walker_edits T) hr (pv 0)) (pa_cons (pe_lenO rfl T.n_len (ok_Walker_len T) hr (pv 0)) (pa_cons (pe_strO rfl T.n_str (ok_Walker_str T) hr (pv 0)) (pa_cons (cp (ok_Walker_exchange T) hr (pv 0)) pa_nil)))))))))
  (pss_one (ps_ret (pe_op op_cat (pv 1) (pe_lst (pa_cons (pe_lc (own := [("_law_mark", 2), ("_law_place", 3)]) (g := (gTup K 2 (gCons (gName 2) (gCons (gName 3) gNil)))) (tt := tYes) (te := (tMeth (cW K) "place_of" (sp_Walker_place_of K) [.non] E0 (tVar 0) (tCons (tVar 2) tNil))) rfl sc_law_seen.nd (pi_tup (cm0 (ok_Walker_marks T) hr (pv 0))) (blkOk_by (N := ["_law_walker", "_law_found", "_law_mark", "_law_place"]) (sc := defScope s_law_seen) (by decide +kernel)) (fun _ _ _ _ _ => (pg_tup rfl (pgs_cons (pg_name (i := 2) sc_law_seen.nd rfl (by first | exact .inl rfl | exact .inr rfl)) (pgs_cons (pg_name (i := 3) sc_law_seen.nd rfl (by first | exact .inl rfl | exact .inr rfl)) pgs_nil)))) (fun _ _ _ _ _ => pts_nil) (fun _ _ _ _ _ => (cm (ok_Walker_place_of T) hr (pv 0) (pa_cons (pv 2) pa_nil)))) pa_nil)))))), ?_⟩
  obtain ⟨dls, dod, ds, dms, dtm, dkn⟩ := D
  obtain rfl : dtm = 0 := htm
  obtain rfl : dkn = 0 := hkn
  walk_at "re"
  intro m as hm hA
  walk_at "re"
  refine ⟨show (0 : Int) ≤ ((0 : Nat) : Int) by decide, show ((0 : Nat) : Int) < 2 ^ 63 by decide, ?_⟩
  walk_at "re"
  refine ⟨by show 7 ≤ sizeLine; decide, fun F nF => ?_⟩
  have s1 : Sub H (upd H F (.lst [.ref m, .int 0, .int (dms.length : Int), .ref W.kp, .int 0, .str (tellS dls.sum dms.length), .ref W.e])) := Sub.rfl'.new nF
  have hF : (upd H F (.lst [.ref m, .int 0, .int (dms.length : Int), .ref W.kp, .int 0, .str (tellS dls.sum dms.length), .ref W.e])) F = some (.lst [.ref m, .int 0, .int (dms.length : Int), .ref W.kp, .int 0, .str (tellS dls.sum dms.length), .ref W.e]) := upd_same
  refine (show (_ : Hp → Prop) (upd H F (.lst [.ref m, .int 0, .int (dms.length : Int), .ref W.kp, .int 0, .str (tellS dls.sum dms.length), .ref W.e])) from ?_)
  generalize upd H F (.lst [.ref m, .int 0, .int (dms.length : Int), .ref W.kp, .int 0, .str (tellS dls.sum dms.length), .ref W.e]) = H1 at s1 hF ⊢
  have hi1 := s1.at hi
  have hw1 := hw.sub s1
  walk_at "re"
  intro m2 as2 hm2 hA2
  have l2 : (rV as2).length = dms.length := by rw [rV_len]; exact hA2.len
  refine ⟨m2, rfl, ⟨_, SqT.of hm2⟩, fun D hD => lc_val (walk_tup (xs := rV as2)) hD (by rw [l2]; have : dms.length ≤ 4 := hw.ok.ml; omega) (iV (dms.map (·.2))) (by rw [iV_len, List.length_map, l2]) (fun Ha s => SqT.of (s.at hm2)) (fun i v Ha Hb hi2 s hy Q' Nx hq' => ?_) fun Ha sa ha => ?_⟩
  · obtain ⟨rfl, hv⟩ := hy
    obtain ⟨a, ha, rfl⟩ := rV_inv hv
    obtain ⟨y, hy, hp⟩ := hA2.get' ha
    have hia := s.at hi1
    have hwa := hw1.sub s
    have hmem : (y.1, y.2) ∈ dms := List.mem_of_getElem? hy
    refine ⟨a, _, rfl, SqT.of (s.at hp), rfl, ?_⟩
    walk_at "re"
    exact hq' _ _ Sub.rfl' (iV_get (by rw [List.getElem?_map, hy]; rfl))
  · walk_at "re"
    refine ⟨by show 1 ≤ sizeLine; decide, fun G nG => ?_⟩
    have s2 : Sub Ha (upd Ha G (.lst [.ref D])) := Sub.rfl'.new nG
    have hG : (upd Ha G (.lst [.ref D])) G = some (.lst [.ref D]) := upd_same
    generalize upd Ha G (.lst [.ref D]) = H2 at s2 hG ⊢
    refine ⟨F, G, _, _, rfl, rfl, s2.at (sa.at hF), hG, by show 8 ≤ sizeLine; decide, fun R nR => ?_⟩
    have s3 := (Sub.rfl' (G := H2)).new (o := .lst ([.ref m, .int 0, .int (dms.length : Int), .ref W.kp, .int 0, .str (tellS dls.sum dms.length), .ref W.e] ++ [.ref D])) nR
    have s4 := s1.tr (sa.tr (s2.tr s3))
    refine hq _ R s4 (.lst (SqL.of upd_same) ?_)
    obtain ⟨l, o, he, hl, ho⟩ := hw.ex
    obtain ⟨ks, kp1, kp2⟩ := hw.kp
    obtain rfl : ks = [] := List.length_eq_zero_iff.mp kp2
    refine .cons (.tup (SqT.of (s4.at hm)) ?_) (.cons (.int 0) (.cons (.int _) (.cons (dp_eT (s4.at kp1)) (.cons (.int 0) (.cons (.str _) (.cons (.tup (SqT.of (s4.at he)) (.cons (dp_iT (SqT.of (s4.at hl))) (.cons (dp_iT (by rw [← nV_iV]; exact SqT.of (s4.at ho))) .nil))) (.cons (dp_iL (SqL.of (s3.at (s2.at ha)))) .nil)))))))
    exact dpa_marks (fun a x h => s4.at h) hA
end
end Bt
end
section
set_option Elab.async false
set_option linter.all false
set_option maxRecDepth 100000
set_option maxHeartbeats 2000000
set_option autoImplicit false
namespace Bt
open PySem PySem.Spec PyProof.Rows L2 Rz
section
variable {P : Program} {w : World} {K : PySem.W.Frag} {mg : PySem.Str → Option Value} {base : Heap}
local macro_rules | `(tactic| walk_at "sd") => `(tactic| first
  | rfl | assumption
  | exact Sub.at ‹Sub _ _› (by assumption)
  | exact SqL.of (by assumption) | exact SqT.of (by assumption) | exact SqL.of (Sub.at ‹Sub _ _› (by assumption)) | exact SqT.of (Sub.at ‹Sub _ _› (by assumption))
  | exact Or.inl (SqL.of (by assumption)) | exact Or.inr (SqT.of (by assumption)) | exact Or.inl (SqL.of (Sub.at ‹Sub _ _› (by assumption))) | exact Or.inr (SqT.of (Sub.at ‹Sub _ _› (by assumption)))
  | exact ClsV.ty _ | exact TyX.base (.int _) | exact TyX.base (.str _) | exact TyX.base (.tup (by assumption)) | exact kit_int | exact kit_ib | exact kit_ss | exact kit_tt)
local macro_rules | `(tactic| walk_at "rd1") => `(tactic| first
  | (apply Exists.intro)
  | (refine And.intro ?_ ?_; (focus (walk_at "sd")))
  | (refine L2.iteT ?_)
  | (refine L2.iteF ?_))
local macro_rules | `(tactic| walk_at "rd") => `(tactic| repeat (walk_at "rd1"))
local macro_rules | `(tactic| walk_at "se") => `(tactic| first
  | rfl | assumption
  | exact Sub.at ‹Sub _ _› (by assumption)
  | exact SqL.of (by assumption) | exact SqT.of (by assumption) | exact SqL.of (Sub.at ‹Sub _ _› (by assumption)) | exact SqT.of (Sub.at ‹Sub _ _› (by assumption))
  | exact Or.inl (SqL.of (by assumption)) | exact Or.inr (SqT.of (by assumption)) | exact Or.inl (SqL.of (Sub.at ‹Sub _ _› (by assumption))) | exact Or.inr (SqT.of (Sub.at ‹Sub _ _› (by assumption)))
  | exact TRaw.ins ‹TRaw _ _ _ _ _› | exact TA.miss
  | exact TRaw.n ‹TRaw _ _ _ _ _›
  | exact TRaw.z ‹TRaw _ _ _ _ _›
  | exact TRaw.d ‹TRaw _ _ _ _ _›
  | exact TRaw.r ‹TRaw _ _ _ _ _›
  | exact TRaw.f ‹TRaw _ _ _ _ _›
  | exact TRaw.l ‹TRaw _ _ _ _ _›
  | exact TRaw.u ‹TRaw _ _ _ _ _›
  | exact TRaw.w ‹TRaw _ _ _ _ _› | exact TRaw.a ‹TRaw _ _ _ _ _› rfl
  | exact SqL.of (TRaw.n ‹TRaw _ _ _ _ _›)
  | exact SqL.of (TRaw.z ‹TRaw _ _ _ _ _›)
  | exact SqL.of (TRaw.d ‹TRaw _ _ _ _ _›)
  | exact SqL.of (TRaw.r ‹TRaw _ _ _ _ _›)
  | exact SqL.of (TRaw.f ‹TRaw _ _ _ _ _›)
  | exact SqL.of (TRaw.l ‹TRaw _ _ _ _ _›)
  | exact SqL.of (TRaw.u ‹TRaw _ _ _ _ _›)
  | exact SqL.of (TRaw.w ‹TRaw _ _ _ _ _›) | exact SqL.of (TRaw.a ‹TRaw _ _ _ _ _› rfl)
  | exact ClsV.ty _ | exact TyX.base (.int _) | exact TyX.base (.str _) | exact TyX.base (.tup (by assumption)) | exact kit_int | exact kit_ib | exact kit_ss | exact kit_tt)
local macro_rules | `(tactic| walk_at "re1") => `(tactic| first
  | (apply Exists.intro)
  | (refine And.intro ?_ ?_; (focus (walk_at "se")))
  | (refine L2.iteT ?_)
  | (refine L2.iteF ?_))
local macro_rules | `(tactic| walk_at "re") => `(tactic| repeat (walk_at "re1"))

theorem sc_law_begun : FnScope ["_law_jar_here", "_law_most", "_law_exchange", "_law_moved_here", "_law_places", "_law_walker", "_law_k"] ["_law_jar_here", "_law_most"] (defScope s_law_begun) := ⟨rfl, rfl, rfl, by decide +kernel, rfl, by decide +kernel, by decide +kernel⟩
/-- len of a list or a tuple -/
abbrev rLen (K : PySem.W.Frag) : List V → Hp → VK → Prop := fun xs H Q => ∃ p ys, xs = [.ref p] ∧ (SqL K H p ys ∨ SqT K H p ys) ∧ Q (.int ys.length) H
/-- lists that a walker does not reach are masked -/
theorem WOk.cut {H : Hp} {W : WA} {D : WD} {F : List Addr} (h : WOk K H W D) (hF : ∀ a ∈ F, ∃ xs, H a = some (.lst xs)) (nf : ∀ a ∈ F, a ∉ W.t.fp true) : WOk K (msk F H) W D := by
  have k0 : ∀ {a : Addr} {ys : List V}, H a = some (.tup ys) → a ∉ F := fun ha hm => by
    obtain ⟨xs, e⟩ := hF _ hm
    rw [e] at ha; cases ha
  have ki : ∀ {a : Addr} {C dx : Addr} {fs : List (PySem.Str × V)}, H a = some (.ins C dx fs) → a ∉ F := fun ha hm => by
    obtain ⟨xs, e⟩ := hF _ hm
    rw [e] at ha; cases ha
  have e : msk [W.w] (msk F H) = msk F (msk [W.w] H) := by
    funext a
    unfold msk
    split <;> split <;> rfl
  have t0 : ∀ {a : Addr} {ys : List V}, msk [W.w] H a = some (.tup ys) → msk F (msk [W.w] H) a = some (.tup ys) := fun {a ys} ha => msk_at ha (k0 (msk_sub.at ha))
  have i0 : ∀ {a C dx : Addr} {fs : List (PySem.Str × V)}, msk [W.w] H a = some (.ins C dx fs) → msk F (msk [W.w] H) a = some (.ins C dx fs) := fun {a C dx fs} ha => msk_at ha (ki (msk_sub.at ha))
  have im : Imm K (msk [W.w] H) (msk F (msk [W.w] H)) := ⟨fun a xs ha => t0 ha, fun a dx fs ha => i0 ha⟩
  refine ⟨msk_at h.ins (ki h.ins), ?_, h.ok⟩
  rw [e]
  obtain ⟨l, oo, a, b, c⟩ := h.inn.ex
  obtain ⟨R, hT, hD⟩ := h.inn.tok.ex
  obtain ⟨q, m, rs, as, s⟩ := h.inn.sc
  obtain ⟨ks, k1, k2⟩ := h.inn.kp
  have k : ∀ {p : Addr} {o : HO}, p ∈ W.t.fp true → msk [W.w] H p = some o → msk F (msk [W.w] H) p = some o := fun hp ho => msk_at ho (fun e => nf _ e hp)
  exact ⟨⟨l, oo, t0 a, t0 b, t0 c⟩, ⟨R, ⟨k TA.in_t hT.ins, k TA.in_n hT.n, k TA.in_z hT.z, k TA.in_d hT.d, k TA.in_r hT.r, k TA.in_f hT.f, k TA.in_l hT.l, k TA.in_u hT.u, k TA.in_w hT.w, fun e => k TA.in_a (hT.a e), hT.nd⟩, hD.imm im⟩,
    ⟨q, m, rs, as, t0 s.sc, s.len, t0 s.at_, t0 s.ms, s.all.mono fun a x z => t0 z⟩, ⟨ks, t0 k1, k2⟩⟩
theorem TabAt.cut {H : Hp} {M : Addr} {ls : List Int} {od : List Nat} {F : List Addr} (h : TabAt H M ls od) (n : M ∉ F) : TabAt (msk F H) M ls od := let ⟨fs, a, b⟩ := h.ex; ⟨fs, msk_at a n, b⟩
theorem Jar.lists {H : Hp} {J C : Addr} (h : Jar H J C) : ∀ a ∈ [J, C], ∃ xs, H a = some (.lst xs) := fun a ha => by
  obtain ⟨st, cs, j⟩ := h.ex
  rcases List.mem_cons.mp ha with z | z
  · rw [z]; exact ⟨_, j.j⟩
  · rw [List.mem_singleton.mp z]; exact ⟨_, j.c⟩
/-- what is masked stays masked -/
theorem Sub.hold {F : List Addr} {G H : Hp} (s : Sub (msk F G) H) : Sub (msk F G) (msk F H) := fun a o h => by
  by_cases n : a ∈ F
  · rw [msk_in n] at h; cases h
  · exact msk_at (s.at h) n
theorem mskT {F : List Addr} {G H J : Hp} (a : Sub (msk F G) H) (b : Sub (msk F H) J) : Sub (msk F G) J := a.hold.tr b
abbrev sp_law_begun (K : PySem.W.Frag) : Sp := P2 fun a b H Q => ∃ (J C : Addr) (most : Int), a = .ref J ∧ b = .int most ∧ Jar H J C ∧ 6 ≤ most ∧ most ≤ 40 ∧
  ∀ H' L Z W D M, Sub (msk [J, C] H) H' → Jar H' J C → H' L = some (.lst [.ref W.w, .ref W.e, .ref M, .ref Z]) → WOk K (msk [J, C] H') W D → TabAt (msk [J, C] H') M D.ls D.od → D.tm = 0 → D.kn = 0 → exN D.ls ≤ most → (∀ x ∈ D.ms, x.1 ∈ lets) → Q (.ref L) H'
theorem WOk.clear {H : Hp} {W : WA} {D : WD} {J C : Addr} (h : WOk K H W D) (hj : Jar H J C) {G : Hp} (hg : Jar G J C) (fr : ∀ a ∈ W.t.fp true, G a = none) : WOk K (msk [J, C] H) W D :=
  h.cut hj.lists fun a ha hm => by
    obtain ⟨xs, e⟩ := hg.lists a ha
    rw [fr a hm] at e; cases e
theorem ok_law_begun (T : Tx K mg) : Gd P w K mg base 11 "_law_begun" ["_law_jar_here", "_law_most"] (sp_law_begun K) := by
  refine mkd T.F_law_begun T.g_law_begun sc_law_begun P2.ar (fun _ _ _ _ _ _ us hl => match us, hl with | [_, _], _ => rfl) fun cdv A0 outer s0 H vs Q E hr h => ?_
  obtain ⟨_, _, rfl, J, C, most, rfl, rfl, hj, m6, m40, hq⟩ := h
  refine ⟨_, (pss_cons (ps_set (i := 2) sc_law_begun.nd rfl (by first | exact .inl rfl | exact .inr rfl) (cl (ok_law_small T) hr (pa_cons (pv 0) (pa_cons (pv 1) pa_nil))))
  (pss_cons (ps_set (i := 3) sc_law_begun.nd rfl (by first | exact .inl rfl | exact .inr rfl) (cl (ok_law_moved T) hr (pa_cons (pv 2) pa_nil)))
  (pss_cons (ps_setLc (i := 4) (own := [("_law_k", 6)]) (g := (gName 6)) (tt := tYes) (te := (tCall (sp_law_sip K) [] E0 (tCons (tVar 0) (tCons (tCB (rLen K) (tCons (tVar 3) tNil)) tNil)))) rfl sc_law_begun.nd rfl rfl (sw_true rfl rfl rfl (by decide +kernel)) (pi_range1 rfl T.n_range (pa_cons pe_int pa_nil)) (blkOk_by (N := ["_law_jar_here", "_law_most", "_law_exchange", "_law_moved_here", "_law_places", "_law_walker", "_law_k"]) (sc := defScope s_law_begun) (by decide +kernel)) (fun _ _ _ _ _ => (pg_name (i := 6) sc_law_begun.nd rfl (by first | exact .inl rfl | exact .inr rfl))) (fun _ _ _ _ _ => pts_nil) (fun _ _ _ _ _ => (cl (ok_law_sip T) hr (pa_cons (pv 0) (pa_cons (pe_callB call_len_seq rfl T.n_len (by decide +kernel) (pa_cons (pv 3) pa_nil)) pa_nil)))))
  (pss_cons (ps_if (pt_cmpR op_eq (cl (ok_law_sip T) hr (pa_cons (pv 0) (pa_cons pe_int pa_nil))) pe_int (nomark _)) (pss_one (ps_ret (pe_lst (pa_cons (ci (ok_Walker_init T) hr (pa_cons (pv 2) pa_nil)) (pa_cons (pv 2) (pa_cons (pv 3) (pa_cons (pe_tup (pa_cons (pe_tup pa_nil) (pa_cons pe_int pa_nil))) pa_nil))))))) pss_nil)
  (pss_cons (ps_if (pt_cmpR op_eq (cl (ok_law_sip T) hr (pa_cons (pv 0) (pa_cons pe_int pa_nil))) pe_int (nomark _)) (pss_one (ps_ret (pe_lst (pa_cons (cC (ok_Walker_of T) hr T.g_Walker (pa_cons (pv 2) (pa_cons (pe_ix ix_list (pv 4) pe_int (fun _ _ => rfl)) pa_nil))) (pa_cons (pv 2) (pa_cons (pv 3) (pa_cons (pe_tup (pa_cons (pe_tup (pa_cons (pe_tup (pa_cons pe_str (pa_cons (pe_ix ix_list (pv 4) pe_int (fun _ _ => rfl)) pa_nil))) pa_nil)) (pa_cons pe_int pa_nil))) pa_nil))))))) pss_nil)
  (pss_cons (ps_set (i := 5) sc_law_begun.nd rfl (by first | exact .inl rfl | exact .inr rfl) (cC (ok_Walker_of T) hr T.g_Walker (pa_cons (pv 2) (pa_cons (pe_ix ix_list (pv 4) pe_int (fun _ _ => rfl)) (pa_cons (pe_ix ix_list (pv 4) pe_int (fun _ _ => rfl)) (pa_cons (pe_ix ix_list (pv 4) pe_int (fun _ _ => rfl)) (pa_cons (pe_ix ix_list (pv 4) pe_int (fun _ _ => rfl)) pa_nil)))))))
  (pss_one (ps_ret (pe_lst (pa_cons (pv 5) (pa_cons (pv 2) (pa_cons (pv 3) (pa_cons (pe_tup (pa_cons (pe_tupZip rfl T.n_tuple rfl T.n_zip (pa_cons pe_str (pa_cons (pv 4) pa_nil))) (pa_cons pe_int pa_nil))) pa_nil))))))))))))), ?_⟩
  walk_at "re"
  intro H1 e ls od m1 hj1 hex ok hle
  have h40 : exN ls ≤ 40 := by omega
  walk_at "re"
  intro H2 M s2 nM ht
  have nMJ : M ∉ [J, C] := hj1.out nM
  have hj2 := hj1.sub s2
  have hex2 := hex.sub s2
  have hend : Ends 200 (st0 ls od) := Ends.mono (j := 40) (by decide) (ends_small 40 (good0 ok.ex) h40)
  walk_at "re"
  have pos1 : 1 ≤ exN ls := by
    rw [exN_sum]
    have h0 : 0 < ls.length := ok.one
    have := sum_le_of ls ls[0] ok.pos (List.getElem_mem h0)
    have := ok.pos ls[0] (List.getElem_mem h0)
    omega
  obtain ⟨fs, hM, hlen, htab⟩ := ht.ex
  refine ⟨by decide, by decide, fun D hD => lc_it (walk_range (lo := 0) (n := 4)) (fun i H' => Bx (Sub (msk [J, C] H2) H' ∧ Jar H' J C ∧ ∃ acc : List Int, H' D = some (.lst (iV acc)) ∧ acc.length = i ∧ ∀ x ∈ acc, 0 ≤ x ∧ x < exN ls))
     ⟨msk_sub.tr (Sub.rfl'.new hD), hj2.sub (Sub.rfl'.new hD), [], upd_same, rfl, fun x hx => by simp at hx⟩ (fun _ _ _ _ => trivial) (fun i v Ha Hb hi h hy => ?_) fun Ha h => ?_⟩
  · obtain ⟨mA, hjA, acc, hA, hl, hacc⟩ := h.o
    obtain ⟨rfl, rfl⟩ := hy
    have hMA := mA.at (msk_at hM nMJ)
    have oD : D ∉ [J, C] := hj2.out hD
    refine ⟨rfl, ?_⟩
    walk_at "re"
    refine ⟨by rw [iV_len]; omega, by rw [iV_len]; omega, fun Hc r mc hjc r0 r1 => ?_⟩
    rw [iV_len] at r1
    refine ⟨iV acc, mc.at (msk_at hA oD), szlt (by rw [iV_len]; omega), ?_⟩
    refine ⟨(mskT mA mc).upd (by rw [msk_out oD]; exact hD), hjc.off oD, acc ++ [r], by rw [upd_same, iV_snoc], by rw [List.length_append, hl]; rfl, fun x hx => ?_⟩
    rcases List.mem_append.mp hx with q | q
    · exact hacc x q
    · rw [List.mem_singleton.mp q]; exact ⟨r0, by omega⟩
  obtain ⟨mA, hjA, acc, hA, hl, hacc⟩ := h.o
  have oD : D ∉ [J, C] := hj2.out hD
  have hexA : ExT Ha e ls od := by
    obtain ⟨l, o, a, b, c⟩ := hex2
    have k0 : ∀ {a : Addr} {ys : List V}, H2 a = some (.tup ys) → Ha a = some (.tup ys) := fun {a ys} ha => mA.at (msk_at ha (fun hm => by
      obtain ⟨xs, q⟩ := hj2.lists a hm
      rw [q] at ha; cases ha))
    exact ⟨l, o, k0 a, k0 b, k0 c⟩
  have htA : TabAt (msk [J, C] Ha) M ls od := ⟨fs, mA.hold.at (msk_at hM nMJ), hlen, htab⟩
  have MA : Sub (msk [J, C] H) Ha := (m1.tr s2).hold.tr mA
  clear htab hlen hM hex2 hj2 mA
  obtain ⟨b0, b1, b2, b3, rfl⟩ : ∃ b0 b1 b2 b3, acc = [b0, b1, b2, b3] := by
    match acc, hl with
    | [b0, b1, b2, b3], _ => exact ⟨b0, b1, b2, b3, rfl⟩
  have g0 : atI (iV [b0, b1, b2, b3]) 0 = some (.int b0) := rfl
  have g1 : atI (iV [b0, b1, b2, b3]) 1 = some (.int b1) := rfl
  have g2 : atI (iV [b0, b1, b2, b3]) 2 = some (.int b2) := rfl
  have g3 : atI (iV [b0, b1, b2, b3]) 3 = some (.int b3) := rfl
  have hexM : ExT (msk [J, C] Ha) e ls od := by
    obtain ⟨l, o, a, b, c⟩ := hexA
    have k0 : ∀ {a : Addr} {ys : List V}, Ha a = some (.tup ys) → msk [J, C] Ha a = some (.tup ys) := fun {a ys} ha => msk_at ha (fun hm => by
      obtain ⟨xs, q⟩ := hjA.lists a hm
      rw [q] at ha; cases ha)
    exact ⟨l, o, k0 a, k0 b, k0 c⟩
  have hAM : msk [J, C] Ha D = some (.lst (iV [b0, b1, b2, b3])) := msk_at hA oD
  clear hexA hA
  walk_at "re"
  refine ⟨by decide, by decide, fun H3 r1 m3 hj3 a0 a1 => ?_⟩
  have M3 := MA.hold.tr m3
  replace hexM := hexM.sub m3.hold
  replace hAM := m3.hold.at hAM
  replace htA := htA.sub m3.hold
  clear m3 MA hjA
  walk_at "re"
  refine L2.ite2 (fun z => ?_) fun z => ?_
  · clear z
    have hex3 := hexM.sub msk_sub
    walk_at "re"
    intro x dx nx nd ne
    refine ⟨_, _, rfl, x, dx, e, ls, od, rfl, rfl, upd_same, hex3.sub ((Sub.rfl'.new nd).upd nx), ok, hend, fun H4 W s m ew ee hfr hw' => ⟨rfl, ?_⟩⟩
    have s4 : Sub H3 H4 := Sub.born nx nd ne m
    subst ee
    walk_at "re"
    refine ⟨by show 0 ≤ sizeLine; decide, fun p1 n1 => ?_⟩
    refine ⟨by show 2 ≤ sizeLine; decide, fun p2 n2 => ?_⟩
    refine ⟨by show 4 ≤ sizeLine; decide, fun L nL => ?_⟩
    have s5 := ((Sub.rfl' (G := H4)).new (o := .tup []) n1).tr (((Sub.rfl').new (o := .tup [.ref p1, .int 0]) n2).tr ((Sub.rfl').new (o := .lst [.ref x, .ref W.e, .ref M, .ref p2]) nL))
    have s6 := s4.tr s5
    subst ew
    refine hq _ L p2 W _ M (M3.tr s6) (hj3.sub s6) upd_same ((hw'.sub s5).clear (hj3.sub s6) hj3 fun a ha => ((Sub.rfl'.new nd).upd nx).fresh (hfr a ha)) (htA.sub (msk_mono s6)) rfl rfl hle (fun x hx => by simp at hx)
  clear z
  walk_at "re"
  refine ⟨by decide, by decide, fun H4 r2 m4 hj4 c0 c1 => ?_⟩
  have M4 := M3.hold.tr m4
  replace hexM := hexM.sub m4.hold
  replace hAM := m4.hold.at hAM
  replace htA := htA.sub m4.hold
  clear m4 M3 hj3 a0 a1 r1 H3
  have hA4 := msk_sub.at hAM
  have hex4 := hexM.sub msk_sub
  have q0 := hacc b0 (by simp)
  have q1 := hacc b1 (by simp)
  have q2 := hacc b2 (by simp)
  have q3 := hacc b3 (by simp)
  walk_at "re"
  refine L2.ite2 (fun z => ?_) fun z => ?_
  · clear z
    refine ⟨rfl, _, rfl, _, rfl, D, _, _, _, rfl, rfl, SqL.of hA4, g0, ?_⟩
    refine ⟨[.ref (cW K), .ref e], [.int b0], rfl, rfl, by show 1 ≤ sizeLine; decide, fun pl npl => ?_⟩
    refine ⟨_, _, _, rfl, e, pl, ls, od, [b0], rfl, rfl, rfl, upd_same, by show 1 ≤ 4; decide, fun p hp => by rw [List.mem_singleton.mp hp]; exact q0, hex4.sub (Sub.rfl'.new npl), ok, hend, fun H5 W s m5 nW ee hfr hw' => ?_⟩
    have s5 : Sub H4 H5 := (Sub.rfl'.new npl).tr m5
    have hA5 := s5.at hA4
    subst ee
    walk_at "re"
    refine ⟨by show 2 ≤ sizeLine; decide, fun p0 n0 => ?_⟩
    have hA6 := ((Sub.rfl' (G := H5)).new (o := .tup [.str "a", .int b0]) n0).at hA5
    refine ⟨by show 1 ≤ sizeLine; decide, fun p1 n1 => ?_⟩
    refine ⟨by show 2 ≤ sizeLine; decide, fun p2 n2 => ?_⟩
    refine ⟨by show 4 ≤ sizeLine; decide, fun L nL => ?_⟩
    have s6 := ((((Sub.rfl' (G := H5)).new (o := .tup [.str "a", .int b0]) n0).tr ((Sub.rfl').new (o := .tup [.ref p0]) n1)).tr ((Sub.rfl').new (o := .tup [.ref p1, .int 0]) n2)).tr ((Sub.rfl').new (o := .lst [.ref W.w, .ref W.e, .ref M, .ref p2]) nL)
    have s7 := s5.tr s6
    refine hq _ L p2 W _ M (M4.tr s7) (hj4.sub s7) upd_same ((hw'.sub s6).clear (hj4.sub s7) hj4 fun a ha => (Sub.rfl'.new npl).fresh (hfr a ha)) (htA.sub (msk_mono s7)) rfl rfl hle (fun y hy => (List.of_mem_zip (a := y.1) (b := y.2) hy).1)
  clear z
  refine ⟨rfl, _, rfl, _, rfl, D, _, _, _, rfl, rfl, SqL.of hA4, g0, _, rfl, D, _, _, _, rfl, rfl, SqL.of hA4, g1, _, rfl, D, _, _, _, rfl, rfl, SqL.of hA4, g2, _, rfl, D, _, _, _, rfl, rfl, SqL.of hA4, g3, ?_⟩
  refine ⟨[.ref (cW K), .ref e], [.int b0, .int b1, .int b2, .int b3], rfl, rfl, by show 4 ≤ sizeLine; decide, fun pl npl => ?_⟩
  refine ⟨_, _, _, rfl, e, pl, ls, od, [b0, b1, b2, b3], rfl, rfl, rfl, upd_same, by show 4 ≤ 4; decide, fun p hp => hacc p hp, hex4.sub (Sub.rfl'.new npl), ok, hend, fun H5 W s m5 nW ee hfr hw' => ?_⟩
  have s5 : Sub H4 H5 := (Sub.rfl'.new npl).tr m5
  have hA5 := s5.at hA4
  subst ee
  walk_at "re"
  refine ⟨.inr (SqL.of hA5), by rw [iV_len]; show 4 ≤ 4; decide, by rw [iV_len]; show 4 ≤ 1000; decide, fun H6 p1 as s6 hp1 hA => ?_⟩
  refine ⟨by show 2 ≤ sizeLine; decide, fun p2 n2 => ?_⟩
  refine ⟨by show 4 ≤ sizeLine; decide, fun L nL => ?_⟩
  have s7 := s6.tr (((Sub.rfl' (G := H6)).new (o := .tup [.ref p1, .int 0]) n2).tr ((Sub.rfl').new (o := .lst [.ref W.w, .ref W.e, .ref M, .ref p2]) nL))
  have s8 := s5.tr s7
  refine hq _ L p2 W _ M (M4.tr s8) (hj4.sub s8) upd_same ((hw'.sub s7).clear (hj4.sub s8) hj4 fun a ha => (Sub.rfl'.new npl).fresh (hfr a ha)) (htA.sub (msk_mono s8)) rfl rfl hle (fun y hy => (List.of_mem_zip (a := y.1) (b := y.2) hy).1)
end
end Bt
end
section
set_option Elab.async false
set_option linter.all false
set_option maxRecDepth 100000
set_option maxHeartbeats 2000000
set_option autoImplicit false
namespace Bt
open PySem PySem.Spec PyProof.Rows L2 GenW
/-! ### a generator method -/
section
variable (P : Program) (w : World) (K : PySem.W.Frag) (mg : PySem.Str → Option Value) (base : Heap)
structure Gg (k : Nat) (C : Addr) (m : PySem.Str) (ps ks : List PySem.Str) (n : Nat) (dvs : List V) (sp : SpG) : Prop where
  ex : ∃ f fd ds, GFn P w K mg base k f fd ps sp ∧ Cls K C ∧ Meth K C m f ∧ Binds K fd ps ds ∧ Vals dvs ds ∧ KBn K fd ps n ks (fun us ws => us ++ ws) (fun vs zs => vs ++ zs)
end
theorem mkg {P : Program} {w : World} {K : PySem.W.Frag} {mg : PySem.Str → Option Value} {base : Heap} {C : Addr} {x qual : PySem.Str} {pa : Arguments} {bd : List Stmt} {sc : Scope} {f : Addr} {N ps ks : List PySem.Str} {k : Nat} {sp : SpG} {kws : List (PySem.Str × V)}
    (F : ∃ fd, FunD K x qual pa bd sc [] kws f fd) (c : Cls K C) (M : Meth K C x f) (S : GScope N ps sc) (m : Nat) (hk : kws ≠ []) (hm : m + kws.length = ps.length)
    (h : ∀ (D : Addr) (doc pm : Value) (an : Option Addr) (cdv ct : Value) (us ks : List Value), us.length = m → ks.length = kws.length →
      KwChain D ((kws.map (·.1)).zip ks) (bindArgs (PySem.W.fnOf x qual pa bd sc .none (.ref D) doc pm an cdv ct) ⟨us, []⟩) (ps.zip (us ++ ks)))
    (h2 : ∀ (kV doc pm : Value) (an : Option Addr) (cdv ct : Value) (us ws : List Value), us.length = m → ws.length = ks.length →
      bindArgs (PySem.W.fnOf x qual pa bd sc .none kV doc pm an cdv ct) ⟨us, ks.zip ws⟩ = pure (ps.zip (us ++ ws)))
    (len : ∀ vs H Q E, sp vs H Q E → vs.length = ps.length)
    (hbody : ∀ (cdv : Value) (A : Around) (outer : List Env) (s : Shared) (H : Hp) (vs : List V) (Q : List V → Hp → Prop) (E : XK) (pn : List (Addr × Obj)), Room k (A.deeper (envOfC qual sc s.heap.objs.size f cdv)) → sp vs H Q E →
      ∃ t, GSs (gcxOf P w K mg base N qual sc f cdv A outer s H E pn) bd t ∧ t { nx := fun ys _ H' => Q ys H', rt := fun ys v H' => v = .non ∧ Q ys H' } [] (start N vs) H) : Gg P w K mg base (k + 1) C x ps ks m (kws.map (·.2)) sp := by
  obtain ⟨fd, F⟩ := F
  obtain ⟨ds, v, b⟩ := F.binds0 m hk hm h
  obtain ⟨oc, od, dV, kV, doc, pm, an, cdv, ct, osl, e, lk, hcd, hD, hK⟩ := F.ex
  subst e
  refine ⟨f, _, ds, gfn_of lk hcd S len fun A outer s H vs Q E pn hr hsp => hbody cdv A outer s H vs Q E pn hr hsp, c, M, b, v, ⟨fun s us ws X l1 l2 => ?_, fun r1 r2 => r1.append r2⟩⟩
  rcases hD with ⟨_, q⟩ | ⟨q, _⟩
  · subst q
    exact BindsTo.of_eq (h2 kV doc pm an cdv ct us ws l1 l2)
  · exact absurd rfl q
section
variable {X : Cx} {j k n : Nat} {f C : Addr} {fd : FuncData} {ps ks : List PySem.Str} {sp : SpG} {dvs : List V} {x m : PySem.Str} {p pos pos' apos : Pos} {o e : Expr} {es : List Expr} {kws : List Keyword} {ta : TE} {t tk : L2.TA}
theorem passE0 : Passes (CX X.prog X.w) X E0 := fun _ _ _ _ _ _ _ h => by
  obtain ⟨_, _, _, _, _, _, _, _, _, _, _, _, h⟩ := h
  exact False.elim h
theorem nsE0 {K : PySem.W.Frag} : NoStop K E0 := fun _ _ _ h => False.elim h
theorem run_gfnN {pins : List (Addr × Obj)} {σ : L2.St} {H : Hp} {s : Shared} {us ws : List Value} {vs zs : List V} {cont : List V → Hp → Prop} {E : XK} {E1 : Value → Shared → Prop} {g : List Value → List Value → List Value} {gV : List V → List V → List V} (F : GFn X.prog X.w X.K X.mg X.base k f fd ps sp) (hr : Room k X.A) (hb : KBn X.K fd ps n ks g gV)
    (I : Inv X pins σ H s) (r : Vals vs us) (rz : Vals zs ws) (l1 : vs.length = n) (l2 : zs.length = ks.length) (h : sp (gV vs zs) H cont E) :
    wpAny (model X.prog X.w) X.A (call (.ref f) us (ks.zip ws)) (fun u s' => ∃ H1 sc ex, Inv X pins σ H1 sc ∧ L2.ExOk X pins ex ∧ GMade X.prog X.w k X.stack H1 sc ex cont E u s') E1 s := by
  have r2 := hb.rel r rz
  refine wpAny_call (codeAny_mono (F.run X.A X.stack s H ⟨us, ks.zip ws⟩ (g us ws) (gV vs zs) cont E hr I.env0 (hb.to s us ws I.kIn (r.length.symm.trans l1) (rz.length.symm.trans l2)) r2 h) fun r s' hq => ?_)
  cases r with
  | error e => exact False.elim hq
  | ok fl =>
    cases fl with
    | ret u => exact ⟨H, s, [], I, .nil, hq⟩
    | next => exact False.elim hq
    | brk => exact False.elim hq
    | cont => exact False.elim hq
/-- o.m(e, ..) of a generator method -/
theorem gM {pl : Sem Bool} (G : Gg X.prog X.w X.K X.mg X.base j C m ps ks n dvs sp) (hr : Room k X.A) (he : PE X o ta) (ha : PA X (e :: es) t) (hjk : j ≤ k := by decide)
    (hst : starEach (e :: es) X.env = (false, eval e X.env) :: starEach es X.env := by rfl) (hpl : (backTo pos' (starEach es X.env)).any (·.1) = false := by rfl)
    (ht : eval (.Call (.Attribute o m apos) (e :: es) [] pos') X.env = (do
      let ov ← eval o X.env
      standAt apos.atName
      let (f, first) ← holding [ov] (getMethod ov m pl)
      callWith pos' f first (backTo pos' (starEach (e :: es) X.env)) (backToKw pos' (keywordEach [] X.env))) := by rfl) :
    PGen X j (.Call (.Attribute o m apos) (e :: es) [] pos') (tMethG C m sp dvs E0 ta t) E0 := by
  obtain ⟨f, fd, ds, F, c, M, b, v, _⟩ := G.ex
  exact pgen_meth he c M F (hr.mono hjk) b v ha hst hpl ht
def tMethGK (C : Addr) (m : PySem.Str) (n l : Nat) (sp : SpG) (ta : TE) (t tk : L2.TA) : TGen := fun σ H cont => ta σ H fun x H1 => ∃ a dx fs, x = .ref a ∧ H1 a = some (.ins C dx fs) ∧ fs.lookup m = none ∧
  t σ H1 fun vs H2 => tk σ H2 fun zs H3 => (x :: vs).length = n ∧ zs.length = l ∧ sp ((x :: vs) ++ zs) H3 cont E0
/-- o.m(e, .., k = v) of a generator method -/
theorem gK {pl : Sem Bool} (G : Gg X.prog X.w X.K X.mg X.base j C m ps ks n dvs sp) (hr : Room k X.A) (he : PE X o ta) (ha : PA X (e :: es) t) (hkw : PK X kws tk) (hjk : j ≤ k := by decide)
    (hall : (backToKw pos' (keywordEach kws X.env)).all (·.1.isSome) = true := by rfl) (hks : (backToKw pos' (keywordEach kws X.env)).filterMap (·.1) = ks := by rfl)
    (hst : starEach (e :: es) X.env = (false, eval e X.env) :: starEach es X.env := by rfl)
    (hpl : ((backTo pos' (starEach (e :: es) X.env)).any (·.1) || (backToKw pos' (keywordEach kws X.env)).any (·.1.isNone)) = false := by rfl)
    (ht : eval (.Call (.Attribute o m apos) (e :: es) kws pos') X.env = (do
      let ov ← eval o X.env
      standAt apos.atName
      let (f, first) ← holding [ov] (getMethod ov m pl)
      callWith pos' f first (backTo pos' (starEach (e :: es) X.env)) (backToKw pos' (keywordEach kws X.env))) := by rfl) :
    PGen X j (.Call (.Attribute o m apos) (e :: es) kws pos') (tMethGK C m n ks.length sp ta t tk) E0 := by
  obtain ⟨f, fd, ds, F, c, M, _, _, b⟩ := G.ex
  refine ⟨fun pins s σ H cont I h => ?_⟩
  refine PySem.W.methodCall_KW (pl := pl) (thn (he.run pins s σ H _ I h) fun u s1 ⟨x, H1, I1, rx, a, dx, fs, ex, ea, l, q⟩ => ?_) ht
  subst ex
  obtain rfl : u = Value.ref a := rx
  refine getmeth_ok I1 ea c M l ?_
  refine PySem.W.callWith_KW (first := [.ref a]) (h₀ := X.base) I.ok.mod.kin M.kp hall (thn (ha.run pos' pins s1 σ H1 _ I1 q) fun us s2 ⟨vs, H2, I2, r, q2⟩ => ?_) hpl hst
  refine thn (hkw.run pos' pins s2 σ H2 _ I2 q2) fun ws s3 ⟨zs, H3, I3, rz, l1, l2, q3⟩ => ⟨I3.kIn, ?_⟩
  rw [hks]
  exact run_gfnN (us := .ref a :: us) (vs := .ref a :: vs) F (hr.mono hjk) b I3 (.cons rfl r) rz l1 l2 q3
/-- list(g) -/
theorem pe_listW {tg : TGen} (h : PGen X j e tg E0) (hr : Room k X.A) (hm : X.mg "list" = none) (hjk : j + 3 ≤ k := by decide) (hg : Gl X "list" := by rfl) (he : starEach [e] X.env = (false, eval e X.env) :: starEach [] X.env := by rfl) :
    PE X (.Call (.Name "list" p) [e] [] pos) (tListG tg) :=
  pe_listG h passE0 nsE0 (hr.mono hjk) hg hm (by decide +kernel) (he := he)
end
end Bt
end
section
set_option Elab.async false
set_option linter.all false
set_option maxRecDepth 100000
set_option maxHeartbeats 2000000
set_option autoImplicit false
namespace Bt
open PySem PySem.Spec PyProof.Rows L2 Rz
section
variable {P : Program} {w : World} {K : PySem.W.Frag} {mg : PySem.Str → Option Value} {base : Heap}
local macro_rules | `(tactic| walk_at "sd") => `(tactic| first
  | rfl | assumption
  | exact Sub.at ‹Sub _ _› (by assumption)
  | exact SqL.of (by assumption) | exact SqT.of (by assumption) | exact SqL.of (Sub.at ‹Sub _ _› (by assumption)) | exact SqT.of (Sub.at ‹Sub _ _› (by assumption))
  | exact Or.inl (SqL.of (by assumption)) | exact Or.inr (SqT.of (by assumption)) | exact Or.inl (SqL.of (Sub.at ‹Sub _ _› (by assumption))) | exact Or.inr (SqT.of (Sub.at ‹Sub _ _› (by assumption)))
  | exact ClsV.ty _ | exact TyX.base (.int _) | exact TyX.base (.str _) | exact TyX.base (.tup (by assumption)) | exact kit_int | exact kit_ib | exact kit_ss | exact kit_tt)
local macro_rules | `(tactic| walk_at "rd1") => `(tactic| first
  | (apply Exists.intro)
  | (refine And.intro ?_ ?_; (focus (walk_at "sd")))
  | (refine L2.iteT ?_)
  | (refine L2.iteF ?_))
local macro_rules | `(tactic| walk_at "rd") => `(tactic| repeat (walk_at "rd1"))
local macro_rules | `(tactic| walk_at "se") => `(tactic| first
  | rfl | assumption
  | exact Sub.at ‹Sub _ _› (by assumption)
  | exact SqL.of (by assumption) | exact SqT.of (by assumption) | exact SqL.of (Sub.at ‹Sub _ _› (by assumption)) | exact SqT.of (Sub.at ‹Sub _ _› (by assumption))
  | exact Or.inl (SqL.of (by assumption)) | exact Or.inr (SqT.of (by assumption)) | exact Or.inl (SqL.of (Sub.at ‹Sub _ _› (by assumption))) | exact Or.inr (SqT.of (Sub.at ‹Sub _ _› (by assumption)))
  | exact TRaw.ins ‹TRaw _ _ _ _ _› | exact TA.miss
  | exact TRaw.n ‹TRaw _ _ _ _ _›
  | exact TRaw.z ‹TRaw _ _ _ _ _›
  | exact TRaw.d ‹TRaw _ _ _ _ _›
  | exact TRaw.r ‹TRaw _ _ _ _ _›
  | exact TRaw.f ‹TRaw _ _ _ _ _›
  | exact TRaw.l ‹TRaw _ _ _ _ _›
  | exact TRaw.u ‹TRaw _ _ _ _ _›
  | exact TRaw.w ‹TRaw _ _ _ _ _› | exact TRaw.a ‹TRaw _ _ _ _ _› rfl
  | exact SqL.of (TRaw.n ‹TRaw _ _ _ _ _›)
  | exact SqL.of (TRaw.z ‹TRaw _ _ _ _ _›)
  | exact SqL.of (TRaw.d ‹TRaw _ _ _ _ _›)
  | exact SqL.of (TRaw.r ‹TRaw _ _ _ _ _›)
  | exact SqL.of (TRaw.f ‹TRaw _ _ _ _ _›)
  | exact SqL.of (TRaw.l ‹TRaw _ _ _ _ _›)
  | exact SqL.of (TRaw.u ‹TRaw _ _ _ _ _›)
  | exact SqL.of (TRaw.w ‹TRaw _ _ _ _ _›) | exact SqL.of (TRaw.a ‹TRaw _ _ _ _ _› rfl)
  | exact ClsV.ty _ | exact TyX.base (.int _) | exact TyX.base (.str _) | exact TyX.base (.tup (by assumption)) | exact kit_int | exact kit_ib | exact kit_ss | exact kit_tt)
local macro_rules | `(tactic| walk_at "re1") => `(tactic| first
  | (apply Exists.intro)
  | (refine And.intro ?_ ?_; (focus (walk_at "se")))
  | (refine L2.iteT ?_)
  | (refine L2.iteF ?_))
local macro_rules | `(tactic| walk_at "re") => `(tactic| repeat (walk_at "re1"))

theorem sc_Walker_walk : GScope ["self", "mark", "stride", "first", "place"] ["self", "mark", "stride"] (defScope s_Walker_walk) := ⟨rfl, rfl, rfl, by decide +kernel, rfl, by decide +kernel, by decide +kernel⟩
/-- the places by stride st from p on, y of them till p comes again -/
abbrev spG_Walker_walk (K : PySem.W.Frag) : SpG := fun vs H Q _ => ∃ (W : WA) (D : WD) (x : PySem.Str) (p st : Int) (y : Nat), vs = [.ref W.w, .str x, .int st] ∧ WOk K H W D ∧ (x, p) ∈ D.ms ∧ 1 ≤ st ∧ Per (fun q => it (mv D.ls D.od) st.toNat q) p y ∧ y ≤ 1000 ∧
  ∀ H', Sub H H' → Q (iV (orb (fun q => it (mv D.ls D.od) st.toNat q) p y)) H'
theorem okg_Walker_walk (T : Tx K mg) : Gg P w K mg base 4 (cW K) "walk" ["self", "mark", "stride"] ["stride"] 2 [.int 1] (spG_Walker_walk K) := by
  refine mkg (kws := [("stride", .int 1)]) T.F_Walker_walk T.c_Walker T.m_Walker_walk sc_Walker_walk 2 (by decide) rfl (fun D doc pm an cdv ct us ks h1 h2 => ?_) (fun kV doc pm an cdv ct us ws h1 h2 => ?_) (fun vs H Q E h => ?_) fun cdv A0 outer s0 H vs Q E pn hr h => ?_
  · match us, h1, ks, h2 with
    | [_, _], _, [_], _ => exact ⟨_, _, _, _, _, _, rfl, rfl, rfl⟩
  · match us, h1, ws, h2 with
    | [_, _], _, [_], _ => rfl
  · obtain ⟨_, _, _, _, _, _, e, _⟩ := h
    rw [e]; rfl
  obtain ⟨W, D, x, p, st, y, rfl, hw, hx, st1, per, hy, hq⟩ := h
  have hi := hw.ins
  have cc := T.c_Walker
  have x2 := T.a_Walker_turning
  refine ⟨_, (gss_cons (gs_ps (ps_set (i := 3) sc_Walker_walk.nd rfl (by first | exact .inl rfl | exact .inr rfl) (cm (ok_Walker_place_of T) hr (pv 0) (pa_cons (pv 1) pa_nil))))
  (gss_cons (gs_yield (pv 3))
  (gss_cons (gs_ps (ps_set (i := 4) sc_Walker_walk.nd rfl (by first | exact .inl rfl | exact .inr rfl) (cl (ok_place_in T) hr (pa_cons (pe_fld (pv 0) rfl) (pa_cons (pv 3) (pa_cons (pv 2) pa_nil))))))
  (gss_cons (gs_while owns_gcx (pt_cmpR op_ne (pv 4) (pv 3) (nomark _)) (gss_cons (gs_yield (pv 4))
  (gss_cons (gs_ps (ps_set (i := 4) sc_Walker_walk.nd rfl (by first | exact .inl rfl | exact .inr rfl) (cl (ok_place_in T) hr (pa_cons (pe_fld (pv 0) rfl) (pa_cons (pv 4) (pa_cons (pv 2) pa_nil))))))
  gss_nil)))
  gss_nil)))), ?_⟩
  have hsl : sizeLine = 16777216 := sizeLine_eq
  have hTk := hw.tok
  have hd := hw.ok.done
  have hex := hw.ok.ok.ex
  obtain ⟨p0, p1⟩ := hw.ok.pl (x, p) hx
  have st0 : 0 ≤ st := by omega
  walk_at "re"
  refine ⟨by show 0 < sizeLine; omega, ?_⟩
  walk_at "re"
  intro H1 s1
  have e1 : it (mv D.ls D.od) st.toNat p = it (fun q => it (mv D.ls D.od) st.toNat q) 1 p := rfl
  refine ⟨fun m ys σ H' => Bx (∃ k, 1 ≤ k ∧ k ≤ y ∧ m = y - k ∧ ys = iV (orb (fun q => it (mv D.ls D.od) st.toNat q) p k) ∧ σ = [some (.ref W.w), some (.str x), some (.int st), some (.int p), some (.int (it (fun q => it (mv D.ls D.od) st.toNat q) k p))] ∧ Sub H H'),
    ⟨y - 1, 1, Nat.le_refl _, per.pos, rfl, rfl, rfl, s1⟩, fun m ys σ H2 h => ?_⟩
  obtain ⟨k, k1, ky, rfl, rfl, rfl, s2⟩ := h.o
  have rng := it_range (n := exN D.ls) (T := fun q => it (mv D.ls D.od) st.toNat q) (fun q a b => it_range (fun r c d => mv_range hex c d) st.toNat q a b) k p p0 p1
  have q0 := rng.1
  have q1 := rng.2
  have hi2 := s2.at hi
  have hTk2 := hTk.sub s2
  walk_at "re"
  by_cases c : it (fun q => it (mv D.ls D.od) st.toNat q) k p = p
  · have ez : k = y := by
      rcases Nat.lt_or_ge k y with q | q
      · exact absurd c (per.min k k1 q)
      · omega
    subst ez
    refine ifF (by rw [c]; simp) ?_
    exact hq H2 s2
  · refine ifT (by simp [c]) ?_
    have kz : k < y := by
      rcases Nat.lt_or_ge k y with q | q
      · exact q
      · have : k = y := by omega
        subst this
        exact absurd per.back c
    refine ⟨fun ys σ H' => Bx (ys = iV (orb (fun q => it (mv D.ls D.od) st.toNat q) p (k + 1)) ∧ σ = [some (.ref W.w), some (.str x), some (.int st), some (.int p), some (.int (it (fun q => it (mv D.ls D.od) st.toNat q) (k + 1) p))] ∧ Sub H H'), fun ys' σ' H' h => ?_, ?_⟩
    · obtain ⟨rfl, rfl, a⟩ := h.o
      exact ⟨y - (k + 1), by omega, ⟨k + 1, by omega, kz, rfl, rfl, rfl, a⟩⟩
    · refine ⟨by rw [iV_len, orb_len]; omega, ?_⟩
      walk_at "re"
      intro H3 s3
      refine ⟨?_, ?_, s2.tr s3⟩
      · rw [iV_snoc, orb_succ]
      · rw [it_succ (fun q => it (mv D.ls D.od) st.toNat q) k p]; rfl
end
end Bt
end
section
set_option Elab.async false
set_option linter.all false
set_option maxRecDepth 100000
set_option maxHeartbeats 2000000
set_option autoImplicit false
namespace Bt
open PySem PySem.Spec PyProof.Rows L2 GenW
/-! ### a heap without what is younger -/
def cutH (n : Nat) (h : Heap) : Heap := { h with objs := h.objs.extract 0 n }
theorem cutH_size {n : Nat} {h : Heap} (l : n ≤ h.objs.size) : (cutH n h).objs.size = n := by
  show (h.objs.extract 0 n).size = n
  rw [Array.size_extract]; omega
theorem cutH_old {n b : Nat} {h : Heap} (l : b < n) : (cutH n h).get? b = h.get? b := by
  have e : (h.objs.extract 0 n)[b]? = h.objs[b]? := by
    rw [Array.getElem?_extract]
    by_cases hb : b < h.objs.size
    · rw [if_pos (by omega)]; congr 1; omega
    · rw [if_neg (by omega), Array.getElem?_eq_none (by omega)]
  have e' : (cutH n h).objs[b]? = h.objs[b]? := e
  unfold Heap.get?
  rw [e']
theorem cutH_new {n b : Nat} {h : Heap} (l : n ≤ b) : (cutH n h).get? b = none := by
  refine Heap.get?_none_of_le ?_
  show (h.objs.extract 0 n).size ≤ b
  rw [Array.size_extract]; omega
theorem cutH_get {n : Nat} {b : Addr} {h : Heap} {o : Obj} (e : (cutH n h).get? b = some o) : h.get? b = some o ∧ b < n := by
  rcases Nat.lt_or_ge b n with c | c
  · rw [cutH_old c] at e; exact ⟨e, c⟩
  · rw [cutH_new c] at e; cases e
/-! ### what a generator may lean on: lists, tuples, instances, their dicts; without F -/
def plainO : HO → Bool
  | .lst _ => true | .tup _ => true | .ins _ _ _ => true | .own _ => true
  | _ => false
def isIns : Option HO → Bool
  | some (.ins _ _ _) => true
  | _ => false
def thin (F : Addr) (H : Hp) : Hp := fun b => if b = F then none else match H b with
  | some (.lst xs) => some (.lst xs) | some (.tup xs) => some (.tup xs) | some (.ins C dx fs) => some (.ins C dx fs)
  | some (.own x) => if isIns (H x) = true then some (.own x) else none
  | _ => none
section
variable {F : Addr} {H : Hp}
theorem thin_sub : Sub (thin F H) H := fun b u e => by
  unfold thin at e
  split at e
  · cases e
  · split at e
    all_goals try (rename_i q; rw [q])
    all_goals try exact e
    · split at e
      · exact e
      · cases e
    · cases e
theorem thin_plain {b : Addr} {u : HO} (e : thin F H b = some u) : plainO u = true := by
  unfold thin at e
  split at e
  · cases e
  · split at e
    · cases e; rfl
    · cases e; rfl
    · cases e; rfl
    · split at e
      · cases e; rfl
      · cases e
    · cases e
theorem thin_F : thin F H F = none := by unfold thin; rw [if_pos rfl]
theorem thin_lst {b : Addr} {xs : List V} (n : b ≠ F) (e : H b = some (.lst xs)) : thin F H b = some (.lst xs) := by unfold thin; rw [if_neg n, e]
theorem thin_tup {b : Addr} {xs : List V} (n : b ≠ F) (e : H b = some (.tup xs)) : thin F H b = some (.tup xs) := by unfold thin; rw [if_neg n, e]
theorem thin_ins {b C dx : Addr} {fs : List (PySem.Str × V)} (n : b ≠ F) (e : H b = some (.ins C dx fs)) : thin F H b = some (.ins C dx fs) := by unfold thin; rw [if_neg n, e]
theorem thin_own {b x : Addr} (n : b ≠ F) (e : H b = some (.own x)) (i : isIns (H x) = true) : thin F H b = some (.own x) := by unfold thin; rw [if_neg n, e]; show (if _ then _ else _) = _; rw [if_pos i]
theorem thin_hok {P : Program} {w : World} {h : Heap} {ys : List V} (hF : H F = some (.lst ys)) (hk : HOk P w H h) : HOk P w (thin F H) h := fun b u e => by
  have hb := thin_sub b u e
  have p := thin_plain e
  have o := hk b u hb
  cases u with
  | lst xs => exact o
  | tup xs => exact o
  | ins C dx fs =>
    obtain ⟨d, r⟩ := o
    refine ⟨thin_own (fun q => by rw [q, hF] at d; cases d) d (by rw [hb]; rfl), r⟩
  | own x => exact o
  | _ => exact absurd p Bool.false_ne_true
end
/-- what was held before is held again -/
theorem hok_back {P : Program} {w : World} {G H : Hp} {h0 h : Heap} (pl : ∀ b u, G b = some u → plainO u = true) (h0k : HOk P w G h0) (s : Sub G H) (hk : HOk P w H h) : HOk P w G h := fun b u e => by
  have o0 := h0k b u e
  have o := hk b u (s b u e)
  have p := pl b u e
  cases u with
  | lst xs => exact o
  | tup xs => exact o
  | ins C dx fs => exact ⟨o0.1, o.2⟩
  | own x => exact o
  | _ => exact absurd p Bool.false_ne_true
/-- the consumer's heap, its list at F written -/
theorem hok_fore {P : Program} {w : World} {H : Hp} {F : Addr} {ys : List V} {h h' : Heap} (hc : HOk P w (upd H F (.lst ys)) h) (hg : HOk P w (thin F H) h') (hF : ∃ zs, H F = some (.lst zs))
    (kp : ∀ b u o, upd H F (.lst ys) b = some u → thin F H b = none → h.get? b = some o → h'.get? b = some o) : HOk P w (upd H F (.lst ys)) h' := fun b u e => by
  by_cases hb : b = F
  · subst hb
    rw [upd_same] at e
    cases e
    obtain ⟨z, its, n, r, q⟩ := hc b _ upd_same
    exact ⟨z, its, n, r, kp b _ _ upd_same thin_F q⟩
  · have e' := e
    rw [upd_ne hb] at e'
    cases q : thin F H b with
    | some u2 =>
      have := thin_sub b u2 q
      rw [e'] at this
      cases this
      refine (hg b u q).stay (fun c v _ z => z) (fun c z => ?_) fun c xs z => ?_
      · rw [upd_ne (fun x => by rw [x, thin_F] at z; cases z)]; exact thin_sub _ _ z
      · rw [upd_ne (fun x => by rw [x, thin_F] at z; cases z)]; exact thin_sub _ _ z
    | none =>
      refine (hc b u e).stay (fun c v hcv z => ?_) (fun _ z => z) fun _ _ z => z
      rcases hcv with hcv | hcv
      · subst hcv; exact kp c u v e q z
      · refine kp c _ v hcv ?_ z
        have nF : c ≠ F := fun x => by rw [x, upd_same] at hcv; cases hcv
        rw [upd_ne nF] at hcv
        unfold thin
        rw [if_neg nF, hcv]
        show (if _ then _ else _) = _
        refine if_neg fun i => ?_
        cases q2 : H b with
        | none => rw [q2] at e'; cases e'
        | some v2 =>
          rw [q2] at i
          cases v2 with
          | ins C dx fs => rw [thin_ins hb q2] at q; cases q
          | _ => exact absurd i Bool.false_ne_true
/-! ### a generator that sleeps while its consumer works on: the frame at L, the fixed heap G -/
section
variable (P : Program) (w : World) (K : PySem.W.Frag) (mg : PySem.Str → Option Value) (base : Heap) (N : List PySem.Str) (qual : PySem.Str) (sc : Scope) (f : Addr) (cd : Value) (A : Around) (outer : List Env) (sC : Shared) (G : Hp) (pn : List (Addr × Obj))
/-- its context in a run that began at s -/
def gW (s : Shared) : Cx := { gcxOf P w K mg base N qual sc f cd A outer sC G E0 pn with s_0 := { s with heap := cutH sC.heap.objs.size s.heap }, xe := fun _ _ => False }
/-- what is true of it for good -/
structure GFix : Prop where
  ok : (gcxOf P w K mg base N qual sc f cd A outer sC G E0 pn).Ok
  nocell : ∀ x, (envOfC qual sc sC.heap.objs.size f cd).cells.lookup x = none
  dom : ∀ b u, G b = some u → b < sC.heap.objs.size
  plain : ∀ b u, G b = some u → plainO u = true
  fr : ∀ b ∈ frs outer, b < sC.heap.objs.size
  young : ∀ p ∈ pn, sC.heap.objs.size < p.1 ∧ ∀ v, p.2.data ≠ .cell v
/-- its slots -/
structure GSt (σ : L2.St) (h : Heap) : Prop where
  loc : ∃ m, h.Ns sC.heap.objs.size m ∧ ∀ (i : Nat) (x : PySem.Str) (v : V), N[i]? = some x → σ[i]? = some (some v) → Vis sc x → ∃ u, RelV v u ∧ Look (envOfC qual sc sC.heap.objs.size f cd) h m x u
  len : σ.length = N.length
  pin : ∀ p ∈ pn, h.get? p.1 = some p.2
end
section
variable {P : Program} {w : World} {K : PySem.W.Frag} {mg : PySem.Str → Option Value} {base : Heap} {N : List PySem.Str} {qual : PySem.Str} {sc : Scope} {f : Addr} {cd : Value} {A : Around} {outer : List Env} {sC : Shared} {G : Hp} {pn : List (Addr × Obj)} {σ : L2.St} {s s1 : Shared} {H : Hp}
theorem GSt.lt {h : Heap} (g : GSt N qual sc f cd sC pn σ h) : sC.heap.objs.size < h.objs.size := let ⟨_, n, _⟩ := g.loc; n.lt
theorem GSt.keep (X : GFix P w K mg base N qual sc f cd A outer sC G pn) {h h' : Heap} (g : GSt N qual sc f cd sC pn σ h) (k : ∀ b o, b = sC.heap.objs.size ∨ b ∈ pn.map (·.1) → h.get? b = some o → h'.get? b = some o) : GSt N qual sc f cd sC pn σ h' := by
  obtain ⟨m, ⟨o, es, ep, ho, r⟩, hl⟩ := g.loc
  refine ⟨⟨m, ⟨o, es, ep, k _ _ (.inl rfl) ho, r⟩, fun i x v e1 e2 e3 => ?_⟩, g.len, fun p hp => k _ _ (.inr (List.mem_map_of_mem hp)) (g.pin p hp)⟩
  obtain ⟨u, rv, l⟩ := hl i x v e1 e2 e3
  refine ⟨u, rv, ?_⟩
  rcases l with l | ⟨_, c, hc, _⟩
  · exact .inl l
  · rw [X.nocell x] at hc; cases hc
/-- it wakes -/
theorem wk_inv (X : GFix P w K mg base N qual sc f cd A outer sC G pn) (e : Env0 P w K mg base A outer s G) (g : GSt N qual sc f cd sC pn σ s.heap) : Inv (gW P w K mg base N qual sc f cd A outer sC G pn s) [] σ G s := by
  have hlt := g.lt
  have hz : (cutH sC.heap.objs.size s.heap).objs.size = sC.heap.objs.size := cutH_size (Nat.le_of_lt hlt)
  have hbz : base.objs.size ≤ sC.heap.objs.size := X.ok.bsz
  have old : ∀ b o, b < sC.heap.objs.size → s.heap.get? b = some o → (cutH sC.heap.objs.size s.heap).get? b = some o := fun b o l q => by rw [cutH_old l]; exact q
  obtain ⟨m, hn, hl⟩ := g.loc
  refine ⟨⟨X.ok.mod, X.ok.kind, X.ok.glob, X.ok.blt, ?_, X.ok.inj, X.ok.has, ?_, X.ok.hd, X.ok.frames, X.ok.stk, X.ok.exf, fun b o q => ⟨old b o (Nat.lt_of_lt_of_le (Heap.lt_size q) hbz) (e.bs b o q).1, (e.bs b o q).2⟩, ?_, X.ok.noex, X.ok.exfs, ?_, X.ok.frf⟩,
    rfl, e.bare, ⟨fun b o q _ _ _ => (cutH_get q).1, fun b o q _ _ _ => ⟨o.slots, (cutH_get q).1⟩, fun _ _ _ n _ => n, fun b o q _ => ⟨o, (cutH_get q).1⟩, fun _ _ q => q, fun _ _ _ q => q, fun b ps q => ⟨#[], by have q' : G b = some (.tbl ps) := q; rw [q']; simp⟩⟩, ⟨m, hn, hl⟩, fun x c q => ?_, ?_, fun x c q => ?_, fun p hp => ?_, e.hok, g.len⟩
  · show (cutH sC.heap.objs.size s.heap).objs.size ≤ sC.heap.objs.size
    rw [hz]; exact Nat.le_refl _
  · intro x c hfn hc
    have hc' : (envOfC qual sc sC.heap.objs.size f cd).cells.lookup x = some c := hc
    rw [X.nocell x] at hc'; cases hc'
  · show base.objs.size ≤ (cutH sC.heap.objs.size s.heap).objs.size
    rw [hz]; exact hbz
  · show (cutH sC.heap.objs.size s.heap).FunFrames base outer
    have all : ∀ (l : List Env), (∀ b ∈ frs l, b < sC.heap.objs.size) → s.heap.FunFrames base l → (cutH sC.heap.objs.size s.heap).FunFrames base l := by
      intro l
      induction l with
      | nil => intro _ _; trivial
      | cons env r ih =>
        intro hs hl
        obtain ⟨hk, ⟨L, o, hf, hn, ho, hd⟩, hr⟩ := hl
        have hL : L < sC.heap.objs.size := hs L (by unfold frs; rw [List.filterMap_cons, hf]; exact List.mem_cons_self)
        exact ⟨hk, ⟨L, o, hf, hn, old L o hL ho, hd⟩, ih (fun b hb => hs b (by unfold frs; rw [List.filterMap_cons, hf]; exact List.mem_cons_of_mem _ hb)) hr⟩
    exact all outer X.fr e.funs
  · have q' : (envOfC qual sc sC.heap.objs.size f cd).cells.lookup x = some c := q
    rw [X.nocell x] at q'; cases q'
  · show G sC.heap.objs.size = none
    cases q : G sC.heap.objs.size with
    | none => rfl
    | some u => exact absurd (X.dom _ u q) (Nat.lt_irrefl _)
  · have q' : (envOfC qual sc sC.heap.objs.size f cd).cells.lookup x = some c := q
    rw [X.nocell x] at q'; cases q'
  · have hp' : p ∈ pn := by
      have : p ∈ pn ++ [] := hp
      rwa [List.append_nil] at this
    obtain ⟨y1, y2⟩ := X.young p hp'
    refine ⟨g.pin p hp', ?_, Nat.ne_of_gt y1, fun hm => ?_, y2⟩
    · cases q : G p.1 with
      | none => rfl
      | some u => exact absurd (Nat.lt_trans (X.dom _ u q) y1) (Nat.lt_irrefl _)
    · exact absurd (Nat.lt_trans (X.fr p.1 hm) y1) (Nat.lt_irrefl _)
/-- all younger places -/
def ups (n : Nat) (h : Heap) : List Addr := (List.range h.objs.size).filter fun b => decide (n ≤ b)
theorem ups_mem {n : Nat} {h : Heap} {b : Addr} {o : Obj} (e : h.get? b = some o) (nb : b ∉ ups n h) : b < n := by
  rcases Nat.lt_or_ge b n with c | c
  · exact c
  · exact absurd (List.mem_filter.mpr ⟨List.mem_range.mpr (Heap.lt_size e), by simpa using c⟩) nb
theorem ups_ge {n : Nat} {h : Heap} {b : Addr} (e : b ∈ ups n h) : n ≤ b := by
  have := (List.mem_filter.mp e).2
  simpa using this
/-- it goes to sleep -/
theorem inv_gst (I : Inv (gW P w K mg base N qual sc f cd A outer sC G pn s) [] σ H s1) : GSt N qual sc f cd sC pn σ s1.heap :=
  ⟨I.loc, I.len, fun p hp => (I.pin p (List.mem_append_left _ hp)).1⟩
theorem inv_un (I : Inv (gW P w K mg base N qual sc f cd A outer sC G pn s) [] σ H s1) : Un (frs outer) (ups sC.heap.objs.size s.heap) G G s.heap s1.heap := by
  have hex : ∀ b : Addr, b ∉ ([] : List Addr) := fun b hb => by simp at hb
  have old : ∀ b o, s.heap.get? b = some o → b ∉ ups sC.heap.objs.size s.heap → (cutH sC.heap.objs.size s.heap).get? b = some o := fun b o e nb => by rw [cutH_old (ups_mem e nb)]; exact e
  exact ⟨fun b o e n hb hx => I.base.keep b o (old b o e hx) n hb (hex b), fun b o e n hb hx => I.base.slot b o (old b o e hx) n hb (hex b), fun _ _ _ n _ => n, fun b o e hx => I.base.there b o (old b o e hx) (hex b), fun _ _ q => q, fun _ _ _ q => q, fun _ ps q => ⟨#[], by rw [q]; simp⟩⟩
theorem inv_hok (X : GFix P w K mg base N qual sc f cd A outer sC G pn) (e : HOk P w G s.heap) (sb : Sub G H) (I : Inv (gW P w K mg base N qual sc f cd A outer sC G pn s) [] σ H s1) : HOk P w G s1.heap := hok_back X.plain e sb I.hok
end
end Bt
end
section
set_option Elab.async false
set_option linter.all false
set_option maxRecDepth 100000
set_option maxHeartbeats 2000000
set_option autoImplicit false
namespace Bt
open PySem PySem.Spec PyProof.Rows L2 GenW
section
variable {P : Program} {w : World} {K : PySem.W.Frag} {mg : PySem.Str → Option Value} {base : Heap}
/-- a call of a generator def: the generator has not begun -/
structure GNew (P : Program) (w : World) (K : PySem.W.Frag) (mg : PySem.Str → Option Value) (base : Heap) (N : List PySem.Str) (qual : PySem.Str) (sc : Scope) (f : Addr) (cd : Value) (outer : List Env) (body : List Stmt) (G : Hp) (vs : List V) (s s' : Shared) (a : Addr) (g : Nat) (go : Obj) : Prop where
  gen : ∀ h : Heap, h.get? a = some go → h.IsGen a g
  at_ : s'.gens[g]? = some (.fresh (.func body (envOfC qual sc s.heap.objs.size f cd)))
  os : s'.os = s.os
  bare : AllBare s'.gens
  kept : ∀ b o, s.heap.get? b = some o → s'.heap.get? b = some o
  st : GSt N qual sc f cd s [(a, go)] (start N vs) s'.heap
  fix_ : ∀ Aw : Around, Aw.handled = none → Aw.frames = some outer → GFix P w K mg base N qual sc f cd Aw outer s G [(a, go)]
theorem gen_new {f : Addr} {name qual : PySem.Str} {params : Arguments} {body : List Stmt} {scope : Scope} {dV kV doc pm cdv ct oc : Value} {an od : Option Addr} {osl : Array (Option Value)} {N ps : List PySem.Str} {A : Around} {outer : List Env} {s : Shared} {G : Hp} {args : Args} {us : List Value} {vs : List V}
    (lk : K.lookup f = some ⟨oc, od, .func (PySem.W.fnOf name qual params body scope dV kV doc pm an cdv ct), osl⟩) (hcd : PySem.W.codeIn K cdv qual = true) (S : GScope N ps scope) (hd : A.depth < recursionLimit) (e0 : Env0 P w K mg base A outer s G)
    (hb : BindsTo s (PySem.W.fnOf name qual params body scope dV kV doc pm an cdv ct) args (ps.zip us)) (hl : vs.length = ps.length) (r : Vals vs us) (nc : ∀ x, (envOfC qual scope s.heap.objs.size f cdv).cells.lookup x = none) (pl : ∀ b u, G b = some u → plainO u = true) :
    codeAny (model P w) A (.call (.ref f) args) (fun r s' => ∃ a g go, r = .ok (.ret (.ref a)) ∧ GNew P w K mg base N qual scope f cdv outer body G vs s s' a g go) s := by
  have KX : K.In s.heap := e0.mod.kin.keeps fun b o e => (e0.bs b o e).1
  have lim : s.heap.NoLimit := e0.mod.nolimit.keeps fun b o e => (e0.bs b o e).1
  have hkind : ∀ y ∈ ps.zip us, scope.names.lookup y.1 = some .local ∨ (scope.names.lookup y.1 = some .cell ∧ ((cellsFrom (s.heap.objs.size + 1) scope.names []).lookup y.1).isSome = true) := fun ⟨n, v⟩ hy => by
    rcases S.par n (List.of_mem_zip hy).1 with q | q
    · exact .inl q
    · exact .inr ⟨q, PySem.W.cellsFrom_some _ _ _ (.inl q)⟩
  refine codeAny_call_generator hd (KX _ _ lk) rfl S.co S.gen rfl (PySem.W.codeRec_of KX hcd) (hb _ _ _ _ ?_)
  refine wpAny_newFunctionEnv_cells S.kind hkind fun env he s1 x => ?_
  subst he
  have lim1 : s1.heap.NoLimit := lim.keeps x.toInCall.keep
  refine ⟨lim1, ?_⟩
  obtain ⟨h1, tk, es1, hk1⟩ := x.done
  have os1 : s1.os = s.os := by rw [es1]
  have gen1 : s1.gens = s.gens := by rw [es1]
  have lt1 : s.heap.objs.size < s1.heap.objs.size := x.toInCall.ns.lt
  have kp1 : ∀ b o, s.heap.get? b = some o → s1.heap.get? b = some o := x.toInCall.keep
  have main : ∀ (go : Obj) (nm qn : Value) (tk2 : Nat), go.cls = .type "generator" → go.data = .fields #[.int s1.gens.size 0, nm, qn] → go.slots = #[] → (∀ h : Heap, (h.push go).get? h.objs.size = some go) →
      GNew P w K mg base N qual scope f cdv outer body G vs s { s1 with gens := s1.gens.push (.fresh (.func body (envOfC qual scope s.heap.objs.size f cdv))), toks := tk2, heap := s1.heap.push go } s1.heap.objs.size s1.gens.size go := by
    intro go nm qn tk2 hgc hgd0 hgs hgp
    have hgd : ∀ v, go.data ≠ .cell v := fun v q => by rw [hgd0] at q; cases q
    have hfr : ∀ Aw : Around, Aw.frames = some outer → Env0 P w K mg base Aw outer s G := fun Aw h => ⟨h, e0.mod, e0.bs, e0.bsz, e0.funs, e0.frf, e0.hok, e0.bare⟩
    have fx : ∀ Aw : Around, Aw.handled = none → Aw.frames = some outer → GFix P w K mg base N qual scope f cdv Aw outer s G [(s1.heap.objs.size, go)] := fun Aw hh hf => by
      have I1 : Inv (gcxOf P w K mg base N qual scope f cdv Aw outer s G E0 []) [] (start N vs) G s1 := inv_startG S hh (hfr Aw hf) hl r x
      refine ⟨⟨I1.ok.mod, I1.ok.kind, I1.ok.glob, I1.ok.blt, I1.ok.above, I1.ok.inj, I1.ok.has, I1.ok.cab, I1.ok.hd, I1.ok.frames, I1.ok.stk, I1.ok.exf, I1.ok.bs, I1.ok.bsz, I1.ok.noex, I1.ok.exfs, I1.ok.funs, I1.ok.frf⟩, nc, fun b u q => (e0.hok b u q).lt, pl, fun b hb => ?_, fun p hp => ?_⟩
      · obtain ⟨_, o, ho, _⟩ := e0.funs.mem hb
        exact Heap.lt_size ho
      · rw [List.mem_singleton.mp hp]; exact ⟨lt1, hgd⟩
    refine ⟨fun h e => ⟨go, nm, qn, e, hgc, hgd0, hgs⟩, Array.getElem?_push_size .., os1, AllBare.push (by rw [gen1]; exact e0.bare) rfl, fun b o e => Heap.get?_push_of_some _ (kp1 b o e), ?_, fx⟩
    -- its slots
    obtain ⟨⟨h0, f0, p0, m0⟩⟩ : Nonempty (∃ Aw : Around, Aw.handled = none ∧ Aw.frames = some outer ∧ True) := ⟨⟨⟨none, A.depth, some outer, A.guards, A.units⟩, rfl, rfl, trivial⟩⟩
    have I1 : Inv (gcxOf P w K mg base N qual scope f cdv h0 outer s G E0 []) [] (start N vs) G s1 := inv_startG S f0 (hfr h0 p0) hl r x
    have g1 : GSt N qual scope f cdv s [] (start N vs) s1.heap := ⟨I1.loc, I1.len, fun p hp => by simp at hp⟩
    have k2 : ∀ b o, s1.heap.get? b = some o → (s1.heap.push go).get? b = some o := fun b o e => Heap.get?_push_of_some _ e
    obtain ⟨m, ⟨o, es, ep, ho, rr⟩, hl2⟩ := g1.loc
    refine ⟨⟨m, ⟨o, es, ep, k2 _ _ ho, rr⟩, fun i y v a1 a2 a3 => ?_⟩, g1.len, fun p hp => by rw [List.mem_singleton.mp hp]; exact hgp _⟩
    obtain ⟨u, rv, l⟩ := hl2 i y v a1 a2 a3
    refine ⟨u, rv, ?_⟩
    rcases l with l | ⟨_, c, hc, _⟩
    · exact .inl l
    · rw [nc y] at hc; cases hc
  exact ⟨_, _, _, rfl, main _ _ _ _ rfl rfl rfl fun h => Heap.get?_push_size _ rfl⟩
end
end Bt
end
section
set_option Elab.async false
set_option linter.all false
set_option maxRecDepth 100000
set_option maxHeartbeats 2000000
set_option autoImplicit false
namespace Bt
open PySem PySem.Spec PyProof.Rows L2 GenW
section
variable (P : Program) (w : World) (K : PySem.W.Frag) (mg : PySem.Str → Option Value) (base : Heap) (N : List PySem.Str) (qual : PySem.Str) (sc : Scope) (f : Addr) (cd : Value) (A : Around) (outer : List Env) (sC : Shared) (G : Hp) (pn : List (Addr × Obj))
/-- what a run from s₀ to s1 leaves -/
structure GRun (s₀ s1 : Shared) : Prop where
  os : s1.os = s₀.os
  bare : AllBare s1.gens
  un : Un (frs outer) (ups sC.heap.objs.size s₀.heap) G G s₀.heap s1.heap
  hok : HOk P w G s1.heap
/-- it has ended behind so many items -/
def FW (stop : Nat → Prop) (N0 : Nat) : Nat → Shared → Shared → Prop := fun n s₀ s1 => GRun P w outer sC G s₀ s1 ∧ 1 ≤ N0 - n ∧ stop (N0 - n)
abbrev RW (stop : Nat → Prop) (N0 : Nat) : GenEnd := fun n s₀ r s1 => ((r = .ok (.ret .none) ∨ r = .ok .next) ∧ FW P w outer sC G stop N0 n s₀ s1) ∨ ∃ e, r = .error e ∧ (fun (_ : Value) (_ : Shared) => False) e s1
/-- the item behind which m are left -/
def YW (xs : Nat → V) (stop : Nat → Prop) (N0 : Nat) : Protocol := fun m s₀ v s1 kap => GRun P w outer sC G s₀ s1 ∧ RelV (xs (N0 - 1 - m)) v ∧ (N0 - 1 - m = 0 ∨ ¬ stop (N0 - 1 - m)) ∧
  ∃ σ, GSt N qual sc f cd sC pn σ s1.heap ∧ ∀ s2, 0 < m → Env0 P w K mg base A outer s2 G → GSt N qual sc f cd sC pn σ s2.heap → kap (.send .none) s2
/-- a statement, an expression, a test within it -/
def GStep (st : Stmt) (σ σ' : L2.St) : Prop := ∀ (s₀ s : Shared) (H : Hp), Inv (gW P w K mg base N qual sc f cd A outer sC G pn s₀) [] σ H s → Sub G H →
  wpAny (model P w) (A.deeper (envOfC qual sc sC.heap.objs.size f cd)) (exec st (envOfC qual sc sC.heap.objs.size f cd)) (fun fl s' => fl = .next ∧ ∃ H', Inv (gW P w K mg base N qual sc f cd A outer sC G pn s₀) [] σ' H' s' ∧ Sub G H') (fun _ _ => False) s
def GVal (e : Expr) (σ : L2.St) (v : V) : Prop := ∀ (s₀ s : Shared) (H : Hp), Inv (gW P w K mg base N qual sc f cd A outer sC G pn s₀) [] σ H s → Sub G H →
  wpAny (model P w) (A.deeper (envOfC qual sc sC.heap.objs.size f cd)) (eval e (envOfC qual sc sC.heap.objs.size f cd)) (fun u s' => RelV v u ∧ ∃ H', Inv (gW P w K mg base N qual sc f cd A outer sC G pn s₀) [] σ H' s' ∧ Sub G H') (fun _ _ => False) s
def GTest (e : Expr) (σ : L2.St) (q : Prop) : Prop := ∀ (s₀ s : Shared) (H : Hp), Inv (gW P w K mg base N qual sc f cd A outer sC G pn s₀) [] σ H s → Sub G H →
  wpAny (model P w) (A.deeper (envOfC qual sc sC.heap.objs.size f cd)) (isTrue e (envOfC qual sc sC.heap.objs.size f cd) (eval e (envOfC qual sc sC.heap.objs.size f cd))) (fun b s' => (b = true ↔ q) ∧ ∃ H', Inv (gW P w K mg base N qual sc f cd A outer sC G pn s₀) [] σ H' s' ∧ Sub G H') (fun _ _ => False) s
end
section
variable {P : Program} {w : World} {K : PySem.W.Frag} {mg : PySem.Str → Option Value} {base : Heap} {N : List PySem.Str} {qual : PySem.Str} {sc : Scope} {f : Addr} {cd : Value} {A : Around} {outer : List Env} {sC : Shared} {G : Hp} {pn : List (Addr × Obj)}
/-- an item goes out -/
theorem gen_out (X : GFix P w K mg base N qual sc f cd A outer sC G pn) {xs : Nat → V} {stop : Nat → Prop} {N0 m : Nat} {σ : L2.St} {s₀ s1 : Shared} {H : Hp} {v : Value} {kap : Resume → Shared → Prop} (h0 : HOk P w G s₀.heap) (I : Inv (gW P w K mg base N qual sc f cd A outer sC G pn s₀) [] σ H s1) (sb : Sub G H) (rv : RelV (xs (N0 - 1 - m)) v)
    (ns : N0 - 1 - m = 0 ∨ ¬ stop (N0 - 1 - m)) (hk : ∀ s2, 0 < m → Env0 P w K mg base A outer s2 G → GSt N qual sc f cd sC pn σ s2.heap → kap (.send .none) s2) : YW P w K mg base N qual sc f cd A outer sC G pn xs stop N0 m s₀ v s1 kap :=
  ⟨⟨I.os, I.bare, inv_un I, inv_hok X h0 sb I⟩, rv, ns, σ, inv_gst I, hk⟩
/-- THE RULE: first; yield a; next; while test: yield b; next -/
theorem gen_seg (X : GFix P w K mg base N qual sc f cd A outer sC G pn) {st1 st3 st6 : Stmt} {e2 e5 test : Expr} {y2 y5 p2 p4 p5 : Pos} {σ0 σ1 : L2.St} {τ : Nat → L2.St} {xs : Nat → V} {stop : Nat → Prop} {N0 : Nat} {s : Shared}
    (h1 : GStep P w K mg base N qual sc f cd A outer sC G pn st1 σ0 σ1) (h2 : GVal P w K mg base N qual sc f cd A outer sC G pn e2 σ1 (xs 0)) (h3 : GStep P w K mg base N qual sc f cd A outer sC G pn st3 σ1 (τ 1)) (h4 : ∀ k, 1 ≤ k → GTest P w K mg base N qual sc f cd A outer sC G pn test (τ k) (¬ stop k))
    (h5 : ∀ k, 1 ≤ k → GVal P w K mg base N qual sc f cd A outer sC G pn e5 (τ k) (xs k)) (h6 : ∀ k, 1 ≤ k → GStep P w K mg base N qual sc f cd A outer sC G pn st6 (τ k) (τ (k + 1))) (hN : 1 ≤ N0) (hco : sc.isCoroutine = false) (hi : interactive (envOfC qual sc sC.heap.objs.size f cd) = false)
    (e0 : Env0 P w K mg base A outer s G) (g0 : GSt N qual sc f cd sC pn σ0 s.heap) :
    Seg (model P w) A (RW P w outer sC G stop N0) (YW P w K mg base N qual sc f cd A outer sC G pn xs stop N0) N0 s
      (.func [st1, .Expr (.Yield (some e2) y2) p2, st3, .While test [.Expr (.Yield (some e5) y5) p5, st6] [] p4] (envOfC qual sc sC.heap.objs.size f cd))
      ((model P w).den (.func [st1, .Expr (.Yield (some e2) y2) p2, st3, .While test [.Expr (.Yield (some e5) y5) p5, st6] [] p4] (envOfC qual sc sC.heap.objs.size f cd))) [] s := by
  refine seg_func ?_
  refine seg_execs_cons (seg_wrap ?_)
  rw [over_func]
  refine wpAny_mono (h1 s s G (wk_inv X e0 g0) Sub.rfl') (fun fl s1 ⟨ef, H1, I1, sb1⟩ => ?_) fun _ _ h => h.elim
  subst ef
  refine seg_execs_cons ?_
  obtain ⟨m, rfl⟩ : ∃ m, N0 = m + 1 := ⟨N0 - 1, by omega⟩
  refine seg_Expr_Yield rfl rfl rfl ?_ hco hi
  rw [over_func]
  refine wpAny_mono (h2 s s1 H1 I1 sb1) (fun u s2 ⟨ru, H2, I2, sb2⟩ => ?_) fun _ _ h => h.elim
  intro kap hk
  have e00 : m + 1 - 1 - m = 0 := by omega
  refine gen_out X e0.hok I2 sb2 (by rw [e00]; exact ru) (.inl e00) fun s3 hm e3 g3 => hk .none s3 ?_
  refine seg_execs_cons (seg_wrap ?_)
  rw [over_func]
  refine wpAny_mono (h3 s3 s3 G (wk_inv X e3 g3) Sub.rfl') (fun fl s4 ⟨ef, H4, I4, sb4⟩ => ?_) fun _ _ h => h.elim
  subst ef
  refine seg_execs_cons ?_
  refine seg_While fun pw => ?_
  have loop : ∀ (kk : Result → Sem PySem.Fin) (cf : Code) (_ : ∀ (n : Nat) (s₀ s' : Shared), FW P w outer sC G stop (m + 1) n s₀ s' → Seg (model P w) A (RW P w outer sC G stop (m + 1)) (YW P w K mg base N qual sc f cd A outer sC G pn xs stop (m + 1)) n s₀ cf (kk (.ok .next)) [] s')
      (_ : A.over cf [] = A.deeper (envOfC qual sc sC.heap.objs.size f cd)) (n : Nat), 1 ≤ n → n ≤ m → ∀ (s₀ s : Shared) (H : Hp), HOk P w G s₀.heap → Inv (gW P w K mg base N qual sc f cd A outer sC G pn s₀) [] (τ (m + 1 - n)) H s → Sub G H →
      Seg (model P w) A (RW P w outer sC G stop (m + 1)) (YW P w K mg base N qual sc f cd A outer sC G pn xs stop (m + 1)) n s₀ (.whileLoop test [.Expr (.Yield (some e5) y5) p5, st6] [] (envOfC qual sc sC.heap.objs.size f cd)) ((model P w).den (.whileLoop test [.Expr (.Yield (some e5) y5) p5, st6] [] (envOfC qual sc sC.heap.objs.size f cd)))
        [.ret kk none (id false) (id []) cf pw []] s := by
    intro kk cf hkk hov
    intro n
    induction n using Nat.strongRecOn with
    | ind n ih =>
      intro n1 nm s₀ s H hk0 I sb
      refine seg_whileLoop ?_
      rw [over_loop rfl rfl, hov]
      refine wpAny_mono (h4 (m + 1 - n) (by omega) s₀ s H I sb) (fun b s5 ⟨hb, H5, I5, sb5⟩ => ?_) fun _ _ h => h.elim
      cases b with
      | true =>
        have hns := hb.mp rfl
        rw [if_pos rfl]
        obtain ⟨j, rfl⟩ : ∃ j, n = j + 1 := ⟨n - 1, by omega⟩
        refine seg_execs_cons ?_
        refine seg_Expr_Yield rfl rfl rfl ?_ hco hi
        rw [over_loop rfl rfl, hov]
        refine wpAny_mono (h5 (m + 1 - (j + 1)) (by omega) s₀ s5 H5 I5 sb5) (fun u s6 ⟨ru, H6, I6, sb6⟩ => ?_) fun _ _ h => h.elim
        intro kap hk
        have ej : m + 1 - 1 - j = m + 1 - (j + 1) := by omega
        refine gen_out X hk0 I6 sb6 (by rw [ej]; exact ru) (.inr (by rw [ej]; exact hns)) fun s7 hj e7 g7 => hk .none s7 ?_
        refine seg_execs_cons (seg_wrap ?_)
        rw [over_loop rfl rfl, hov]
        refine wpAny_mono (h6 (m + 1 - (j + 1)) (by omega) s7 s7 G (wk_inv X e7 g7) Sub.rfl') (fun fl s8 ⟨ef, H8, I8, sb8⟩ => ?_) fun _ _ h => h.elim
        subst ef
        refine seg_execs_nil ?_
        refine seg_again rfl (ih j (by omega) hj (by omega) s7 s8 H8 e7.hok ?_ sb8)
        rw [show m + 1 - j = m + 1 - (j + 1) + 1 by omega]
        exact I8
      | false =>
        rw [if_neg Bool.false_ne_true]
        refine seg_execs_nil ?_
        refine seg_leaf (.ok .next) ?_
        have hst : stop (m + 1 - n) := Classical.byContradiction fun c => Bool.false_ne_true (hb.mpr c)
        exact hkk n s₀ s5 ⟨⟨I5.os, I5.bare, inv_un I5, inv_hok X hk0 sb5 I5⟩, by omega, hst⟩
  exact loop _ _ (fun n s₀ s' h => seg_end (.ok (.ret .none)) (.inl ⟨.inl rfl, h⟩)) over_func m hm (Nat.le_refl _) s3 s4 H4 e3.hok (by rw [show m + 1 - m = 1 by omega]; exact I4) sb4
end
end Bt
end
section
set_option Elab.async false
set_option linter.all false
set_option maxRecDepth 100000
set_option maxHeartbeats 2000000
set_option autoImplicit false
namespace Bt
open PySem PySem.Spec PyProof.Rows L2 GenW
/-! ### steps that leave the table of generators as it is -/
section
variable {X : Cx} {pins : List (Addr × Obj)} {σ : L2.St} {H : Hp} {s : Shared}
theorem pk_var {i : Nat} {x : PySem.Str} {pos : Pos} {v : V} {E : Value → Shared → Prop} {Q : Value → Shared → Prop} (I : Inv X pins σ H s) (hN : X.N[i]? = some x) (hv : Vis X.env.scope x) (e : σ[i]? = some (some v)) (h : ∀ u, RelV v u → Q u s) (hd : (x == ("__debug__" : PySem.Str)) = false := by decide) (hcd : (x == ("__classdict__" : PySem.Str)) = false := by decide) :
    wpAny (model X.prog X.w) X.A (eval (.Name x pos) X.env) Q E s := by
  obtain ⟨m, hn, hl⟩ := I.loc
  obtain ⟨u, r, l⟩ := hl i x v hN e hv
  have fin := h u r
  rcases l with ⟨hk, hm⟩ | ⟨hk, c, hc, hcell⟩
  · exact wpAny_Name (wpAny_loadName_local I.ok.kind hk hn hm fin) hd
  · rcases hk with hk | hk
    · exact wpAny_Name (wpAny_loadName_cell I.ok.kind hk hc hcell fin) hd
    · exact wpAny_Name (wpAny_loadName_free I.ok.kind hk hc hcell fin hcd) hd
/-- a name is stored -/
theorem pk_store {i : Nat} {x : PySem.Str} {v : V} {u : Value} {pos : Pos} {E : Value → Shared → Prop} {Q : Unit → Shared → Prop} (I : Inv X pins σ H s) (hN : X.N.Nodup) (hi : X.N[i]? = some x) (hk : X.env.scope.names.lookup x = some .local) (r : RelV v u)
    (h : ∀ s', s'.gens = s.gens → Inv X pins (σ.set i (some v)) H s' → Q () s') : wpAny (model X.prog X.w) X.A (assign (.Name x pos) X.env u) Q E s := by
  refine wpAny_assign_Name ?_
  obtain ⟨m, hn, hl⟩ := id I.loc
  have hcls : (X.env.scope.kind == .class || (X.env.scope.kind == .module && X.env.locals != X.env.globals)) = false := by rw [I.ok.kind]; rfl
  have hiσ : i < σ.length := by rw [I.len]; exact (List.getElem?_eq_some_iff.mp hi).1
  have cne := I.cne
  have tracked : ∀ {a : Addr} {h' : Heap}, (∃ o, s.heap.get? a = some o ∧ H a = none) → Heap.SameBut a s.heap h' → HOk X.prog X.w H h' := fun {a h'} ha hs b ob e => by
    obtain ⟨_, _, hfree⟩ := ha
    refine (I.hok b ob e).stay (fun c w' hc q => (hs.2 c ?_).trans q) (fun _ q => q) fun _ _ q => q
    rintro rfl
    rcases hc with rfl | hc
    · rw [hfree] at e; cases e
    · rw [hfree] at hc; cases hc
  refine wpAny_storeName_local hk hn (fun h' hn' hs => ?_) hcls
  obtain ⟨oL, _, _, hoL, _⟩ := id hn
  refine h _ rfl ⟨I.ok, I.os, I.bare, ⟨fun b o e n hb hx => ?_, fun b o e n hb hx => ?_, I.base.free, fun b o e hx => ?_, I.base.tups, I.base.frzs, I.base.tbls⟩, ⟨_, hn', fun j y v' e1 e2 e3 => ?_⟩, fun y c e => ?_, I.free, I.freeC, fun p hp => ?_, tracked ⟨oL, hoL, I.free⟩ hs, by simpa using I.len⟩
  · exact (hs.2 b (Nat.ne_of_lt (Nat.lt_of_lt_of_le (Heap.lt_size e) I.ok.above))).trans (I.base.keep b o e n hb hx)
  · obtain ⟨sl, e1⟩ := I.base.slot b o e n hb hx
    exact ⟨sl, (hs.2 b (Nat.ne_of_lt (Nat.lt_of_lt_of_le (Heap.lt_size e) I.ok.above))).trans e1⟩
  · obtain ⟨o', e1⟩ := I.base.there b o e hx
    exact ⟨o', (hs.2 b (Nat.ne_of_lt (Nat.lt_of_lt_of_le (Heap.lt_size e) I.ok.above))).trans e1⟩
  · by_cases hj : j = i
    · subst hj
      rw [hi] at e1; cases e1
      rw [List.getElem?_set_self hiσ] at e2
      cases e2
      exact ⟨u, r, .inl ⟨hk, by simp⟩⟩
    · rw [List.getElem?_set_ne (Ne.symm hj)] at e2
      obtain ⟨u', r', q⟩ := hl j y v' e1 e2 e3
      refine ⟨u', r', ?_⟩
      rcases q with ⟨k, e⟩ | ⟨k, c, e, z⟩
      · refine .inl ⟨k, ?_⟩
        have : y ≠ x := fun e => hj (nodup_ix hN e1 (e ▸ hi))
        simp [this, e]
      · exact .inr ⟨k, c, e, z.sameBut hs (cne y c e)⟩
  · obtain ⟨w', z⟩ := I.cell y c e
    exact ⟨w', z.sameBut hs (cne y c e)⟩
  · obtain ⟨e, n, ne, nf, d⟩ := I.pin p hp
    exact ⟨(hs.2 p.1 ne).trans e, n, ne, nf, d⟩
/-- xs.append(v) as a statement -/
theorem pk_append {i j : Nat} {xF xP : PySem.Str} {p1 p2 p3 p4 p5 : Pos} {F : Addr} {xs : List V} {v : V} {E : Value → Shared → Prop} {Q : Flow → Shared → Prop} (I : Inv X pins σ H s) (hi : X.N[i]? = some xF) (hj : X.N[j]? = some xP) (vi : Vis X.env.scope xF) (vj : Vis X.env.scope xP)
    (ei : σ[i]? = some (some (.ref F))) (ej : σ[j]? = some (some v)) (hF : H F = some (.lst xs)) (hz : xs.length < sizeLine) (h : ∀ s', s'.gens = s.gens → Inv X pins σ (upd H F (.lst (xs ++ [v]))) s' → Q .next s')
    (d1 : (xF == ("__debug__" : PySem.Str)) = false := by decide) (d2 : (xF == ("__classdict__" : PySem.Str)) = false := by decide) (d3 : (xP == ("__debug__" : PySem.Str)) = false := by decide) (d4 : (xP == ("__classdict__" : PySem.Str)) = false := by decide)
    (hbase : attributeBase (.Name xF p1) "append" X.env (eval (.Name xF p1) X.env) = eval (.Name xF p1) X.env := by rfl)
    (hfew : ((backTo p4 (starEach [(.Name xP p3 : Expr)] X.env)).all (fun x => !x.1) && (backToKw p4 (keywordEach [] X.env)).all (fun x => x.1.isSome)
      && decide ([(.Name xP p3 : Expr)].length + ([] : List Keyword).length + (if ([] : List Keyword).isEmpty then 0 else 1) < 30)) = true := by rfl)
    (hline : (p2.endLine == p4.line) = true := by rfl) (hs : starEach [(.Name xP p3 : Expr)] X.env = (false, eval (.Name xP p3) X.env) :: starEach [] X.env := by rfl) (hpl : (backTo p4 (starEach [] X.env)).any (·.1) = false := by rfl)
    (hsw : swapsWith (.Call (.Attribute (.Name xF p1) "append" p2) [.Name xP p3] [] p4) none p5.line X.env = pure false := by rfl) :
    wpAny (model X.prog X.w) X.A (exec (.Expr (.Call (.Attribute (.Name xF p1) "append" p2) [.Name xP p3] [] p4) p5) X.env) Q E s := by
  refine wpAny_Expr_any ?_ I.quiet hsw
  refine wpAny_Call_method_late hbase hfew hline rfl (pk_var I hi vi ei (fun u r => ?_) d1 d2)
  obtain rfl : u = Value.ref F := r
  obtain ⟨z, its, n, rr, hl, e⟩ := I.lstM hF
  obtain ⟨h1, h2⟩ := tyV_is I (show RelV (.ref F) (.ref F) from rfl) (Or.inl ⟨rfl, _, Or.inl (Or.inl hF)⟩ : tyV X.K "list" (.ref F) H)
  refine ⟨"list", "list.append", PySem.F.plainAttrs_list, PySem.F.slot_list_append, PySem.F.type_list_append, h1, h2, ?_⟩
  rw [hs]
  refine Calls.callWith_builtin (by show (false || (backTo p4 (starEach [] X.env)).any (·.1)) = false; rw [hpl] <;> rfl) (Calls.evalArgs_plain ?_)
  show wpAny _ _ (spliced ((false, eval (.Name xP p3) X.env) :: backTo p4 (starEach [] X.env))) _ _ s
  refine Calls.spliced_cons (pk_var I hj vj ej (fun u r => ?_) d3 d4)
  refine Calls.spliced_nil ?_
  refine call_meets PySem.F.slot_list_append ⟨_, e, rfl⟩ PySem.F.entry_list_append (PySem.F.args_list_append_2 _ _) (PySem.list_append F its.toArray n u (by rw [List.size_toArray]; omega)) ⟨e, ?_⟩
  refine h _ rfl (I.lset (its' := its ++ [u]) hF e (by simp) (rr.append (.cons r .nil)) ?_)
  rw [List.length_append, List.length_singleton]
  omega
/-- if len(xs) == m: break -/
theorem pk_full {i j : Nat} {xF xM : PySem.Str} {p0 p1 p2 p3 p4 p5 p6 : Pos} {F : Addr} {xs : List V} {m : Int} {E : Value → Shared → Prop} {Q : Flow → Shared → Prop} (I : Inv X pins σ H s) (hg : Gl X "len") (hm : X.mg "len" = none) (hi : X.N[i]? = some xF) (hj : X.N[j]? = some xM) (vi : Vis X.env.scope xF) (vj : Vis X.env.scope xM)
    (ei : σ[i]? = some (some (.ref F))) (ej : σ[j]? = some (some (.int m))) (hF : H F = some (.lst xs)) (h : ∀ s' fl, s'.gens = s.gens → Inv X pins σ H s' → (((xs.length : Int) = m ∧ fl = .brk) ∨ ((xs.length : Int) ≠ m ∧ fl = .next)) → Q fl s')
    (d1 : (xF == ("__debug__" : PySem.Str)) = false := by decide) (d2 : (xF == ("__classdict__" : PySem.Str)) = false := by decide) (d3 : (xM == ("__debug__" : PySem.Str)) = false := by decide) (d4 : (xM == ("__classdict__" : PySem.Str)) = false := by decide)
    (hs : starEach [(.Name xF p2 : Expr)] X.env = (false, eval (.Name xF p2) X.env) :: starEach [] X.env := by rfl) (hpl : (backTo p3 (starEach [] X.env)).any (·.1) = false := by rfl) :
    wpAny (model X.prog X.w) X.A (exec (.If (.Compare (.Call (.Name "len" p1) [.Name xF p2] [] p3) [.Eq] [.Name xM p4] p5) [.Break p6] [] p0) X.env) Q E s := by
  refine wpAny_If (wpAny_isTrue_Compare1 ?_ (nomark _))
  refine wpAny_Call_Name_kw (ld_blt I hg hm (show bootBuiltins "len" = some (.builtin "len") by decide +kernel) ?_ (by decide) (by decide))
  refine PyProof.Rows.callWith_builtin1 ?_ hs hpl
  rw [hs]
  show wpAny _ _ (spliced ((false, eval (.Name xF p2) X.env) :: backTo p3 (starEach [] X.env))) _ _ s
  refine Calls.spliced_cons (pk_var I hi vi ei (fun u r => ?_) d1 d2)
  obtain rfl : u = Value.ref F := r
  refine Calls.spliced_nil ?_
  obtain ⟨its, r', pl, hz⟩ := I.list (SqL.of hF)
  have hlen := r'.length
  have hn := line63
  refine Calls.call_len_list pl.isList (by simp only [List.size_toArray] <;> omega) ?_
  have I1 := I.tok (s.toks + 1 + 1)
  refine pk_var I1 hj vj ej (fun u r => ?_) d3 d4
  obtain ⟨tk, rfl⟩ := r
  refine eq_int ?_
  refine wpAny_truthy_bool ?_
  by_cases c : (xs.length : Int) = m
  · have e : (((its.toArray.size : Nat) : Int) == m) = true := by rw [List.size_toArray, ← hlen]; simpa using c
    rw [e]
    exact wpAny_execs_cons (wpAny_Break (h _ _ rfl I1 (.inl ⟨c, rfl⟩)))
  · have e : (((its.toArray.size : Nat) : Int) == m) = false := by rw [List.size_toArray, ← hlen]; simpa using c
    rw [e]
    exact wpAny_execs_nil (h _ _ rfl I1 (.inr ⟨c, rfl⟩))
end
end Bt
end
section
set_option Elab.async false
set_option linter.all false
set_option maxRecDepth 100000
set_option maxHeartbeats 2000000
set_option autoImplicit false
namespace Bt
open PySem PySem.Spec PyProof.Rows L2 Rz GenW
section
variable {P : Program} {w : World} {K : PySem.W.Frag} {mg : PySem.Str → Option Value} {base : Heap} {N : List PySem.Str} {qual : PySem.Str} {sc : Scope} {f : Addr} {cd : Value} {A : Around} {outer : List Env} {sC : Shared} {G : Hp} {pn : List (Addr × Obj)}
theorem gstep_of {st : Stmt} {σ σ' : L2.St} (h : ∀ s₀, ∃ t, PS (gW P w K mg base N qual sc f cd A outer sC G pn s₀) st t ∧ ∀ H, Sub G H → t { nx := fun σ2 H2 => σ2 = σ' ∧ Sub G H2, rt := fun _ _ => False } σ H) : GStep P w K mg base N qual sc f cd A outer sC G pn st σ σ' := fun s₀ s H I sb => by
  obtain ⟨t, ht, q⟩ := h s₀
  refine wpAny_mono (ht.run [] s σ H _ I (q H sb)) (fun fl s' hs => ?_) fun _ _ h => h
  cases fl with
  | next =>
    obtain ⟨σ2, H2, I2, e, sb2⟩ := hs
    subst e
    exact ⟨rfl, H2, I2, sb2⟩
  | brk => obtain ⟨_, _, _, q⟩ := hs; exact False.elim q
  | cont => obtain ⟨_, _, _, q⟩ := hs; exact False.elim q
  | ret u => obtain ⟨_, _, _, _, _, q⟩ := hs; exact False.elim q
theorem gval_of {e : Expr} {σ : L2.St} {v : V} (h : ∀ s₀, ∃ te, PE (gW P w K mg base N qual sc f cd A outer sC G pn s₀) e te ∧ ∀ H, Sub G H → te σ H fun x H2 => x = v ∧ Sub G H2) : GVal P w K mg base N qual sc f cd A outer sC G pn e σ v := fun s₀ s H I sb => by
  obtain ⟨t, ht, q⟩ := h s₀
  refine wpAny_mono (ht.run [] s σ H _ I (q H sb)) (fun u s' hs => ?_) fun _ _ h => h
  obtain ⟨x, H2, I2, r, e, sb2⟩ := hs
  subst e
  exact ⟨r, H2, I2, sb2⟩
theorem gtest_of {e : Expr} {σ : L2.St} {q : Prop} (h : ∀ s₀, ∃ te, PT (gW P w K mg base N qual sc f cd A outer sC G pn s₀) e te ∧ ∀ H, Sub G H → te σ H fun b H2 => (b = true ↔ q) ∧ Sub G H2) : GTest P w K mg base N qual sc f cd A outer sC G pn e σ q := fun s₀ s H I sb => by
  obtain ⟨t, ht, q⟩ := h s₀
  refine wpAny_mono (ht.run [] s σ H _ I (q H sb)) (fun b s' hs => ?_) fun _ _ h => h
  obtain ⟨H2, I2, e, sb2⟩ := hs
  exact ⟨e, H2, I2, sb2⟩
end
theorem thin_upd {H : Hp} {F : Addr} {xs ys : List V} (hF : H F = some (.lst xs)) : thin F (L2.upd H F (.lst ys)) = thin F H := by
  funext b
  unfold thin
  by_cases hb : b = F
  · rw [if_pos hb, if_pos hb]
  · rw [if_neg hb, if_neg hb, upd_ne hb]
    have e : ∀ x, isIns (L2.upd H F (.lst ys) x) = isIns (H x) := fun x => by
      by_cases hx : x = F
      · rw [hx, upd_same, hF]; rfl
      · rw [upd_ne hx]
    simp only [e]
theorem WOk.thin {K : PySem.W.Frag} {H : Hp} {W : WA} {D : WD} {F : Addr} {xs : List V} (h : WOk K H W D) (hF : H F = some (.lst xs)) (nf : F ∉ W.t.fp true) : WOk K (Bt.thin F H) W D := by
  have nw : W.w ≠ F := fun e => by rw [← e, h.ins] at hF; cases hF
  have t0 : ∀ {a : Addr} {ys : List V}, msk [W.w] H a = some (.tup ys) → msk [W.w] (Bt.thin F H) a = some (.tup ys) := fun {a ys} ha => by
    have q := msk_sub.at ha
    refine msk_at (thin_tup (fun e => by rw [e, hF] at q; cases q) q) fun hm => ?_
    rw [msk_in hm] at ha; cases ha
  have i0 : ∀ {a C dx : Addr} {fs : List (PySem.Str × V)}, msk [W.w] H a = some (.ins C dx fs) → msk [W.w] (Bt.thin F H) a = some (.ins C dx fs) := fun {a C dx fs} ha => by
    have q := msk_sub.at ha
    refine msk_at (thin_ins (fun e => by rw [e, hF] at q; cases q) q) fun hm => ?_
    rw [msk_in hm] at ha; cases ha
  have l0 : ∀ {a : Addr} {ys : List V}, a ≠ F → msk [W.w] H a = some (.lst ys) → msk [W.w] (Bt.thin F H) a = some (.lst ys) := fun {a ys} n ha => by
    refine msk_at (thin_lst n (msk_sub.at ha)) fun hm => ?_
    rw [msk_in hm] at ha; cases ha
  have im : Imm K (msk [W.w] H) (msk [W.w] (Bt.thin F H)) := ⟨fun a xs ha => t0 ha, fun a dx fs ha => i0 ha⟩
  obtain ⟨l, oo, a, b, c⟩ := h.inn.ex
  obtain ⟨R, hT, hD⟩ := h.inn.tok.ex
  obtain ⟨q, m, rs, as, s⟩ := h.inn.sc
  obtain ⟨ks, k1, k2⟩ := h.inn.kp
  have k : ∀ {p : Addr}, p ∈ W.t.fp true → p ≠ F := fun hp e => nf (e ▸ hp)
  exact ⟨thin_ins nw h.ins, ⟨⟨l, oo, t0 a, t0 b, t0 c⟩, ⟨R, ⟨i0 hT.ins, l0 (k TA.in_n) hT.n, l0 (k TA.in_z) hT.z, l0 (k TA.in_d) hT.d, l0 (k TA.in_r) hT.r, l0 (k TA.in_f) hT.f, l0 (k TA.in_l) hT.l, l0 (k TA.in_u) hT.u, l0 (k TA.in_w) hT.w, fun e => l0 (k TA.in_a) (hT.a e), hT.nd⟩, hD.imm im⟩,
    ⟨q, m, rs, as, t0 s.sc, s.len, t0 s.at_, t0 s.ms, s.all.mono fun a x z => t0 z⟩, ⟨ks, t0 k1, k2⟩⟩, h.ok⟩
section
variable {P : Program} {w : World} {K : PySem.W.Frag} {mg : PySem.Str → Option Value} {base : Heap}
local macro_rules | `(tactic| walk_at "sd") => `(tactic| first
  | rfl | assumption
  | exact Sub.at ‹Sub _ _› (by assumption)
  | exact SqL.of (by assumption) | exact SqT.of (by assumption) | exact SqL.of (Sub.at ‹Sub _ _› (by assumption)) | exact SqT.of (Sub.at ‹Sub _ _› (by assumption))
  | exact Or.inl (SqL.of (by assumption)) | exact Or.inr (SqT.of (by assumption)) | exact Or.inl (SqL.of (Sub.at ‹Sub _ _› (by assumption))) | exact Or.inr (SqT.of (Sub.at ‹Sub _ _› (by assumption)))
  | exact ClsV.ty _ | exact TyX.base (.int _) | exact TyX.base (.str _) | exact TyX.base (.tup (by assumption)) | exact kit_int | exact kit_ib | exact kit_ss | exact kit_tt)
local macro_rules | `(tactic| walk_at "rd1") => `(tactic| first
  | (apply Exists.intro)
  | (refine And.intro ?_ ?_; (focus (walk_at "sd")))
  | (refine L2.iteT ?_)
  | (refine L2.iteF ?_))
local macro_rules | `(tactic| walk_at "rd") => `(tactic| repeat (walk_at "rd1"))
local macro_rules | `(tactic| walk_at "se") => `(tactic| first
  | rfl | assumption
  | exact Sub.at ‹Sub _ _› (by assumption)
  | exact SqL.of (by assumption) | exact SqT.of (by assumption) | exact SqL.of (Sub.at ‹Sub _ _› (by assumption)) | exact SqT.of (Sub.at ‹Sub _ _› (by assumption))
  | exact Or.inl (SqL.of (by assumption)) | exact Or.inr (SqT.of (by assumption)) | exact Or.inl (SqL.of (Sub.at ‹Sub _ _› (by assumption))) | exact Or.inr (SqT.of (Sub.at ‹Sub _ _› (by assumption)))
  | exact TRaw.ins ‹TRaw _ _ _ _ _› | exact TA.miss
  | exact TRaw.n ‹TRaw _ _ _ _ _›
  | exact TRaw.z ‹TRaw _ _ _ _ _›
  | exact TRaw.d ‹TRaw _ _ _ _ _›
  | exact TRaw.r ‹TRaw _ _ _ _ _›
  | exact TRaw.f ‹TRaw _ _ _ _ _›
  | exact TRaw.l ‹TRaw _ _ _ _ _›
  | exact TRaw.u ‹TRaw _ _ _ _ _›
  | exact TRaw.w ‹TRaw _ _ _ _ _› | exact TRaw.a ‹TRaw _ _ _ _ _› rfl
  | exact SqL.of (TRaw.n ‹TRaw _ _ _ _ _›)
  | exact SqL.of (TRaw.z ‹TRaw _ _ _ _ _›)
  | exact SqL.of (TRaw.d ‹TRaw _ _ _ _ _›)
  | exact SqL.of (TRaw.r ‹TRaw _ _ _ _ _›)
  | exact SqL.of (TRaw.f ‹TRaw _ _ _ _ _›)
  | exact SqL.of (TRaw.l ‹TRaw _ _ _ _ _›)
  | exact SqL.of (TRaw.u ‹TRaw _ _ _ _ _›)
  | exact SqL.of (TRaw.w ‹TRaw _ _ _ _ _›) | exact SqL.of (TRaw.a ‹TRaw _ _ _ _ _› rfl)
  | exact ClsV.ty _ | exact TyX.base (.int _) | exact TyX.base (.str _) | exact TyX.base (.tup (by assumption)) | exact kit_int | exact kit_ib | exact kit_ss | exact kit_tt)
local macro_rules | `(tactic| walk_at "re1") => `(tactic| first
  | (apply Exists.intro)
  | (refine And.intro ?_ ?_; (focus (walk_at "se")))
  | (refine L2.iteT ?_)
  | (refine L2.iteF ?_))
local macro_rules | `(tactic| walk_at "re") => `(tactic| repeat (walk_at "re1"))

abbrev nW : List PySem.Str := ["self", "mark", "stride", "first", "place"]
theorem walk_seg (T : Tx K mg) {A : Around} {outer : List Env} {sC s : Shared} {G : Hp} {pn : List (Addr × Obj)} {cd : Value} {W : WA} {D : WD} {x : PySem.Str} {p st : Int} {n0 : Nat}
    (X : GFix P w K mg base nW d_Walker_walk.qual d_Walker_walk.scope (d_Walker_walk.at_ K) cd A outer sC G pn) (hr : Room 3 (A.deeper (envOfC d_Walker_walk.qual d_Walker_walk.scope sC.heap.objs.size (d_Walker_walk.at_ K) cd)))
    (hw : WOk K G W D) (hx : (x, p) ∈ D.ms) (st1 : 1 ≤ st) (e0 : Env0 P w K mg base A outer s G) (g0 : GSt nW d_Walker_walk.qual d_Walker_walk.scope (d_Walker_walk.at_ K) cd sC pn (start nW [.ref W.w, .str x, .int st]) s.heap) (hN : 1 ≤ n0) :
    Seg (model P w) A (RW P w outer sC G (fun k => it (fun q => it (mv D.ls D.od) st.toNat q) k p = p) n0) (YW P w K mg base nW d_Walker_walk.qual d_Walker_walk.scope (d_Walker_walk.at_ K) cd A outer sC G pn (fun k => .int (it (fun q => it (mv D.ls D.od) st.toNat q) k p)) (fun k => it (fun q => it (mv D.ls D.od) st.toNat q) k p = p) n0) n0 s
      (.func d_Walker_walk.body (envOfC d_Walker_walk.qual d_Walker_walk.scope sC.heap.objs.size (d_Walker_walk.at_ K) cd)) ((model P w).den (.func d_Walker_walk.body (envOfC d_Walker_walk.qual d_Walker_walk.scope sC.heap.objs.size (d_Walker_walk.at_ K) cd))) [] s := by
  have cc := T.c_Walker
  have x2 := T.a_Walker_turning
  have hd := hw.ok.done
  have hex := hw.ok.ok.ex
  obtain ⟨p0, p1⟩ := hw.ok.pl (x, p) hx
  have st0 : 0 ≤ st := by omega
  have rng := fun k => it_range (n := exN D.ls) (T := fun q => it (mv D.ls D.od) st.toNat q) (fun q a b => it_range (fun r c d => mv_range hex c d) st.toNat q a b) k p p0 p1
  refine gen_seg X (σ0 := start nW [.ref W.w, .str x, .int st]) (σ1 := [some (.ref W.w), some (.str x), some (.int st), some (.int p), none]) (τ := fun k => [some (.ref W.w), some (.str x), some (.int st), some (.int p), some (.int (it (fun q => it (mv D.ls D.od) st.toNat q) k p))])
    (xs := fun k => .int (it (fun q => it (mv D.ls D.od) st.toNat q) k p)) (stop := fun k => it (fun q => it (mv D.ls D.od) st.toNat q) k p = p) ?_ ?_ ?_ (fun k _ => ?_) (fun k _ => ?_) (fun k _ => ?_) hN rfl rfl e0 g0
  · refine gstep_of fun s₀ => ⟨_, ps_set (i := 3) sc_Walker_walk.nd rfl (by first | exact .inl rfl | exact .inr rfl) (cm (ok_Walker_place_of T) hr (pv 0) (pa_cons (pv 1) pa_nil)), fun H sb => ?_⟩
    have hi := sb.at hw.ins
    have hww := hw.sub sb
    walk_at "re"
    exact sb
  · refine gval_of fun s₀ => ⟨_, pv 3, fun H sb => ?_⟩
    exact ⟨_, rfl, rfl, sb⟩
  · refine gstep_of fun s₀ => ⟨_, ps_set (i := 4) sc_Walker_walk.nd rfl (by first | exact .inl rfl | exact .inr rfl) (cl (ok_place_in T) hr (pa_cons (pe_fld (pv 0) rfl) (pa_cons (pv 3) (pa_cons (pv 2) pa_nil)))), fun H sb => ?_⟩
    have hi := sb.at hw.ins
    have hTk := hw.tok.sub sb
    walk_at "re"
    intro H1 s1
    exact ⟨rfl, sb.tr s1⟩
  · refine gtest_of fun s₀ => ⟨_, pt_cmpR op_ne (pv 4) (pv 3) (nomark _), fun H sb => ?_⟩
    walk_at "re"
    refine ⟨?_, sb⟩
    simp
  · refine gval_of fun s₀ => ⟨_, pv 4, fun H sb => ?_⟩
    exact ⟨_, rfl, rfl, sb⟩
  · refine gstep_of fun s₀ => ⟨_, ps_set (i := 4) sc_Walker_walk.nd rfl (by first | exact .inl rfl | exact .inr rfl) (cl (ok_place_in T) hr (pa_cons (pe_fld (pv 0) rfl) (pa_cons (pv 4) (pa_cons (pv 2) pa_nil)))), fun H sb => ?_⟩
    have hi := sb.at hw.ins
    have hTk := hw.tok.sub sb
    have q0 := (rng k).1
    have q1 := (rng k).2
    walk_at "re"
    intro H1 s1
    refine ⟨?_, sb.tr s1⟩
    rw [it_succ (fun q => it (mv D.ls D.od) st.toNat q) k p]; rfl
end
end Bt
end
section
set_option Elab.async false
set_option linter.all false
set_option maxRecDepth 100000
set_option maxHeartbeats 2000000
set_option autoImplicit false
namespace Bt
open PySem PySem.Spec PyProof.Rows L2 Rz GenW
theorem envG {X : Cx} {pins : List (Addr × Obj)} {σ : L2.St} {H : Hp} {F : Addr} {xs ys : List V} {s : Shared} (I : Inv X pins σ (L2.upd H F (.lst ys)) s) (hF : H F = some (.lst xs)) : Env0 X.prog X.w X.K X.mg X.base X.A.in1 X.stack s (thin F H) := by
  have e := I.env0
  have sb : Sub (thin F H) (L2.upd H F (.lst ys)) := by rw [← thin_upd (ys := ys) hF]; exact thin_sub
  refine ⟨I.ok.frames, e.mod, fun b o q => ⟨(e.bs b o q).1, sb.fresh (e.bs b o q).2⟩, e.bsz, e.funs, fun b hb => sb.fresh (e.frf b hb), ?_, e.bare⟩
  rw [← thin_upd (ys := ys) hF]
  exact thin_hok upd_same e.hok
theorem envSet {P : Program} {w : World} {K : PySem.W.Frag} {mg : PySem.Str → Option Value} {base : Heap} {A : Around} {outer : List Env} {s : Shared} {G : Hp} {g : Nat} {x : GenState} (e : Env0 P w K mg base A outer s G) (hx : x.bare = true) : Env0 P w K mg base A outer (s.setGen g x) G :=
  ⟨e.frames, e.mod, e.bs, e.bsz, e.funs, e.frf, e.hok, allBare_setGen e.bare hx⟩
section
variable {X : Cx} {k : Nat} {pins : List (Addr × Obj)} {σ : L2.St} {H : Hp} {s : Shared}
/-- walker.walk(mark, stride = span) as the consumer has it -/
theorem pn_walk (T : Tx X.K X.mg) (hr : Room k X.A) {o e : Expr} {kws : List Keyword} {ta : TE} {t tk : L2.TA} {pos' apos : Pos} {F : Addr} {xs : List V} {vs : List V} {pl : Sem Bool} (I : Inv X pins σ H s) (hF : H F = some (.lst xs)) (he : PE X o ta) (ha : PA X [e] t) (hkw : PK X kws tk)
    (h : ta σ H fun x H1 => ∃ a dx fs, x = .ref a ∧ H1 a = some (.ins (cW X.K) dx fs) ∧ fs.lookup ("walk" : PySem.Str) = none ∧ t σ H1 fun vs1 H2 => tk σ H2 fun zs H3 => vs1.length = 1 ∧ zs.length = 1 ∧ (x :: vs1) ++ zs = vs ∧ H3 = H)
    (hall : (backToKw pos' (keywordEach kws X.env)).all (·.1.isSome) = true := by rfl) (hks : (backToKw pos' (keywordEach kws X.env)).filterMap (·.1) = (["stride"] : List PySem.Str) := by rfl)
    (hst : starEach [e] X.env = (false, eval e X.env) :: starEach [] X.env := by rfl)
    (hpl : ((backTo pos' (starEach [e] X.env)).any (·.1) || (backToKw pos' (keywordEach kws X.env)).any (·.1.isNone)) = false := by rfl)
    (ht : eval (.Call (.Attribute o "walk" apos) [e] kws pos') X.env = (do
      let ov ← eval o X.env
      standAt apos.atName
      let (f, first) ← holding [ov] (getMethod ov "walk" pl)
      callWith pos' f first (backTo pos' (starEach [e] X.env)) (backToKw pos' (keywordEach kws X.env))) := by rfl) :
    wpAny (model X.prog X.w) X.A (eval (.Call (.Attribute o "walk" apos) [e] kws pos') X.env) (fun u s' => ∃ sC a g go cd, u = .ref a ∧ Inv X pins σ H sC ∧ GNew X.prog X.w X.K X.mg X.base nW d_Walker_walk.qual d_Walker_walk.scope (d_Walker_walk.at_ X.K) cd X.stack d_Walker_walk.body (thin F H) vs sC s' a g go) X.xe s := by
  have M := T.m_Walker_walk
  have c := T.c_Walker
  obtain ⟨fd, FF⟩ := T.F_Walker_walk
  obtain ⟨oc, od, dV, kV, doc, pm, an, cdv, ct, osl, e1, lk, hcd, hD, hK⟩ := FF.ex
  subst e1
  refine PySem.W.methodCall_KW (pl := pl) (thn (he.run pins s σ H _ I h) fun u s1 ⟨x, H1, I1, rx, a, dx, fs, ex, ea, l, q⟩ => ?_) ht
  subst ex
  obtain rfl : u = Value.ref a := rx
  refine getmeth_ok I1 ea c M l ?_
  refine PySem.W.callWith_KW (first := [.ref a]) (h₀ := X.base) I.ok.mod.kin M.kp hall (thn (ha.run pos' pins s1 σ H1 _ I1 q) fun us s2 ⟨vs1, H2, I2, r, q2⟩ => ?_) hpl hst
  refine thn (hkw.run pos' pins s2 σ H2 _ I2 q2) fun ws s3 ⟨zs, H3, I3, rz, l1, l2, ev, eH⟩ => ⟨I3.kIn, ?_⟩
  rw [hks]
  subst eH
  have r2 : Vals vs ((.ref a :: us) ++ ws) := by
    rw [← ev]
    have r1 : Vals (.ref a :: vs1) (Value.ref a :: us) := .cons rfl r
    exact r1.append rz
  have hdV : dV = Value.none := by
    rcases hD with ⟨_, q⟩ | ⟨q, _⟩
    · exact q
    · exact absurd rfl q
  subst hdV
  have lus : us.length = 1 := r.length.symm.trans l1
  have lws : ws.length = 1 := rz.length.symm.trans l2
  have hb : BindsTo s3 (PySem.W.fnOf d_Walker_walk.name d_Walker_walk.qual d_Walker_walk.params d_Walker_walk.body d_Walker_walk.scope .none kV doc pm an cdv ct) ⟨[.ref a] ++ us, (["stride"] : List PySem.Str).zip ws⟩ ((["self", "mark", "stride"] : List PySem.Str).zip ((.ref a :: us) ++ ws)) := by
    match us, lus, ws, lws with
    | [_], _, [_], _ => exact BindsTo.of_eq rfl
  have e0 : Env0 X.prog X.w X.K X.mg X.base X.A X.stack s3 (thin F H3) := by
    have e := I3.env0
    exact ⟨e.frames, e.mod, fun b o q => ⟨(e.bs b o q).1, thin_sub.fresh (e.bs b o q).2⟩, e.bsz, e.funs, fun b hb => thin_sub.fresh (e.frf b hb), thin_hok hF e.hok, e.bare⟩
  refine wpAny_call (codeAny_mono (gen_new (ps := ["self", "mark", "stride"]) (vs := vs) lk hcd sc_Walker_walk hr.depth e0 hb ?_ r2 (fun _ => rfl) fun b u q => thin_plain q) fun r s' ⟨a', g, go, er, hn⟩ => ?_)
  · rw [← ev, List.length_append, List.length_cons, l1, l2]; rfl
  · subst er
    exact ⟨s3, a', g, go, cdv, rfl, I3, hn⟩
/-- for place in walker.walk(mark, stride = span): found.append(place); if len(found) == most: break -/
def tTaken (K : PySem.W.Frag) (iW iX iS iM iF : Nat) : TS := fun Dn σ H => ∃ (W : WA) (D : WD) (x : PySem.Str) (p st : Int) (most y : Nat) (F : Addr), σ[iW]? = some (some (.ref W.w)) ∧ σ[iX]? = some (some (.str x)) ∧ σ[iS]? = some (some (.int st)) ∧ σ[iM]? = some (some (.int (most : Int))) ∧ σ[iF]? = some (some (.ref F)) ∧
  H F = some (.lst []) ∧ F ∉ W.t.fp true ∧ WOk K H W D ∧ (x, p) ∈ D.ms ∧ 1 ≤ st ∧ Per (fun q => it (mv D.ls D.od) st.toNat q) p y ∧ 1 ≤ most ∧ most ≤ 4 ∧
  ∀ σ', σ'[iF]? = some (some (.ref F)) → Dn.nx σ' (L2.upd H F (.lst (iV (orb (fun q => it (mv D.ls D.od) st.toNat q) p (min most y)))))
theorem ps_taken (T : Tx X.K X.mg) (hr : Room k X.A) (hk4 : 5 ≤ k) (hp : PassesOwn (model X.prog X.w) X.A X.env X.xe) (hcalm : X.calm = true) {iW iX iS iM iF iP : Nat} {xF xP xM : PySem.Str} {o e : Expr} {kws : List Keyword} {tp pos pos' apos q1 q2 q3 q4 q5 r0 r1 r2 r3 r4 r5 r6 : Pos} {pl : Sem Bool}
    (he : PE X o (tVar iW)) (ha : PA X [e] (tCons (tVar iX) tNil)) (hkw : PK X kws (tCons (tVar iS) tNil)) (hN : X.N.Nodup) (nF : X.N[iF]? = some xF) (nP : X.N[iP]? = some xP) (nM : X.N[iM]? = some xM) (kP : X.env.scope.names.lookup xP = some .local)
    (vF : Vis X.env.scope xF) (vP : Vis X.env.scope xP) (vM : Vis X.env.scope xM) (hgl : Gl X "len") (hFP : iP ≠ iF) (hMP : iP ≠ iM)
    (d1 : (xF == ("__debug__" : PySem.Str)) = false := by decide) (d2 : (xF == ("__classdict__" : PySem.Str)) = false := by decide) (d3 : (xP == ("__debug__" : PySem.Str)) = false := by decide) (d4 : (xP == ("__classdict__" : PySem.Str)) = false := by decide)
    (d5 : (xM == ("__debug__" : PySem.Str)) = false := by decide) (d6 : (xM == ("__classdict__" : PySem.Str)) = false := by decide)
    (hall : (backToKw pos' (keywordEach kws X.env)).all (·.1.isSome) = true := by rfl) (hks : (backToKw pos' (keywordEach kws X.env)).filterMap (·.1) = (["stride"] : List PySem.Str) := by rfl)
    (hst : starEach [e] X.env = (false, eval e X.env) :: starEach [] X.env := by rfl)
    (hpl : ((backTo pos' (starEach [e] X.env)).any (·.1) || (backToKw pos' (keywordEach kws X.env)).any (·.1.isNone)) = false := by rfl)
    (ht : eval (.Call (.Attribute o "walk" apos) [e] kws pos') X.env = (do
      let ov ← eval o X.env
      standAt apos.atName
      let (f, first) ← holding [ov] (getMethod ov "walk" pl)
      callWith pos' f first (backTo pos' (starEach [e] X.env)) (backToKw pos' (keywordEach kws X.env))) := by rfl)
    (hs : ∀ x, foldedSetIterable (.Call (.Attribute o "walk" apos) [e] kws pos') X.env x = pure x := by intro _; rfl)
    (hbase : attributeBase (.Name xF q1) "append" X.env (eval (.Name xF q1) X.env) = eval (.Name xF q1) X.env := by rfl)
    (hfew : ((backTo q4 (starEach [(.Name xP q3 : Expr)] X.env)).all (fun x => !x.1) && (backToKw q4 (keywordEach [] X.env)).all (fun x => x.1.isSome)
      && decide ([(.Name xP q3 : Expr)].length + ([] : List Keyword).length + (if ([] : List Keyword).isEmpty then 0 else 1) < 30)) = true := by rfl)
    (hline : (q2.endLine == q4.line) = true := by rfl) (hs1 : starEach [(.Name xP q3 : Expr)] X.env = (false, eval (.Name xP q3) X.env) :: starEach [] X.env := by rfl) (hpl1 : (backTo q4 (starEach [] X.env)).any (·.1) = false := by rfl)
    (hsw : swapsWith (.Call (.Attribute (.Name xF q1) "append" q2) [.Name xP q3] [] q4) none q5.line X.env = pure false := by rfl)
    (hs2 : starEach [(.Name xF r2 : Expr)] X.env = (false, eval (.Name xF r2) X.env) :: starEach [] X.env := by rfl) (hpl2 : (backTo r3 (starEach [] X.env)).any (·.1) = false := by rfl) :
    PS X (.For (.Name xP tp) (.Call (.Attribute o "walk" apos) [e] kws pos') [.Expr (.Call (.Attribute (.Name xF q1) "append" q2) [.Name xP q3] [] q4) q5, .If (.Compare (.Call (.Name "len" r1) [.Name xF r2] [] r3) [.Eq] [.Name xM r4] r5) [.Break r6] [] r0] [] pos) (tTaken X.K iW iX iS iM iF) := by
  refine ⟨fun pins s σ H Dn I h => ?_⟩
  obtain ⟨W, D, x, p, st, most, y, F, eW, eX, eS, eM, eF, hF, nf, hw, hx, st1, per, m1, m4, hq⟩ := h
  have hwG : WOk X.K (thin F H) W D := hw.thin hF nf
  have hh : X.A.handled = none := I.ok.hd hcalm
  refine wpAny_For (thn (pn_walk T hr (vs := [.ref W.w, .str x, .int st]) I hF he ha hkw ⟨_, eW, W.w, _, _, rfl, hw.ins, rfl, _, eX, _, eS, rfl, rfl, rfl, rfl⟩ hall hks hst hpl ht) fun v s1 ⟨sC, a, g, go, cd, ev, IC, N1⟩ => ?_) hs
  subst ev
  have hgo1 : s1.heap.get? a = some go := N1.st.pin (a, go) (by simp)
  refine wpAny_pyIter_gen (N1.gen _ hgo1) ?_
  have hrA : Room 5 X.A := hr.mono hk4
  have fix1 := N1.fix_ X.A.in1 hh I.ok.frames
  have I1 : Inv X pins σ H s1 := IC.call' (ch := []) N1.os (Un.kept N1.kept) (IC.hok.kept N1.kept) N1.bare fun b hb => by simp at hb
  have e0 : L2.upd H F (.lst (iV (orb (fun q => it (mv D.ls D.od) st.toNat q) p 0))) = H := by
    funext b
    by_cases hb : b = F
    · subst hb; rw [upd_same, hF]; rfl
    · rw [upd_ne hb]
  have I1' : Inv X pins σ (L2.upd H F (.lst (iV (orb (fun q => it (mv D.ls D.od) st.toNat q) p 0)))) s1 := by rw [e0]; exact I1
  have hLk : ∀ b u ys, L2.upd H F (.lst ys) b = some u → b < sC.heap.objs.size := fun b u ys e => by
    by_cases hb : b = F
    · subst hb; exact (IC.hok b _ hF).lt
    · rw [upd_ne hb] at e; exact (IC.hok b u e).lt
  have hsl : sizeLine = 16777216 := sizeLine_eq
  refine codeAny_forLoop_any (fun n s' => ∃ (i : Nat) (σ' : L2.St) (gs : GenState), n = 5 - i ∧ i < most ∧ i ≤ y ∧ Inv X pins σ' (L2.upd H F (.lst (iV (orb (fun q => it (mv D.ls D.od) st.toNat q) p i)))) s' ∧ σ'[iF]? = some (some (.ref F)) ∧ σ'[iM]? = some (some (.int (most : Int))) ∧ s'.heap.get? a = some go ∧ s'.gens[g]? = some gs ∧
      gs.Goes (model X.prog X.w) X.A.in1 (RW X.prog X.w X.stack sC (thin F H) (fun k => it (fun q => it (mv D.ls D.od) st.toNat q) k p = p) 5) (YW X.prog X.w X.K X.mg X.base nW d_Walker_walk.qual d_Walker_walk.scope (d_Walker_walk.at_ X.K) cd X.A.in1 X.stack sC (thin F H) [(a, go)] (fun k => .int (it (fun q => it (mv D.ls D.od) st.toNat q) k p)) (fun k => it (fun q => it (mv D.ls D.od) st.toNat q) k p = p) 5) (5 - i) (.send .none) (s'.setGen g .running)) ?_ 5
    ⟨0, σ, _, rfl, by omega, Nat.zero_le _, I1', eF, eM, hgo1, N1.at_, rfl, walk_seg T fix1 (hrA.in1.deeper _) hwG hx st1 (envSet (envG I1' hF) rfl) N1.st (by decide)⟩
  rintro n s3 ⟨i, σ3, gs, rfl, hi, hiy, I3, f3, m3, hgo3, hgs, goes⟩
  have hgl3 : g < s3.gens.size := (Array.getElem?_eq_some_iff.mp hgs).1
  obtain ⟨j, hj⟩ : ∃ j, 5 - i = j + 1 := ⟨4 - i, by omega⟩
  rw [hj] at goes
  have sbG : Sub (thin F H) (L2.upd H F (.lst (iV (orb (fun q => it (mv D.ls D.od) st.toNat q) p i)))) := by rw [← thin_upd (ys := iV (orb (fun q => it (mv D.ls D.od) st.toNat q) p i)) hF]; exact thin_sub
  -- behind a run of the generator
  have back : ∀ (s4 : Shared) (gs' : GenState), gs'.bare = true → GRun X.prog X.w X.stack sC (thin F H) (s3.setGen g .running) s4 → Inv X pins σ3 (L2.upd H F (.lst (iV (orb (fun q => it (mv D.ls D.od) st.toNat q) p i)))) (s4.setGen g gs') := fun s4 gs' hb run => by
    refine I3.call' (ch := ups sC.heap.objs.size s3.heap) run.os ⟨fun b o e n hb hx => run.un.keep b o e (sbG.fresh n) hb hx, fun b o e n hb hx => run.un.slot b o e (sbG.fresh n) hb hx, fun _ _ _ n _ => n, fun b o e hx => run.un.there b o e hx, fun _ _ q => q, fun _ _ _ q => q, fun _ ps q => ⟨#[], by rw [q]; simp⟩⟩ ?_ (allBare_setGen run.bare hb) fun b hb => ?_
    · refine hok_fore I3.hok run.hok ⟨_, hF⟩ fun b u o hu hn e => run.un.keep b o e hn (fun hm => ?_) fun hm => ?_
      · rw [I3.stkFree b hm] at hu; cases hu
      · exact absurd (Nat.lt_of_lt_of_le (hLk b u _ hu) (ups_ge hm)) (Nat.lt_irrefl _)
    · obtain ⟨_, f1, _, f3, f4, f5⟩ := IC.fpOk (H' := fun _ => none) (ups_ge hb) rfl
      exact ⟨f3, f1, f4, f5⟩
  refine wpAny_passesOwn hp (wpAny_gsz (n := g + 1) hgl3 (next_genG (A := X.A) hh I3.nolimit hr.depth (N1.gen _ hgo3) hgs goes (fun v s4 gs' hb hv hsz => ?_) (fun s4 hP h' hk hsz => ?_) fun e s4 he => False.elim he))
  · rw [show j + 1 - 1 = j by omega] at hv
    obtain ⟨run, rv, hst2, σg, gst, hkap⟩ := hv
    have ei : 5 - 1 - j = i := by omega
    rw [ei] at rv hst2
    have iy : i < y := by
      rcases hst2 with z | z
      · have := per.pos; omega
      · rcases Nat.lt_or_ge i y with q | q
        · exact q
        · have : i = y := by omega
          subst this
          exact absurd per.back z
    have hsz4 : g < s4.gens.size := by
      have q : (s4.setGen g gs').gens.size = s4.gens.size := setGen_size _ _ _
      have hsz' : g + 1 ≤ (s4.setGen g gs').gens.size := hsz
      omega
    have I5 := back s4 gs' hb run
    have hgo4 : s4.heap.get? a = some go := gst.pin (a, go) (by simp)
    obtain ⟨m, ⟨oL, es, ep, hoL, hdL, rL⟩, hlk⟩ := gst.loc
    obtain ⟨yg1, yg2⟩ := fix1.young (a, go) (by simp)
    have fL := IC.fpOk (H' := fun _ => none) (b := sC.heap.objs.size) (Nat.le_refl _) rfl
    have fa := IC.fpOk (H' := fun _ => none) (b := a) (Nat.le_of_lt yg1) rfl
    have noneAt : ∀ b, sC.heap.objs.size ≤ b → L2.upd H F (.lst (iV (orb (fun q => it (mv D.ls D.od) st.toNat q) p i))) b = none := fun b hb => by
      cases q : L2.upd H F (.lst (iV (orb (fun q => it (mv D.ls D.od) st.toNat q) p i))) b with
      | none => rfl
      | some u => exact absurd (Nat.lt_of_lt_of_le (hLk b u _ q) hb) (Nat.lt_irrefl _)
    have I5' : Inv X (pins ++ [(sC.heap.objs.size, oL), (a, go)]) σ3 (L2.upd H F (.lst (iV (orb (fun q => it (mv D.ls D.od) st.toNat q) p i)))) (s4.setGen g gs') := I5.pins_of fun q hq => by
      rcases List.mem_append.mp hq with z | z
      · exact I5.pin q (List.mem_append_right _ z)
      · rcases List.mem_cons.mp z with z | z
        · rw [z]; exact ⟨hoL, noneAt _ (Nat.le_refl _), fL.2.1, fL.2.2.1, fun v e => by
            have e' : oL.data = .cell v := e
            rw [hdL] at e'; cases e'⟩
        · rw [List.mem_singleton.mp z]; exact ⟨hgo4, noneAt _ (Nat.le_of_lt yg1), fa.2.1, fa.2.2.1, yg2⟩
    obtain ⟨og, nm, qn, hog, hgc, hgd, hgs2⟩ := N1.gen _ hgo4
    refine wpAny_passesOwn hp (go_of (n := "generator") hog hgc hgd (by decide) ?_)
    refine wpAny_passesOwn hp (pk_store I5' hN nP kP rv fun s6 g6 I6 => ?_)
    have sF : (σ3.set iP (some (.int (it (fun q => it (mv D.ls D.od) st.toNat q) i p))))[iF]? = some (some (.ref F)) := by rw [List.getElem?_set_ne hFP]; exact f3
    have sM : (σ3.set iP (some (.int (it (fun q => it (mv D.ls D.od) st.toNat q) i p))))[iM]? = some (some (.int (most : Int))) := by rw [List.getElem?_set_ne hMP]; exact m3
    have sP : (σ3.set iP (some (.int (it (fun q => it (mv D.ls D.od) st.toNat q) i p))))[iP]? = some (some (.int (it (fun q => it (mv D.ls D.od) st.toNat q) i p))) := by
      rw [List.getElem?_set_self]
      rw [I3.len]; exact (List.getElem?_eq_some_iff.mp nP).1
    refine wpAny_passesOwn hp (wpAny_execs_cons (pk_append I6 nF nP vF vP sF sP upd_same (by rw [iV_len, orb_len]; omega) (fun s7 g7 I7 => ?_) d1 d2 d3 d4 hbase hfew hline hs1 hpl1 hsw))
    rw [iV_snoc, upd_upd, ← orb_succ] at I7
    refine wpAny_execs_cons (pk_full I7 hgl T.n_len nF nM vF vM sF sM upd_same (fun s8 fl g8 I8 hfl => ?_) d1 d2 d5 d6 hs2 hpl2)
    rw [iV_len, orb_len] at hfl
    rcases hfl with ⟨c, rfl⟩ | ⟨c, rfl⟩
    · refine ⟨_, _, I8.unpinned, ?_⟩
      have : i + 1 = most := by omega
      rw [show i + 1 = min most y by omega]
      exact hq _ sF
    · refine wpAny_execs_nil ⟨5 - (i + 1), by omega, i + 1, _, gs', rfl, by omega, iy, I8.unpinned, sF, sM, (I8.pin (a, go) (by simp)).1, ?_, ?_⟩
      · rw [g8.trans (g7.trans g6)]
        exact setGen_at hsz4
      · rw [show 5 - (i + 1) = j by omega]
        refine hkap (s8.setGen g .running) (by omega) (envSet (envG I8 hF) rfl) ?_
        refine gst.keep fix1 fun b o hb e => ?_
        rcases hb with hb | hb
        · subst hb
          have : oL = o := Option.some.inj (hoL.symm.trans e)
          rw [← this]
          exact (I8.pin (sC.heap.objs.size, oL) (by simp)).1
        · have hb' : b = a := by simpa using hb
          subst hb'
          have : go = o := Option.some.inj (hgo4.symm.trans e)
          rw [← this]
          exact (I8.pin (b, go) (by simp)).1
  · obtain ⟨run, h1, hstop⟩ := hP
    have ei : 5 - (j + 1) = i := by omega
    rw [ei] at h1 hstop
    have ey : i = y := by
      rcases Nat.lt_or_ge i y with q | q
      · exact absurd hstop (per.min i h1 q)
      · omega
    have I5 := (back s4 .finished rfl run).kept (t' := s4.toks) hk
    refine wpAny_execs_nil ⟨σ3, _, I5, ?_⟩
    rw [show i = min most y by omega]
    exact hq _ f3
end
end Bt
end
section
set_option Elab.async false
set_option linter.all false
set_option maxRecDepth 100000
set_option maxHeartbeats 2000000
set_option autoImplicit false
namespace Bt
open PySem PySem.Spec PyProof.Rows L2 Rz GenW
section
variable {P : Program} {w : World} {K : PySem.W.Frag} {mg : PySem.Str → Option Value} {base : Heap}
local macro_rules | `(tactic| walk_at "sd") => `(tactic| first
  | rfl | assumption
  | exact Sub.at ‹Sub _ _› (by assumption)
  | exact SqL.of (by assumption) | exact SqT.of (by assumption) | exact SqL.of (Sub.at ‹Sub _ _› (by assumption)) | exact SqT.of (Sub.at ‹Sub _ _› (by assumption))
  | exact Or.inl (SqL.of (by assumption)) | exact Or.inr (SqT.of (by assumption)) | exact Or.inl (SqL.of (Sub.at ‹Sub _ _› (by assumption))) | exact Or.inr (SqT.of (Sub.at ‹Sub _ _› (by assumption)))
  | exact ClsV.ty _ | exact TyX.base (.int _) | exact TyX.base (.str _) | exact TyX.base (.tup (by assumption)) | exact kit_int | exact kit_ib | exact kit_ss | exact kit_tt)
local macro_rules | `(tactic| walk_at "rd1") => `(tactic| first
  | (apply Exists.intro)
  | (refine And.intro ?_ ?_; (focus (walk_at "sd")))
  | (refine L2.iteT ?_)
  | (refine L2.iteF ?_))
local macro_rules | `(tactic| walk_at "rd") => `(tactic| repeat (walk_at "rd1"))
local macro_rules | `(tactic| walk_at "se") => `(tactic| first
  | rfl | assumption
  | exact Sub.at ‹Sub _ _› (by assumption)
  | exact SqL.of (by assumption) | exact SqT.of (by assumption) | exact SqL.of (Sub.at ‹Sub _ _› (by assumption)) | exact SqT.of (Sub.at ‹Sub _ _› (by assumption))
  | exact Or.inl (SqL.of (by assumption)) | exact Or.inr (SqT.of (by assumption)) | exact Or.inl (SqL.of (Sub.at ‹Sub _ _› (by assumption))) | exact Or.inr (SqT.of (Sub.at ‹Sub _ _› (by assumption)))
  | exact TRaw.ins ‹TRaw _ _ _ _ _› | exact TA.miss
  | exact TRaw.n ‹TRaw _ _ _ _ _›
  | exact TRaw.z ‹TRaw _ _ _ _ _›
  | exact TRaw.d ‹TRaw _ _ _ _ _›
  | exact TRaw.r ‹TRaw _ _ _ _ _›
  | exact TRaw.f ‹TRaw _ _ _ _ _›
  | exact TRaw.l ‹TRaw _ _ _ _ _›
  | exact TRaw.u ‹TRaw _ _ _ _ _›
  | exact TRaw.w ‹TRaw _ _ _ _ _› | exact TRaw.a ‹TRaw _ _ _ _ _› rfl
  | exact SqL.of (TRaw.n ‹TRaw _ _ _ _ _›)
  | exact SqL.of (TRaw.z ‹TRaw _ _ _ _ _›)
  | exact SqL.of (TRaw.d ‹TRaw _ _ _ _ _›)
  | exact SqL.of (TRaw.r ‹TRaw _ _ _ _ _›)
  | exact SqL.of (TRaw.f ‹TRaw _ _ _ _ _›)
  | exact SqL.of (TRaw.l ‹TRaw _ _ _ _ _›)
  | exact SqL.of (TRaw.u ‹TRaw _ _ _ _ _›)
  | exact SqL.of (TRaw.w ‹TRaw _ _ _ _ _›) | exact SqL.of (TRaw.a ‹TRaw _ _ _ _ _› rfl)
  | exact ClsV.ty _ | exact TyX.base (.int _) | exact TyX.base (.str _) | exact TyX.base (.tup (by assumption)) | exact kit_int | exact kit_ib | exact kit_ss | exact kit_tt)
local macro_rules | `(tactic| walk_at "re1") => `(tactic| first
  | (apply Exists.intro)
  | (refine And.intro ?_ ?_; (focus (walk_at "se")))
  | (refine L2.iteT ?_)
  | (refine L2.iteF ?_))
local macro_rules | `(tactic| walk_at "re") => `(tactic| repeat (walk_at "re1"))

theorem sc_law_taken : FnScope ["_law_walker", "_law_mark", "_law_span", "_law_most", "_law_found", "_law_place"] ["_law_walker", "_law_mark", "_law_span", "_law_most"] (defScope s_law_taken) := ⟨rfl, rfl, rfl, by decide +kernel, rfl, by decide +kernel, by decide +kernel⟩
/-- the first places of the walk by stride a, no more than most; y: where it is back -/
abbrev sp_law_taken (K : PySem.W.Frag) : Sp := P4 fun a b c d H Q => ∃ (W : WA) (D : WD) (x : PySem.Str) (p span : Int) (most y : Nat), a = .ref W.w ∧ b = .str x ∧ c = .int span ∧ d = .int (most : Int) ∧ WOk K H W D ∧ (x, p) ∈ D.ms ∧ 1 ≤ span ∧ 1 ≤ most ∧ most ≤ 4 ∧ Per (fun q => it (mv D.ls D.od) span.toNat q) p y ∧
  ∀ H' F, Sub H H' → H F = none → H' F = some (.lst (iV (orb (fun q => it (mv D.ls D.od) span.toNat q) p (min most y)))) → Q (.ref F) H'
theorem ok_law_taken (T : Tx K mg) : Gd P w K mg base 6 "_law_taken" ["_law_walker", "_law_mark", "_law_span", "_law_most"] (sp_law_taken K) := by
  refine mkd T.F_law_taken T.g_law_taken sc_law_taken P4.ar (fun _ _ _ _ _ _ us hl => match us, hl with | [_, _, _, _], _ => rfl) fun cdv A0 outer s0 H vs Q E hr h => ?_
  obtain ⟨_, _, _, _, rfl, W, D, x, p, span, most, y, rfl, rfl, rfl, rfl, hw, hx, sp1, m1, m4, per, hq⟩ := h
  refine ⟨_, (pss_cons (ps_set (i := 4) sc_law_taken.nd rfl (by first | exact .inl rfl | exact .inr rfl) (pe_lst pa_nil))
    (pss_cons (ps_taken T hr (by decide) PassesOwn.never rfl (iW := 0) (iX := 1) (iS := 2) (iM := 3) (iF := 4) (iP := 5) (pv 0) (pa_cons (pv 1) pa_nil) (pk_cons (pv 2) pk_nil) sc_law_taken.nd rfl rfl rfl rfl (by first | exact .inl rfl | exact .inr rfl) (by first | exact .inl rfl | exact .inr rfl) (by first | exact .inl rfl | exact .inr rfl) rfl (by decide) (by decide))
    (pss_one (ps_ret (pv 4))))), ?_⟩
  refine ⟨by show 0 ≤ sizeLine; decide, fun F nF => ?_⟩
  have s1 : Sub H (upd H F (.lst [])) := Sub.rfl'.new nF
  have nFt : F ∉ W.t.fp true := by
    obtain ⟨R, hT, _⟩ := hw.tok.ex
    exact hT.out nF
  refine ⟨W, D, x, p, span, most, y, F, rfl, rfl, rfl, rfl, rfl, upd_same, nFt, hw.sub s1, hx, sp1, per, m1, m4, fun σ' e => ?_⟩
  refine ⟨_, e, ?_⟩
  rw [upd_upd]
  exact hq _ F (Sub.rfl'.new nF) nF upd_same
end
end Bt
end
section
set_option Elab.async false
set_option linter.all false
set_option maxRecDepth 100000
set_option maxHeartbeats 2000000
set_option autoImplicit false
namespace Bt
open PySem PySem.Spec PyProof.Rows L2
/-! ### repr of data: no repr is under way -/
def rRepr (K : PySem.W.Frag) : List V → Hp → VK → Prop := fun vs H Q => ∃ (a : Addr) (d : PyData), vs = [.ref a] ∧ Dp K H (.ref a) d ∧ d.showable = true ∧ d.hasDict = false ∧ d.shown.length ≤ sizeLine ∧ d.depth ≤ 20 ∧ Q (.str d.shown) H
theorem cr_repr {X : Cx} (hg : X.A.guards = some []) (hu : X.A.units + 64 < cLine) : CallR X (.builtin "repr") (rRepr X.K) := fun pins s σ H vs us Q I r h => by
  obtain ⟨a, d, rfl, hd, h1, h2, h3, h4, q⟩ := h
  obtain ⟨u, rfl, ru⟩ := r.one
  obtain rfl : u = Value.ref a := ru
  obtain ⟨as, rd⟩ := Dp.reads I d (.ref a) (.ref a) hd rfl
  exact repr_of_reads' rd h1 (PyData.noDict_hsm h2) hg (by omega) (fun _ _ e => e) (fun h' u tk hk => ⟨.str d.shown, H, I.kept hk, ⟨u, rfl⟩, q⟩) h3
/-! ### defs that are called while no repr is under way -/
theorem deeper_g {A : Around} {env : Env} (h : A.guards = some []) : (A.deeper env).guards = some [] := h
section
variable (P : Program) (w : World) (K : PySem.W.Frag) (mg : PySem.Str → Option Value) (base : Heap)
structure FnG (k : Nat) (f : Addr) (fd : FuncData) (ps : List PySem.Str) (sp : Sp) : Prop where
  len : ∀ vs H Q E, sp vs H Q E → vs.length = ps.length
  run : ∀ (A : Around) (outer : List Env) (s : Shared) (H : Hp) (args : Args) (us : List Value) (vs : List V) (Q : VK) (E : XK), Room k A → A.guards = some [] → Env0 P w K mg base A outer s H → BindsTo s fd args (ps.zip us) → Vals vs us → sp vs H Q E →
    codeAny (model P w) A (.call (.ref f) args) (CR CX0 outer P w H s Q E) s
structure GdG (k : Nat) (x : PySem.Str) (ps : List PySem.Str) (sp : Sp) : Prop where
  ex : ∃ f fd, FnG P w K mg base k f fd ps sp ∧ mg x = some (.ref f) ∧ PySem.W.keepIn K (.ref f) = true ∧ Binds K fd ps [] ∧ ∀ (s : Shared) (us : List Value), us.length = ps.length → BindsTo s fd ⟨us, []⟩ (ps.zip us)
end
section
variable {P : Program} {w : World} {K : PySem.W.Frag} {mg : PySem.Str → Option Value} {base : Heap}
/-- .. by its body -/
theorem mkdG {n : Nat} {x qual : PySem.Str} {pa : Arguments} {bd : List Stmt} {sc : Scope} {f : Addr} {N ps : List PySem.Str} {k : Nat} {sp : Sp}
    (F : ∃ fd, FunD K x qual pa bd sc [] [] f fd) (g : mg x = some (.ref f)) (S : FnScope N ps sc) (a : Ar n sp) (h : Bn x qual pa bd sc ps)
    (b : ∀ (cdv : Value) (A : Around) (outer : List Env) (s : Shared) (H : Hp) (vs : List V) (Q : VK) (E : XK), Room k (A.deeper (envOfC qual sc s.heap.objs.size f cdv)) → A.guards = some [] → sp vs H Q E →
      ∃ t, PSs (cxOf CX0 P w K mg base N qual sc f cdv A outer s H E).nox bd t ∧ t { nx := fun _ H' => Q .non H', rt := Q } (start N vs) H) (hn : ps.length = n := by rfl) : GdG P w K mg base (k + 1) x ps sp := by
  obtain ⟨fd, F⟩ := F
  have hbs := F.bindsN h
  have hba := F.bindsA h
  have kp := F.kp
  obtain ⟨oc, od, dV, kV, doc, pm, an, cdv, ct, osl, e, lk, hcd, _, _⟩ := F.ex
  subst e
  refine ⟨f, _, ⟨fun vs H Q E q => (a.len vs H Q E q).trans hn.symm, fun A outer s H args us vs Q E hr hgd e0 hb r q => ?_⟩, g, kp, hbs, hba⟩
  have inK : K.In s.heap := e0.mod.kin.keeps fun c o z => (e0.bs c o z).1
  have nol : s.heap.NoLimit := e0.mod.nolimit.keeps fun c o z => (e0.bs c o z).1
  refine codeAny_call_function hr.depth (inK _ _ lk) rfl S.co S.gen rfl (PySem.W.codeRec_of inK hcd) (hb _ _ _ _ (wpAny_newFunctionEnv_cells S.kind (fun ⟨z, v⟩ hz => ?_) fun env he s1 y => ?_))
  · exact (S.par z (List.of_mem_zip hz).1).elim .inl fun q => .inr ⟨q, PySem.W.cellsFrom_some _ _ _ (.inl q)⟩
  · subst he
    refine ⟨nol.keeps y.toInCall.keep, codeAny_func ?_⟩
    obtain ⟨t, ht, tq⟩ := b cdv A outer s H vs Q E (hr.deeper _) hgd q
    have start_ := inv_start (CX := CX0) (E := E) S hr.hd e0 ((a.len vs H Q E q).trans hn.symm) r y
    have run_ := ht.nox.run [] s1 (start N vs) H _ start_ tq
    refine wpAny_mono run_ (fun fl s' hs => ?_) fun _ _ hs => hs
    cases fl with
    | ret u => obtain ⟨v, _, H', J, rv, z⟩ := hs; exact ⟨v, H', J.os, J.bare, J.base, J.hok, rv, z⟩
    | next => obtain ⟨_, H', J, z⟩ := hs; exact ⟨V.non, H', J.os, J.bare, J.base, J.hok, rfl, z⟩
    | brk => obtain ⟨_, _, _, z⟩ := hs; exact z.elim
    | cont => obtain ⟨_, _, _, z⟩ := hs; exact z.elim
end
section
variable {X : Cx} {j k : Nat} {x : PySem.Str} {ps : List PySem.Str} {sp : Sp} {e : Expr} {es : List Expr} {t : L2.TA} {p pos : Pos}
/-- a call of such a def -/
theorem clG (G : GdG X.prog X.w X.K X.mg X.base j x ps sp) (hr : Room k X.A) (hgd : X.A.guards = some []) (ha : PA X (e :: es) t) (hjk : j ≤ k := by decide) (hg : Gl X x := by rfl)
    (hdb : (x == ("__debug__" : PySem.Str)) = false := by decide) (he : starEach (e :: es) X.env = (false, eval e X.env) :: starEach es X.env := by rfl) (hpl : (backTo pos (starEach es X.env)).any (·.1) = false := by rfl) :
    PE X (.Call (.Name x p) (e :: es) [] pos) (tCall sp [] E0 t) := by
  obtain ⟨f, fd, F, gm, kp, b, _⟩ := G.ex
  refine ⟨fun pins s σ H Q I h => wpAny_Call_Name_kw (ld_glob I hg gm (PySem.W.callWith_K (h₀ := X.base) I.ok.mod.kin kp (thn (ha.run pos pins s σ H _ I h) fun us s1 ⟨vs, H1, I1, r, q⟩ => ⟨I1.kIn, ?_⟩) he hpl) hdb)⟩
  have q0 : sp (vs ++ []) H1 Q E0 := q
  have q' : sp vs H1 Q E0 := by rw [List.append_nil] at q0; exact q0
  have hl : us.length = ps.length := r.length.symm.trans (F.len _ _ _ _ q')
  have hb := b s1 us I1.kIn (by rw [List.append_nil]; exact hl)
  rw [List.append_nil] at hb
  refine wpAny_call (codeAny_mono (F.run X.A X.stack s1 H1 ⟨us, []⟩ us vs Q E0 (hr.mono hjk) hgd I1.env0 hb r q') fun rr s' hq => ?_)
  match rr, hq with
  | .ok (.ret u), hq => exact I1.after hq
end
end Bt
end
section
set_option Elab.async false
set_option linter.all false
set_option maxRecDepth 100000
set_option maxHeartbeats 2000000
set_option autoImplicit false
namespace Bt
open PySem PySem.Spec PyProof.Rows L2
/-! ### data whose repr is small -/
structure Sm (d : PyData) (w k : Nat) : Prop where
  ls : d.leavesShort 30 = true
  wt : d.weight ≤ w
  sh : d.showable = true
  nd : d.hasDict = false
  dp : d.depth ≤ k
structure SmA (ds : List PyData) (w k : Nat) : Prop where
  ls : PyData.leavesShortAll 30 ds = true
  wt : PyData.weightAll ds ≤ w
  sh : PyData.showableAll ds = true
  nd : PyData.hasDictAll ds = false
  dp : PyData.depthAll ds ≤ k
theorem SmA.nil {k : Nat} : SmA [] 0 k := ⟨by simp only [PyData.leavesShortAll], by simp only [PyData.weightAll]; exact Nat.le_refl _, by simp only [PyData.showableAll], by simp only [PyData.hasDictAll], by simp only [PyData.depthAll]; exact Nat.zero_le _⟩
theorem SmA.cons {d : PyData} {ds : List PyData} {w1 w2 k : Nat} (a : Sm d w1 k) (b : SmA ds w2 k) : SmA (d :: ds) (w1 + 1 + w2) k := by
  refine ⟨?_, ?_, ?_, ?_, ?_⟩
  · simp only [PyData.leavesShortAll, a.ls, b.ls]; rfl
  · simp only [PyData.weightAll]; have := a.wt; have := b.wt; omega
  · simp only [PyData.showableAll, a.sh, b.sh]; rfl
  · simp only [PyData.hasDictAll, a.nd, b.nd]; rfl
  · simp only [PyData.depthAll]; have := a.dp; have := b.dp; omega
theorem Sm.list {ds : List PyData} {w k : Nat} (h : SmA ds w k) : Sm (.list ds) w (k + 1) := by
  refine ⟨?_, ?_, ?_, ?_, ?_⟩
  · simp only [PyData.leavesShort]; exact h.ls
  · simp only [PyData.weight]; exact h.wt
  · simp only [PyData.showable]; exact h.sh
  · simp only [PyData.hasDict]; exact h.nd
  · simp only [PyData.depth]; have := h.dp; omega
theorem Sm.tuple {ds : List PyData} {w k : Nat} (h : SmA ds w k) : Sm (.tuple ds) w (k + 1) := by
  refine ⟨?_, ?_, ?_, ?_, ?_⟩
  · simp only [PyData.leavesShort]; exact h.ls
  · simp only [PyData.weight]; exact h.wt
  · simp only [PyData.showable]; exact h.sh
  · simp only [PyData.hasDict]; exact h.nd
  · simp only [PyData.depth]; have := h.dp; omega
theorem log60 {i : Int} (h0 : -1000000000000000000 ≤ i) (h1 : i ≤ 1000000000000000000) : i.natAbs.log2 < 60 := by
  have h : i.natAbs < 2 ^ 60 := by
    have : (2 : Nat) ^ 60 = 1152921504606846976 := by decide
    omega
  by_cases c : i.natAbs = 0
  · rw [c]; decide
  · exact (Nat.log2_lt c).mpr h
theorem Sm.int {i : Int} {k : Nat} (h0 : -1000000000000000000 ≤ i) (h1 : i ≤ 1000000000000000000) : Sm (.int i) 60 k := by
  have l := log60 h0 h1
  have t : (Str.ofString (toString i)).length ≤ 30 := by
    have e := int_text_length_le10 (a := i) (k := 19) (by decide) (by
      have : (10 : Nat) ^ 19 = 10000000000000000000 := by decide
      omega)
    rw [PySem.ofString_length]; omega
  refine ⟨?_, ?_, ?_, ?_, ?_⟩
  · simp only [PyData.leavesShort, PyData.shown]; exact decide_eq_true t
  · simp only [PyData.weight]; split <;> omega
  · simp only [PyData.showable, decide_eq_true_eq]; omega
  · simp only [PyData.hasDict]
  · simp only [PyData.depth]; exact Nat.zero_le _
theorem Sm.str {x : PySem.Str} {n k : Nat} (h : ∀ c ∈ x.cps.toList, c < 16 ^ 8) (hl : x.cps.size ≤ n) : Sm (.str x) n k := by
  refine ⟨?_, ?_, ?_, ?_, ?_⟩
  · simp only [PyData.leavesShort, List.all_eq_true, decide_eq_true_eq]; exact h
  · simp only [PyData.weight]; exact hl
  · simp only [PyData.showable]
  · simp only [PyData.hasDict]
  · simp only [PyData.depth]; exact Nat.zero_le _
theorem SmA.map {α : Type} {f : α → PyData} {w k : Nat} : ∀ (xs : List α), (∀ x ∈ xs, Sm (f x) w k) → SmA (xs.map f) (xs.length * (w + 1)) k
  | [], _ => by rw [List.length_nil, Nat.zero_mul]; exact SmA.nil
  | x :: r, h => by
    have a := SmA.cons (h x List.mem_cons_self) (SmA.map r fun y hy => h y (List.mem_cons_of_mem _ hy))
    rw [List.length_cons, Nat.succ_mul]
    rw [show r.length * (w + 1) + (w + 1) = w + 1 + r.length * (w + 1) by omega]
    exact a
theorem SmA.more {ds : List PyData} {w w2 k k2 : Nat} (h : SmA ds w k) (a : w ≤ w2) (b : k ≤ k2) : SmA ds w2 k2 := ⟨h.ls, Nat.le_trans h.wt a, h.sh, h.nd, Nat.le_trans h.dp b⟩
theorem Sm.more {d : PyData} {w w2 k k2 : Nat} (h : Sm d w k) (a : w ≤ w2) (b : k ≤ k2) : Sm d w2 k2 := ⟨h.ls, Nat.le_trans h.wt a, h.sh, h.nd, Nat.le_trans h.dp b⟩
theorem Sm.fits {d : PyData} {w k : Nat} (h : Sm d w k) (a : w ≤ 200000) : d.shown.length ≤ sizeLine := by
  have := PyData.shown_le 30 (by decide) d h.ls
  have := h.wt
  rw [sizeLine_eq]; omega
theorem sm_ints {ns : List Int} {k : Nat} (hn : ns.length ≤ 1000) (hx : ∀ x ∈ ns, -1000000000000000000 ≤ x ∧ x ≤ 1000000000000000000) : Sm (.list (ns.map PyData.int)) 61000 (k + 1) :=
  (Sm.list (SmA.map (k := k) ns fun x h => Sm.int (hx x h).1 (hx x h).2)).more (by omega) (Nat.le_refl _)
theorem sm_intsT {ns : List Int} {k : Nat} (hn : ns.length ≤ 1000) (hx : ∀ x ∈ ns, -1000000000000000000 ≤ x ∧ x ≤ 1000000000000000000) : Sm (.tuple (ns.map PyData.int)) 61000 (k + 1) :=
  (Sm.tuple (SmA.map (k := k) ns fun x h => Sm.int (hx x h).1 (hx x h).2)).more (by omega) (Nat.le_refl _)
/-- repr of a list of numbers -/
theorem r_repr {K : PySem.W.Frag} {H : Hp} {a : Addr} {d : PyData} {w k : Nat} {Q : VK} (hd : Dp K H (.ref a) d) (h : Sm d w k) (hw : w ≤ 200000) (hk : k ≤ 20) (q : Q (.str d.shown) H) : rRepr K [.ref a] H Q :=
  ⟨a, d, rfl, hd, h.sh, h.nd, h.fits hw, Nat.le_trans h.dp hk, q⟩
theorem cps_lt (s : String) : ∀ c ∈ (Str.ofString s).cps.toList, c < 16 ^ 8 := fun c hc => by
  rw [PySem.Str.ofString_eq_toList] at hc
  have hc' : c ∈ s.toList.map Char.toNat := by simpa using hc
  obtain ⟨ch, _, rfl⟩ := List.mem_map.mp hc'
  have h : ch.toNat < 1114112 := by
    have := ch.valid
    have e : ch.toNat = ch.val.toNat := rfl
    rcases this with z | ⟨_, z⟩
    · omega
    · omega
  have : (16 : Nat) ^ 8 = 4294967296 := by decide
  omega
end Bt
end
section
set_option Elab.async false
set_option linter.all false
set_option maxRecDepth 100000
set_option maxHeartbeats 2000000
set_option autoImplicit false
namespace Bt
open PySem PySem.Spec PyProof.Rows L2 Rz
section
variable {P : Program} {w : World} {K : PySem.W.Frag} {mg : PySem.Str → Option Value} {base : Heap}
local macro_rules | `(tactic| walk_at "sd") => `(tactic| first
  | rfl | assumption
  | exact Sub.at ‹Sub _ _› (by assumption)
  | exact SqL.of (by assumption) | exact SqT.of (by assumption) | exact SqL.of (Sub.at ‹Sub _ _› (by assumption)) | exact SqT.of (Sub.at ‹Sub _ _› (by assumption))
  | exact Or.inl (SqL.of (by assumption)) | exact Or.inr (SqT.of (by assumption)) | exact Or.inl (SqL.of (Sub.at ‹Sub _ _› (by assumption))) | exact Or.inr (SqT.of (Sub.at ‹Sub _ _› (by assumption)))
  | exact ClsV.ty _ | exact TyX.base (.int _) | exact TyX.base (.str _) | exact TyX.base (.tup (by assumption)) | exact kit_int | exact kit_ib | exact kit_ss | exact kit_tt)
local macro_rules | `(tactic| walk_at "rd1") => `(tactic| first
  | (apply Exists.intro)
  | (refine And.intro ?_ ?_; (focus (walk_at "sd")))
  | (refine L2.iteT ?_)
  | (refine L2.iteF ?_))
local macro_rules | `(tactic| walk_at "rd") => `(tactic| repeat (walk_at "rd1"))
local macro_rules | `(tactic| walk_at "se") => `(tactic| first
  | rfl | assumption
  | exact Sub.at ‹Sub _ _› (by assumption)
  | exact SqL.of (by assumption) | exact SqT.of (by assumption) | exact SqL.of (Sub.at ‹Sub _ _› (by assumption)) | exact SqT.of (Sub.at ‹Sub _ _› (by assumption))
  | exact Or.inl (SqL.of (by assumption)) | exact Or.inr (SqT.of (by assumption)) | exact Or.inl (SqL.of (Sub.at ‹Sub _ _› (by assumption))) | exact Or.inr (SqT.of (Sub.at ‹Sub _ _› (by assumption)))
  | exact TRaw.ins ‹TRaw _ _ _ _ _› | exact TA.miss
  | exact TRaw.n ‹TRaw _ _ _ _ _›
  | exact TRaw.z ‹TRaw _ _ _ _ _›
  | exact TRaw.d ‹TRaw _ _ _ _ _›
  | exact TRaw.r ‹TRaw _ _ _ _ _›
  | exact TRaw.f ‹TRaw _ _ _ _ _›
  | exact TRaw.l ‹TRaw _ _ _ _ _›
  | exact TRaw.u ‹TRaw _ _ _ _ _›
  | exact TRaw.w ‹TRaw _ _ _ _ _› | exact TRaw.a ‹TRaw _ _ _ _ _› rfl
  | exact SqL.of (TRaw.n ‹TRaw _ _ _ _ _›)
  | exact SqL.of (TRaw.z ‹TRaw _ _ _ _ _›)
  | exact SqL.of (TRaw.d ‹TRaw _ _ _ _ _›)
  | exact SqL.of (TRaw.r ‹TRaw _ _ _ _ _›)
  | exact SqL.of (TRaw.f ‹TRaw _ _ _ _ _›)
  | exact SqL.of (TRaw.l ‹TRaw _ _ _ _ _›)
  | exact SqL.of (TRaw.u ‹TRaw _ _ _ _ _›)
  | exact SqL.of (TRaw.w ‹TRaw _ _ _ _ _›) | exact SqL.of (TRaw.a ‹TRaw _ _ _ _ _› rfl)
  | exact ClsV.ty _ | exact TyX.base (.int _) | exact TyX.base (.str _) | exact TyX.base (.tup (by assumption)) | exact kit_int | exact kit_ib | exact kit_ss | exact kit_tt)
local macro_rules | `(tactic| walk_at "re1") => `(tactic| first
  | (apply Exists.intro)
  | (refine And.intro ?_ ?_; (focus (walk_at "se")))
  | (refine L2.iteT ?_)
  | (refine L2.iteF ?_))
local macro_rules | `(tactic| walk_at "re") => `(tactic| repeat (walk_at "re1"))

theorem sc_law_small_right : FnScope ["_law_jar_here", "_law_walker", "_law_moved_here", "_law_mark", "_law_place", "_law_ring_here", "_law_many", "_law_span", "_law_due", "_law_at", "_law_some"] ["_law_jar_here", "_law_walker", "_law_moved_here"] (defScope s_law_small_right) := ⟨rfl, rfl, rfl, by decide +kernel, rfl, by decide +kernel, by decide +kernel⟩
theorem t_repr {K : PySem.W.Frag} {σ : L2.St} {H : Hp} {a : Addr} {Q : VK} (h : rRepr K [V.ref a] H Q) : tNil σ H fun xs H2 => rRepr K (V.ref a :: xs) H2 Q := h
theorem nat0 {n : Nat} (h : (n : Int) = 0) : n = 0 := by omega
theorem cpw18 : CPow 10 18 := ⟨by decide, by decide, by decide⟩
theorem orb_rng {ls : List Int} {od : List Nat} (ex : Ex ls od) {p : Int} (p0 : 0 ≤ p) (p1 : p < exN ls) (a : Nat) (hn : exN ls ≤ 1000000000000) (n : Nat) : ∀ x ∈ orb (fun q => it (mv ls od) a q) p n, -1000000000000000000 ≤ x ∧ x ≤ 1000000000000000000 := fun x hx => by
  obtain ⟨k, _, rfl⟩ := List.mem_map.mp hx
  have := it_range (n := exN ls) (T := fun q => it (mv ls od) a q) (fun q c d => it_range (fun r e f => mv_range ex e f) a q c d) k p p0 p1
  omega
/-- what outlives the drawing from the jar -/
structure Kept (K : PySem.W.Frag) (J C M : Addr) (W : WA) (D : WD) (H : Hp) : Prop where
  jar : Jar H J C
  w : WOk K (msk [J, C] H) W D
  t : TabAt (msk [J, C] H) M D.ls D.od
theorem Kept.go {J C M : Addr} {W : WA} {D : WD} {H H' : Hp} (k : Kept K J C M W D H) (m : Sub (msk [J, C] H) H') (j : Jar H' J C) : Kept K J C M W D H' := ⟨j, k.w.sub m.hold, k.t.sub m.hold⟩
theorem Kept.sub {J C M : Addr} {W : WA} {D : WD} {H H' : Hp} (k : Kept K J C M W D H) (s : Sub H H') : Kept K J C M W D H' := k.go (msk_sub.tr s) (k.jar.sub s)
theorem Kept.wk {J C M : Addr} {W : WA} {D : WD} {H : Hp} (k : Kept K J C M W D H) : WOk K H W D := k.w.sub msk_sub
theorem Kept.tb {J C M : Addr} {W : WA} {D : WD} {H : Hp} (k : Kept K J C M W D H) : TabAt H M D.ls D.od := k.t.sub msk_sub
theorem Kept.ins {J C M : Addr} {W : WA} {D : WD} {H : Hp} (k : Kept K J C M W D H) : H W.w = some (.ins (cW K) W.dx W.fs) := k.wk.ins
abbrev sp_law_small_right (K : PySem.W.Frag) : Sp := P3 fun a b c H Q => ∃ (J C : Addr) (W : WA) (D : WD) (M : Addr), a = .ref J ∧ b = .ref W.w ∧ c = .ref M ∧ Kept K J C M W D H ∧ D.tm = 0 ∧ D.kn = 0 ∧ exN D.ls ≤ 40 ∧
  ∀ H', Sub (msk [J, C] H) H' → Jar H' J C → Q (.bl true) H'
set_option pp.maxSteps 600 in
theorem ok_law_small_right (T : Tx K mg) : GdG P w K mg base 8 "_law_small_right" ["_law_jar_here", "_law_walker", "_law_moved_here"] (sp_law_small_right K) := by
  refine mkdG T.F_law_small_right T.g_law_small_right sc_law_small_right P3.ar (fun _ _ _ _ _ _ us hl => match us, hl with | [_, _, _], _ => rfl) fun cdv A0 outer s0 H vs Q E hr hgA h => ?_
  obtain ⟨_, _, _, rfl, J, C, W, D, M, rfl, rfl, rfl, hk0, htm, hkn, h40, hq⟩ := h
  refine ⟨_, (pss_cons (ps_for PassesOwn.never rfl (pi_tup (cm0 (ok_Walker_marks T) hr (pv 1))) (pg_tup rfl (pgs_cons (pg_name (i := 3) sc_law_small_right.nd rfl (by first | exact .inl rfl | exact .inr rfl)) (pgs_cons (pg_name (i := 4) sc_law_small_right.nd rfl (by first | exact .inl rfl | exact .inr rfl)) pgs_nil))) (pss_cons (ps_set (i := 5) sc_law_small_right.nd rfl (by first | exact .inl rfl | exact .inr rfl) (cl (ok_law_ring T) hr (pa_cons (pv 2) (pa_cons (pv 4) pa_nil))))
  (pss_cons (ps_set (i := 6) sc_law_small_right.nd rfl (by first | exact .inl rfl | exact .inr rfl) (pe_callB call_len_seq rfl T.n_len (by decide +kernel) (pa_cons (pv 5) pa_nil)))
  (pss_cons (ps_for PassesOwn.never rfl (pi_list (pe_lst (pa_cons pe_int (pa_cons (pe_op op_add pe_int (cl (ok_law_sip T) hr (pa_cons (pv 0) (pa_cons (pv 6) pa_nil)))) (pa_cons (pv 6) (pa_cons (pe_op op_add (pv 6) pe_int) (pa_cons (pe_op op_add pe_int (cl (ok_law_sip T) hr (pa_cons (pv 0) (pa_cons (pe_op op_pow pe_int pe_int) pa_nil)))) (pa_cons (pe_op op_mul pe_int (pv 6)) pa_nil)))))))) (pg_name (i := 7) sc_law_small_right.nd rfl (by first | exact .inl rfl | exact .inr rfl)) (pss_cons (ps_par (i := 8) (j := 9) rfl sc_law_small_right.nd rfl rfl (by decide) rfl rfl (pa_cons (pe_lst (pa_cons (pe_ix ix_list (pv 5) pe_int (fun _ _ => rfl)) pa_nil)) (pa_cons (pe_op op_mod (pv 7) (pv 6)) pa_nil)) rfl)
  (pss_cons (ps_while PassesOwn.never (pt_cmpR op_ne (pv 9) pe_int (nomark _)) (pss_cons (ps_expr (pe_bm PySem.F.plainAttrs_list PySem.F.slot_list_append PySem.F.type_list_append mt_append (pv 8) (pa_cons (pe_ix ix_list (pv 5) (pv 9) (fun _ _ => rfl)) pa_nil)))
  (pss_one (ps_set (i := 9) sc_law_small_right.nd rfl (by first | exact .inl rfl | exact .inr rfl) (pe_op op_mod (pe_op op_add (pv 9) (pv 7)) (pv 6))))))
  (pss_cons (ps_if (pt_cmpR op_ne (pe_callB (cr_repr (deeper_g hgA) hr.units) rfl T.n_repr (by decide +kernel) (pa_cons (pe_listW (gK (okg_Walker_walk T) hr (pv 1) (pa_cons (pv 3) pa_nil) (pk_cons (pv 7) pk_nil)) hr T.n_list) pa_nil)) (pe_callB (cr_repr (deeper_g hgA) hr.units) rfl T.n_repr (by decide +kernel) (pa_cons (pv 8) pa_nil)) (nomark _)) (pss_one (ps_ret pe_bl)) pss_nil)
  (pss_cons (ps_set (i := 10) sc_law_small_right.nd rfl (by first | exact .inl rfl | exact .inr rfl) (pe_op op_add pe_int (cl (ok_law_sip T) hr (pa_cons (pv 0) (pa_cons pe_int pa_nil)))))
  (pss_one (ps_if (pt_cmpR op_ne (pe_callB (cr_repr (deeper_g hgA) hr.units) rfl T.n_repr (by decide +kernel) (pa_cons (cl (ok_law_taken T) hr (pa_cons (pv 1) (pa_cons (pv 3) (pa_cons (pv 7) (pa_cons (pv 10) pa_nil))))) pa_nil)) (pe_callB (cr_repr (deeper_g hgA) hr.units) rfl T.n_repr (by decide +kernel) (pa_cons (pe_slice sl_list (pv 8) po_none (po_some (pv 10))) pa_nil)) (nomark _)) (pss_one (ps_ret pe_bl)) pss_nil)))))))
  (pss_one (ps_if (PW.pt (pw_or (pt_cmpR op_ne (pe_callB (cr_repr (deeper_g hgA) hr.units) rfl T.n_repr (by decide +kernel) (pa_cons (pe_listW (gM (okg_Walker_walk T) hr (pv 1) (pa_cons (pv 3) pa_nil)) hr T.n_list) pa_nil)) (pe_callB (cr_repr (deeper_g hgA) hr.units) rfl T.n_repr (by decide +kernel) (pa_cons (pv 5) pa_nil)) (nomark _)) (pw_or1 (pt_cmpR op_ne (cR (ok_Walker_back_in T) hr (pv 1) (pa_cons (pv 3) pa_nil)) (pv 6) (nomark _))))) (pss_one (ps_ret pe_bl)) pss_nil))))))
  (pss_one (ps_ret pe_bl))), ?_⟩
  have hi := hk0.ins
  have hwH := hk0.wk
  have hex := hwH.ok.ok.ex
  walk_at "re"
  intro m as hm hA
  have tm : ∀ {a : Addr} {ys : List V}, H a = some (.tup ys) → msk [J, C] H a = some (.tup ys) := fun {a ys} ha => msk_at ha (fun hx => by
    obtain ⟨xs, q⟩ := hk0.jar.lists a hx
    rw [q] at ha; cases ha)
  have hmM := tm hm
  have hAM : A2 (pM (msk [J, C] H)) as D.ms := hA.mono fun a x r => tm r
  refine ⟨m, rfl, ⟨_, SqT.of hm⟩, for_it (walk_tup (xs := rV as)) (fun i σ H' => Bx (∃ o3 o4 o5 o6 o7 o8 o9 o10 : Option V, σ = [some (.ref J), some (.ref W.w), some (.ref M), o3, o4, o5, o6, o7, o8, o9, o10] ∧ Sub (msk [J, C] H) H' ∧ Jar H' J C))
    ⟨_, _, _, _, _, _, _, _, rfl, msk_sub, hk0.jar⟩ (fun i σ H' _ h => by obtain ⟨_, _, _, _, _, _, _, _, _, s, _⟩ := h.o; exact SqT.of (s.at hmM)) (fun i v σ Ha Hb hi h hy => ?_) fun σ Ha h => ?_⟩
  · obtain ⟨o3, o4, o5, o6, o7, o8, o9, o10, rfl, ma, ja⟩ := h.o
    obtain ⟨rfl, hv⟩ := hy
    obtain ⟨a, ha, rfl⟩ := rV_inv hv
    obtain ⟨⟨x, q⟩, hy, hp⟩ := hAM.get' ha
    have hxm : (x, q) ∈ D.ms := List.mem_of_getElem? hy
    obtain ⟨q0, q1⟩ := hwH.ok.pl _ hxm
    have ka := hk0.go ma ja
    obtain ⟨z, per, hzn⟩ := per_mv hex q0 q1
    have z40 : z ≤ 40 := by omega
    have z9 : z ≤ 90000 := by omega
    have z0 := per.pos
    have tba := ka.tb
    refine ⟨a, _, rfl, SqT.of (ma.at hp), rfl, ?_⟩
    walk_at "re"
    intro H1 Rg s1 nRg hRg
    have oR : Rg ∉ [J, C] := ja.out nRg
    have k1 := ka.sub s1
    have j1 := k1.jar
    walk_at "re"
    rw [iV_len, orb_len]
    refine ⟨by omega, by omega, fun H2 r1 m2 j2 a0 a1 => ?_⟩
    have k2 := k1.go m2 j2
    have cpw := cpw18
    walk_at "re"
    refine ⟨by show (1 : Int) ≤ 10 ^ 18; decide, by show (10 : Int) ^ 18 ≤ 2000000000000000000; decide, fun H3 r2 m3 j3 b0 b1 => ?_⟩
    have b1' : r2 < 1000000000000000000 := b1
    have k3 := k2.go m3 j3
    have c3 : CMul 3 (z : Int) := cmulL (by decide) (by decide)
    walk_at "re"
    refine ⟨by show 6 ≤ sizeLine; decide, fun B nB => ?_⟩
    have hR3 : msk [J, C] H3 Rg = some (.lst (iV (orb (mv D.ls D.od) q z))) := m3.hold.at (m2.hold.at (msk_at hRg oR))
    have oB : B ∉ [J, C] := j3.out nB
    have sB : Sub H3 (upd H3 B (.lst (iV [1, 1 + r1, (z : Int), (z : Int) + 1, 1 + r2, 3 * (z : Int)]))) := Sub.rfl'.new nB
    have hB : (upd H3 B (.lst (iV [1, 1 + r1, (z : Int), (z : Int) + 1, 1 + r2, 3 * (z : Int)]))) B = some (.lst (iV [1, 1 + r1, (z : Int), (z : Int) + 1, 1 + r2, 3 * (z : Int)])) := upd_same
    refine (show (_ : Hp → Prop) (upd H3 B (.lst (iV [1, 1 + r1, (z : Int), (z : Int) + 1, 1 + r2, 3 * (z : Int)]))) from ?_)
    generalize upd H3 B (.lst (iV [1, 1 + r1, (z : Int), (z : Int) + 1, 1 + r2, 3 * (z : Int)])) = H4 at sB hB ⊢
    have k4 := k3.sub sB
    have hR4 := (msk_mono sB).at hR3
    have hB4 := msk_at hB oB
    have M4 : Sub (msk [J, C] H) H4 := (((ma.tr s1).hold.tr m2).hold.tr m3).tr sB
    have big : (z : Int) ≤ 40 := by omega
    refine ⟨B, rfl, ⟨_, SqL.of hB⟩, for_it (walk_list (xs := iV [1, 1 + r1, (z : Int), (z : Int) + 1, 1 + r2, 3 * (z : Int)])) (fun i σ H' => Bx (∃ o7 o8 o9 o10 : Option V, σ = [some (.ref J), some (.ref W.w), some (.ref M), some (.str x), some (.int q), some (.ref Rg), some (.int (z : Int)), o7, o8, o9, o10] ∧ Sub (msk [J, C] H4) H' ∧ Jar H' J C))
      ⟨_, _, _, _, rfl, msk_sub, k4.jar⟩ (fun i σ H' _ h => by obtain ⟨_, _, _, _, _, s, _⟩ := h.o; exact SqL.of (s.at hB4)) (fun i v σ Ha Hc hi2 h hy => ?_) fun σ Ha h => ?_⟩
    · obtain ⟨o7, o8, o9, o10, rfl, mc, jc⟩ := h.o
      obtain ⟨rfl, hv⟩ := hy
      obtain ⟨sp, hsp, rfl⟩ := iV_inv hv
      have hspm := List.mem_of_getElem? hsp
      have spb : 1 ≤ sp ∧ sp ≤ 1000000000000000000 := by
        simp only [List.mem_cons, List.not_mem_nil, or_false] at hspm
        omega
      obtain ⟨sp1, sp2⟩ := spb
      clear hspm hsp hv
      have kc := k4.go mc jc
      have hRc := mc.at hR4
      have hRcM := mc.hold.at hR4
      have g0 : atI (iV (orb (mv D.ls D.od) q z)) 0 = some (.int q) := by
        have := atI_nat (iV_get (orb_get (T := mv D.ls D.od) (p := q) z0))
        exact this
      have zp : (0 : Int) < (z : Int) := by omega
      obtain ⟨y, hy, hyz⟩ := per_st per sp.toNat
      have y1000 : y ≤ 1000 := by omega
      have sre := SqL.of (K := K) hRc
      walk_at "re"
      refine ⟨by show 1 ≤ sizeLine; decide, fun Du nDu => ?_⟩
      have oDu : Du ∉ [J, C] := jc.out nDu
      have sD : Sub Hc (upd Hc Du (.lst [.int q])) := Sub.rfl'.new nDu
      have hDu : (upd Hc Du (.lst [.int q])) Du = some (.lst (iV (orb (fun r => it (mv D.ls D.od) sp.toNat r) q 1))) := upd_same
      generalize upd Hc Du (.lst [.int q]) = H5 at sD hDu ⊢
      refine ⟨_, rfl, _, rfl, _, _, rfl, rfl, zp, _, _, rfl, ?_⟩
      have spn : ((sp.toNat : Nat) : Int) = sp := by omega
      refine ⟨fun m σ H' => Bx (∃ k : Nat, 1 ≤ k ∧ k ≤ y ∧ m = y - k ∧ σ = [some (.ref J), some (.ref W.w), some (.ref M), some (.str x), some (.int q), some (.ref Rg), some (.int (z : Int)), some (.int sp), some (.ref Du), some (.int (((k * sp.toNat) % z : Nat) : Int)), o10] ∧ Sub Hc H' ∧ H' Du = some (.lst (iV (orb (fun r => it (mv D.ls D.od) sp.toNat r) q k)))),
        ⟨y - 1, 1, Nat.le_refl _, hy.pos, rfl, ?_, sD, hDu⟩, fun m σ H6 h => ?_⟩
      · show [some (V.ref J), some (V.ref W.w), some (V.ref M), some (V.str x), some (V.int q), some (V.ref Rg), some (V.int (z : Int)), some (V.int sp), some (V.ref Du), some (V.int (sp % (z : Int))), o10] = _
        rw [Nat.one_mul, Int.natCast_emod, spn]
      obtain ⟨k, k1', ky, rfl, rfl, s6, hD6⟩ := h.o
      have k6 := kc.sub s6
      have hR6 := s6.at hRc
      have sR6 := SqL.of (K := K) hR6
      have pm := per_mod per sp.toNat k
      by_cases c : (k * sp.toNat) % z = 0
      · -- the walk is whole
        have ez : k = y := by
          rcases Nat.lt_or_ge k y with q9 | q9
          · exact absurd (pm.mpr c) (hy.min k k1' q9)
          · omega
        subst ez
        rw [c]
        have hw6 := k6.wk
        have hi6 := k6.ins
        refine ⟨_, rfl, rfl, _, rfl, ifF (by decide) ?_⟩
        have k1000 : k ≤ 1000 := by omega
        have rngs := orb_rng hex q0 q1 sp.toNat (by omega) k
        refine ⟨_, rfl, W.w, _, _, rfl, hi6, rfl, _, rfl, _, rfl, rfl, rfl, W, D, x, q, sp, k, rfl, hw6, hxm, sp1, hy, k1000, fun H7 s7 L7 nL7 => ?_⟩
        refine t_repr (r_repr (dp_iL (SqL.of upd_same)) (sm_ints (k := 0) (by rw [orb_len]; omega) rngs) (by decide) (by decide) ?_)
        have s8 := s7.new (o := .lst (iV (orb (fun r => it (mv D.ls D.od) sp.toNat r) q k))) nL7
        generalize upd H7 L7 (.lst (iV (orb (fun r => it (mv D.ls D.od) sp.toNat r) q k))) = H8 at s8 ⊢
        have k8 := k6.sub s8
        have j8 := k8.jar
        have hD8 := s8.at hD6
        refine ⟨_, rfl, ?_⟩
        refine t_repr (r_repr (dp_iL (SqL.of hD8)) (sm_ints (k := 0) (by rw [orb_len]; omega) rngs) (by decide) (by decide) ?_)
        refine ⟨rfl, _, rfl, ifF (by simp) ?_⟩
        refine ⟨_, rfl, _, _, rfl, J, C, 4, rfl, rfl, j8, by decide, by decide, fun H9 r3 m9 j9 e0 e1 => ?_⟩
        obtain ⟨sm, rfl⟩ : ∃ n : Nat, r3 = (n : Int) := ⟨r3.toNat, by omega⟩
        have k9 := k8.go m9 j9
        have hw9 := k9.wk
        have hD9 := m9.at (msk_at hD8 oDu)
        refine ⟨_, _, rfl, rfl, ?_⟩
        have es : (1 : Int) + (sm : Int) = ((1 + sm : Nat) : Int) := by omega
        refine ⟨_, rfl, _, rfl, _, rfl, _, rfl, _, _, _, _, rfl, W, D, x, q, sp, 1 + sm, k, rfl, rfl, rfl, congrArg V.int es, hw9, hxm, sp1, by omega, by omega, hy, fun H10 F s10 nF hF => ?_⟩
        have rngs2 := orb_rng hex q0 q1 sp.toNat (by omega) (min (1 + sm) k)
        refine t_repr (r_repr (dp_iL (SqL.of hF)) (sm_ints (k := 0) (by rw [orb_len]; omega) rngs2) (by decide) (by decide) ?_)
        have hD10 := s10.at hD9
        refine ⟨_, rfl, _, rfl, _, rfl, Du, _, rfl, SqL.of hD10, fun L8 nL8 => ?_⟩
        have e8 : cutV (iV (orb (fun r => it (mv D.ls D.od) sp.toNat r) q k)) none (some ((1 : Int) + (sm : Int))) = iV (orb (fun r => it (mv D.ls D.od) sp.toNat r) q (min (1 + sm) k)) := by rw [es, cut_to, iV_take, orb_take]
        have s11 := (Sub.rfl' (G := H10)).new (o := .lst (cutV (iV (orb (fun r => it (mv D.ls D.od) sp.toNat r) q k)) none (some ((1 : Int) + (sm : Int))))) nL8
        refine t_repr (r_repr (dp_iL (SqL.of (e8 ▸ upd_same))) (sm_ints (k := 0) (by rw [orb_len]; omega) rngs2) (by decide) (by decide) ?_)
        refine ⟨rfl, _, rfl, ifF (by simp) ?_⟩
        exact ⟨_, _, _, _, rfl, ((((mc.tr s6).tr s8).hold.tr m9).tr s10).tr s11, (j9.sub s10).sub s11⟩
      · refine ⟨_, rfl, rfl, _, rfl, ifT (by rw [decide_eq_false fun e => c (nat0 (V.int.inj e))]; rfl) ?_⟩
        have kz : k < y := by
          rcases Nat.lt_or_ge k y with q9 | q9
          · exact q9
          · have : k = y := by omega
            subst this
            exact absurd (pm.mp hy.back) c
        have gat := atI_nat (iV_get (ring_at per sp.toNat k))
        refine ⟨fun σ H' => Bx (σ = [some (.ref J), some (.ref W.w), some (.ref M), some (.str x), some (.int q), some (.ref Rg), some (.int (z : Int)), some (.int sp), some (.ref Du), some (.int ((((k + 1) * sp.toNat) % z : Nat) : Int)), o10] ∧ Sub Hc H' ∧ H' Du = some (.lst (iV (orb (fun r => it (mv D.ls D.od) sp.toNat r) q (k + 1))))), fun σ' H' h => ?_, ?_⟩
        · obtain ⟨rfl, e2, e3⟩ := h.o
          exact ⟨y - (k + 1), by omega, ⟨k + 1, by omega, kz, rfl, rfl, e2, e3⟩⟩
        · refine ⟨_, rfl, tyL hD6, _, rfl, _, rfl, Rg, _, _, _, rfl, rfl, sR6, gat, Du, _, _, rfl, rfl, hD6, szlt (by rw [iV_len, orb_len]; omega), ?_⟩
          refine ⟨_, rfl, _, rfl, _, _, rfl, rfl, _, rfl, _, _, rfl, rfl, zp, ?_⟩
          refine ⟨?_, s6.upd nDu, by rw [upd_same, iV_snoc, orb_succ]⟩
          show [some (V.ref J), some (V.ref W.w), some (V.ref M), some (V.str x), some (V.int q), some (V.ref Rg), some (V.int (z : Int)), some (V.int sp), some (V.ref Du), some (V.int (((((k * sp.toNat) % z : Nat) : Int) + sp) % (z : Int))), o10] = _
          rw [← at_succ, Int.natCast_emod ((k * sp.toNat) % z + sp.toNat), Int.natCast_add, spn]
    · obtain ⟨o7, o8, o9, o10, rfl, mc, jc⟩ := h.o
      have kc := k4.go mc jc
      have hRc := mc.at hR4
      have per1 : Per (fun r => it (mv D.ls D.od) (1 : Int).toNat r) q z := per
      have eo : orb (fun r => it (mv D.ls D.od) (1 : Int).toNat r) q z = orb (mv D.ls D.od) q z := rfl
      have rngs := orb_rng hex q0 q1 (1 : Int).toNat (by omega) z
      refine ⟨_, rfl, W.w, _, _, rfl, kc.ins, rfl, _, rfl, W, D, x, q, 1, z, rfl, kc.wk, hxm, by decide, per1, by omega, fun H7 s7 L7 nL7 => ?_⟩
      refine t_repr (r_repr (dp_iL (SqL.of upd_same)) (sm_ints (k := 0) (by rw [orb_len]; omega) rngs) (by decide) (by decide) ?_)
      have s8 := s7.new (o := .lst (iV (orb (fun r => it (mv D.ls D.od) (1 : Int).toNat r) q z))) nL7
      generalize upd H7 L7 (.lst (iV (orb (fun r => it (mv D.ls D.od) (1 : Int).toNat r) q z))) = H8 at s8 ⊢
      have k8 := kc.sub s8
      have hR8 := s8.at hRc
      rw [eo] at rngs ⊢
      refine ⟨_, rfl, ?_⟩
      refine t_repr (r_repr (dp_iL (SqL.of hR8)) (sm_ints (k := 0) (by rw [orb_len]; omega) rngs) (by decide) (by decide) ?_)
      refine ⟨rfl, _, rfl, ifF (by simp) ?_⟩
      refine ⟨_, rfl, W.w, _, _, rfl, k8.ins, rfl, _, rfl, [.ref W.w], [.str x], rfl, rfl, by show 1 ≤ sizeLine; decide, fun pl npl => ?_⟩
      have s9 := (Sub.rfl' (G := H8)).new (o := .tup [.str x]) npl
      refine ⟨_, _, rfl, W, D, pl, x, q, rfl, rfl, upd_same, k8.wk.sub s9, hxm, fun H9 z2 s10 per2 => ?_⟩
      obtain rfl : z2 = z := Per.uniq per2 per
      refine ⟨_, rfl, rfl, _, rfl, ifF (by simp) ?_⟩
      exact ⟨_, _, _, _, _, _, _, _, rfl, ((((M4.hold.tr mc).tr s8).tr s9).tr s10), ((jc.sub s8).sub s9).sub s10⟩
  · obtain ⟨_, _, _, _, _, _, _, _, rfl, ma, ja⟩ := h.o
    walk_at "re"
    exact hq Ha ma ja
end
end Bt
end
section
set_option Elab.async false
set_option linter.all false
set_option maxRecDepth 100000
set_option maxHeartbeats 2000000
set_option autoImplicit false
namespace Bt
open PySem PySem.Spec PyProof.Rows L2 Rz
section
variable {P : Program} {w : World} {K : PySem.W.Frag} {mg : PySem.Str → Option Value} {base : Heap}
local macro_rules | `(tactic| walk_at "sd") => `(tactic| first
  | rfl | assumption
  | exact Sub.at ‹Sub _ _› (by assumption)
  | exact SqL.of (by assumption) | exact SqT.of (by assumption) | exact SqL.of (Sub.at ‹Sub _ _› (by assumption)) | exact SqT.of (Sub.at ‹Sub _ _› (by assumption))
  | exact Or.inl (SqL.of (by assumption)) | exact Or.inr (SqT.of (by assumption)) | exact Or.inl (SqL.of (Sub.at ‹Sub _ _› (by assumption))) | exact Or.inr (SqT.of (Sub.at ‹Sub _ _› (by assumption)))
  | exact ClsV.ty _ | exact TyX.base (.int _) | exact TyX.base (.str _) | exact TyX.base (.tup (by assumption)) | exact kit_int | exact kit_ib | exact kit_ss | exact kit_tt)
local macro_rules | `(tactic| walk_at "rd1") => `(tactic| first
  | (apply Exists.intro)
  | (refine And.intro ?_ ?_; (focus (walk_at "sd")))
  | (refine L2.iteT ?_)
  | (refine L2.iteF ?_))
local macro_rules | `(tactic| walk_at "rd") => `(tactic| repeat (walk_at "rd1"))
local macro_rules | `(tactic| walk_at "se") => `(tactic| first
  | rfl | assumption
  | exact Sub.at ‹Sub _ _› (by assumption)
  | exact SqL.of (by assumption) | exact SqT.of (by assumption) | exact SqL.of (Sub.at ‹Sub _ _› (by assumption)) | exact SqT.of (Sub.at ‹Sub _ _› (by assumption))
  | exact Or.inl (SqL.of (by assumption)) | exact Or.inr (SqT.of (by assumption)) | exact Or.inl (SqL.of (Sub.at ‹Sub _ _› (by assumption))) | exact Or.inr (SqT.of (Sub.at ‹Sub _ _› (by assumption)))
  | exact TRaw.ins ‹TRaw _ _ _ _ _› | exact TA.miss
  | exact TRaw.n ‹TRaw _ _ _ _ _›
  | exact TRaw.z ‹TRaw _ _ _ _ _›
  | exact TRaw.d ‹TRaw _ _ _ _ _›
  | exact TRaw.r ‹TRaw _ _ _ _ _›
  | exact TRaw.f ‹TRaw _ _ _ _ _›
  | exact TRaw.l ‹TRaw _ _ _ _ _›
  | exact TRaw.u ‹TRaw _ _ _ _ _›
  | exact TRaw.w ‹TRaw _ _ _ _ _› | exact TRaw.a ‹TRaw _ _ _ _ _› rfl
  | exact SqL.of (TRaw.n ‹TRaw _ _ _ _ _›)
  | exact SqL.of (TRaw.z ‹TRaw _ _ _ _ _›)
  | exact SqL.of (TRaw.d ‹TRaw _ _ _ _ _›)
  | exact SqL.of (TRaw.r ‹TRaw _ _ _ _ _›)
  | exact SqL.of (TRaw.f ‹TRaw _ _ _ _ _›)
  | exact SqL.of (TRaw.l ‹TRaw _ _ _ _ _›)
  | exact SqL.of (TRaw.u ‹TRaw _ _ _ _ _›)
  | exact SqL.of (TRaw.w ‹TRaw _ _ _ _ _›) | exact SqL.of (TRaw.a ‹TRaw _ _ _ _ _› rfl)
  | exact ClsV.ty _ | exact TyX.base (.int _) | exact TyX.base (.str _) | exact TyX.base (.tup (by assumption)) | exact kit_int | exact kit_ib | exact kit_ss | exact kit_tt)
local macro_rules | `(tactic| walk_at "re1") => `(tactic| first
  | (apply Exists.intro)
  | (refine And.intro ?_ ?_; (focus (walk_at "se")))
  | (refine L2.iteT ?_)
  | (refine L2.iteF ?_))
local macro_rules | `(tactic| walk_at "re") => `(tactic| repeat (walk_at "re1"))

theorem sc_law_far_right : FnScope ["_law_jar_here", "_law_first", "_law_second", "_law_many", "_law_walker", "_law_span", "_law_found", "_law_place", "_law_due", "_law_k"] ["_law_jar_here"] (defScope s_law_far_right) := ⟨rfl, rfl, rfl, by decide +kernel, rfl, by decide +kernel, by decide +kernel⟩
abbrev sp_law_far_right (K : PySem.W.Frag) : Sp := P1 fun a H Q => ∃ J C : Addr, a = .ref J ∧ Jar H J C ∧ ∀ H', Sub (msk [J, C] H) H' → Jar H' J C → Q (.bl true) H'
theorem ok_law_far_right (T : Tx K mg) : GdG P w K mg base 14 "_law_far_right" ["_law_jar_here"] (sp_law_far_right K) := by
  refine mkdG T.F_law_far_right T.g_law_far_right sc_law_far_right P1.ar (fun _ _ _ _ _ _ us hl => match us, hl with | [_], _ => rfl) fun cdv A0 outer s0 H vs Q E hr hgA h => ?_
  obtain ⟨_, rfl, J, C, rfl, hj, hq⟩ := h
  refine ⟨_, (pss_cons (ps_asg (pe_tup (pa_cons (pe_op op_add pe_int (cl (ok_law_sip T) hr (pa_cons (pv 0) (pa_cons (pe_op op_mul pe_int (pe_op op_pow pe_int pe_int)) pa_nil)))) (pa_cons (pe_op op_add pe_int (cl (ok_law_sip T) hr (pa_cons (pv 0) (pa_cons (pe_op op_mul pe_int (pe_op op_pow pe_int pe_int)) pa_nil)))) pa_nil))) (pg_tup rfl (pgs_cons (pg_name (i := 1) sc_law_far_right.nd rfl (by first | exact .inl rfl | exact .inr rfl)) (pgs_cons (pg_name (i := 2) sc_law_far_right.nd rfl (by first | exact .inl rfl | exact .inr rfl)) pgs_nil))))
  (pss_cons (ps_set (i := 3) sc_law_far_right.nd rfl (by first | exact .inl rfl | exact .inr rfl) (pe_op op_add (pv 1) (pv 2)))
  (pss_cons (ps_asg (pe_tup (pa_cons (cC (ok_Walker_of T) hr T.g_Walker (pa_cons (pe_tup (pa_cons (pe_tup (pa_cons (pv 1) (pa_cons (pv 2) pa_nil))) (pa_cons (pe_tup (pa_cons pe_int (pa_cons pe_int pa_nil))) pa_nil))) (pa_cons (cl (ok_law_sip T) hr (pa_cons (pv 0) (pa_cons (pv 3) pa_nil))) pa_nil))) (pa_cons (pe_op op_add pe_int (cl (ok_law_sip T) hr (pa_cons (pv 0) (pa_cons (pe_op op_pow pe_int pe_int) pa_nil)))) pa_nil))) (pg_tup rfl (pgs_cons (pg_name (i := 4) sc_law_far_right.nd rfl (by first | exact .inl rfl | exact .inr rfl)) (pgs_cons (pg_name (i := 5) sc_law_far_right.nd rfl (by first | exact .inl rfl | exact .inr rfl)) pgs_nil))))
  (pss_cons (ps_set (i := 6) sc_law_far_right.nd rfl (by first | exact .inl rfl | exact .inr rfl) (cl (ok_law_taken T) hr (pa_cons (pv 4) (pa_cons pe_str (pa_cons (pv 5) (pa_cons pe_int pa_nil))))))
  (pss_cons (ps_set (i := 7) sc_law_far_right.nd rfl (by first | exact .inl rfl | exact .inr rfl) (cm (ok_Walker_place_of T) hr (pv 4) (pa_cons pe_str pa_nil)))
  (pss_cons (ps_setLc (i := 8) (own := [("_law_k", 9)]) (g := (gName 9)) (tt := tYes) (te := (tOp (rI (fun _ j => 0 < j) fun i j => .int (i % j)) (tOp (rI0 fun i j => .int (i + j)) (tVar 7) (tOp (rI CMul fun i j => .int (i * j)) (tOp (rI CMul fun i j => .int (i * j)) (tVar 9) (tVar 5)) (tVar 2))) (tVar 3))) rfl sc_law_far_right.nd rfl rfl (sw_true rfl rfl rfl (by decide +kernel)) (pi_range1 rfl T.n_range (pa_cons pe_int pa_nil)) (blkOk_by (N := ["_law_jar_here", "_law_first", "_law_second", "_law_many", "_law_walker", "_law_span", "_law_found", "_law_place", "_law_due", "_law_k"]) (sc := defScope s_law_far_right) (by decide +kernel)) (fun _ _ _ _ _ => (pg_name (i := 9) sc_law_far_right.nd rfl (by first | exact .inl rfl | exact .inr rfl))) (fun _ _ _ _ _ => pts_nil) (fun _ _ _ _ _ => (pe_op op_mod (pe_op op_add (pv 7) (pe_op op_mul (pe_op op_mul (pv 9) (pv 5)) (pv 2))) (pv 3))))
  (pss_cons (ps_if (pt_cmpR op_in_seq (pe_ix ix_list (pv 8) pe_int (fun _ _ => rfl)) (pe_slice sl_list (pv 8) (po_some pe_int) po_none) rfl) (pss_one (ps_set (i := 8) sc_law_far_right.nd rfl (by first | exact .inl rfl | exact .inr rfl) (pe_slice sl_list (pv 8) po_none (po_some (pe_op op_add pe_int (pe_bm PySem.F.plainAttrs_list PySem.F.slot_list_index PySem.F.type_list_index mt_index (pe_slice sl_list (pv 8) (po_some pe_int) po_none) (pa_cons (pe_ix ix_list (pv 8) pe_int (fun _ _ => rfl)) pa_nil))))))) pss_nil)
  (pss_one (ps_ret (pe_and (pe_cmpR op_eq (pe_callB (cr_repr (deeper_g hgA) hr.units) rfl T.n_repr (by decide +kernel) (pa_cons (pv 6) pa_nil)) (pe_callB (cr_repr (deeper_g hgA) hr.units) rfl T.n_repr (by decide +kernel) (pa_cons (pv 8) pa_nil)) (nomark _)) (pe_one (pe_cmpR (op_eqD hr.units) (pv 6) (cl (ok_law_followed T) hr (pa_cons (pv 4) (pa_cons pe_str (pa_cons (pv 5) (pa_cons pe_int pa_nil))))) (nomark _))))))))))))), ?_⟩
  have cp11 : CPow 10 11 := ⟨by decide, by decide, by decide⟩
  have cm11 : CMul 5 (10 ^ 11) := cmulL (by decide) (by decide)
  have cpw := cpw18
  walk_at "re"
  refine ⟨by show (1 : Int) ≤ 5 * 10 ^ 11; decide, by show (5 : Int) * 10 ^ 11 ≤ 2000000000000000000; decide, fun H1 r1 m1 hj1 a0 a1 => ?_⟩
  have a1' : r1 < 500000000000 := a1
  walk_at "re"
  refine ⟨by show (1 : Int) ≤ 5 * 10 ^ 11; decide, by show (5 : Int) * 10 ^ 11 ≤ 2000000000000000000; decide, fun H2 r2 m2 hj2 b0 b1 => ?_⟩
  have b1' : r2 < 500000000000 := b1
  walk_at "re"
  have M2 := mskT m1 m2
  have fa : 1 ≤ 1 + r1 := by omega
  have fb : 1 ≤ 1 + r2 := by omega
  have fa1 : 1 + r1 ≤ 500000000000 := by omega
  have fb1 : 1 + r2 ≤ 500000000000 := by omega
  clear m1 m2 hj1 a0 a1 a1' b0 b1 b1' hj
  refine ⟨by show 2 ≤ sizeLine; decide, fun p np => ?_⟩
  dsimp only
  generalize 1 + r1 = f at fa fa1 ⊢
  generalize 1 + r2 = g at fb fb1 ⊢
  have s3 := (Sub.rfl' (G := H2)).new (o := .tup [.int f, .int g]) np
  have hj3 := hj2.sub s3
  have hp : (upd H2 p (.tup [.int f, .int g])) p = some (.tup [.int f, .int g]) := upd_same
  have M3 := M2.tr s3
  generalize upd H2 p (.tup [.int f, .int g]) = H3 at M3 hj3 hp ⊢
  refine ⟨_, _, rfl, SqT.of hp, rfl, ?_⟩
  walk_at "re"
  refine ⟨by show 2 ≤ sizeLine; decide, fun l nl => ?_⟩
  refine ⟨by show 2 ≤ sizeLine; decide, fun o no => ?_⟩
  refine ⟨by show 2 ≤ sizeLine; decide, fun e ne => ?_⟩
  dsimp only
  have so := (Sub.rfl' (G := upd H3 l (.tup [.int f, .int g]))).new (o := .tup [.int 1, .int 0]) no
  have se := (Sub.rfl' (G := upd (upd H3 l (.tup [.int f, .int g])) o (.tup [.int 1, .int 0]))).new (o := .tup [.ref l, .ref o]) ne
  have s4 := ((Sub.rfl' (G := H3)).new (o := .tup [.int f, .int g]) nl).tr (so.tr se)
  have hex : ExT (upd (upd (upd H3 l (.tup [.int f, .int g])) o (.tup [.int 1, .int 0])) e (.tup [.ref l, .ref o])) e [f, g] [1, 0] := ⟨l, o, upd_same, se.at (so.at upd_same), se.at upd_same⟩
  generalize upd (upd (upd H3 l (.tup [.int f, .int g])) o (.tup [.int 1, .int 0])) e (.tup [.ref l, .ref o]) = H4 at s4 hex ⊢
  have hj4 := hj3.sub s4
  have M4 := M3.tr s4
  clear so se s4 nl no ne hp s3 np M2 M3 hj2 hj3
  have hx2 : Ex [f, g] [1, 0] := ex_two fa fb
  have hN : exN [f, g] = f + g := exN_two f g
  have hok : ExOk [f, g] [1, 0] := ⟨hx2, by show 2 ≤ 6; decide, by show 1 ≤ 2; decide, by show f + (g + 0) ≤ _; omega⟩
  have hend := ends_far fa fb fa1 fb1
  walk_at "re"
  refine ⟨by omega, by omega, fun H5 pl m5 hj5 p0 p1 => ?_⟩
  have hex5 : ExT H5 e [f, g] [1, 0] := by
    obtain ⟨l, o, a, b, c⟩ := hex
    have k0 : ∀ {a : Addr} {ys : List V}, H4 a = some (.tup ys) → H5 a = some (.tup ys) := fun {a ys} ha => m5.at (msk_at ha (fun hm => by
      obtain ⟨xs, q⟩ := hj4.lists a hm
      rw [q] at ha; cases ha))
    exact ⟨l, o, k0 a, k0 b, k0 c⟩
  have M5 := mskT M4 m5
  clear m5 hj4 M4 hex
  refine ⟨[.ref (cW K), .ref e], [.int pl], rfl, rfl, by show 1 ≤ sizeLine; decide, fun tp ntp => ?_⟩
  refine ⟨_, _, _, rfl, e, tp, [f, g], [1, 0], [pl], rfl, rfl, rfl, upd_same, by show 1 ≤ 4; decide, fun p hp => by rw [List.mem_singleton.mp hp, hN]; exact ⟨p0, p1⟩, hex5.sub (Sub.rfl'.new ntp), hok, hend, fun H6 W s m6 nW ee hfr hw' => ?_⟩
  have s6 : Sub H5 H6 := (Sub.rfl'.new ntp).tr m6
  have hj6 := hj5.sub s6
  have hwc := hw'.clear hj6 hj5 fun a ha => (Sub.rfl'.new ntp).fresh (hfr a ha)
  have M6 := M5.tr s6
  have hx : (("a" : PySem.Str), pl) ∈ lets.zip [pl] := List.mem_cons_self
  clear hw' s6 m6 hfr ee nW ntp hj5 M5
  generalize lets.zip [pl] = ms at hwc hx
  walk_at "re"
  refine ⟨by show (1 : Int) ≤ 10 ^ 18; decide, by show (10 : Int) ^ 18 ≤ 2000000000000000000; decide, fun H7 r3 m7 hj7 c0 c1 => ?_⟩
  have c1' : r3 < 1000000000000000000 := c1
  have hw7 := hwc.sub m7
  have M7 := mskT M6 m7
  walk_at "re"
  refine ⟨by show 2 ≤ sizeLine; decide, fun q nq => ?_⟩
  dsimp only
  have sp1 : 1 ≤ 1 + r3 := by omega
  have sp2 : 1 + r3 ≤ 1000000000000000000 := by omega
  generalize 1 + r3 = span at sp1 sp2 ⊢
  clear c0 c1 c1' m7 M6 hwc
  have s8 := (Sub.rfl' (G := H7)).new (o := .tup [.ref W.w, .int span]) nq
  have hq8 : (upd H7 q (.tup [.ref W.w, .int span])) q = some (.tup [.ref W.w, .int span]) := upd_same
  have hj8 := hj7.sub s8
  have hw8 := hw7.sub s8
  have M8 := M7.tr s8
  generalize upd H7 q (.tup [.ref W.w, .int span]) = H8 at s8 hq8 hj8 hw8 M8 ⊢
  refine ⟨_, _, rfl, SqT.of hq8, rfl, ?_⟩
  clear s8 hq8 hw7 hj7 M7 nq
  have p1' : pl < exN [f, g] := by rw [hN]; exact p1
  obtain ⟨z, per0, _⟩ := per_mv hx2 p0 p1'
  obtain ⟨y, per, _⟩ := per_st per0 span.toNat
  clear per0
  have hi8 := hw8.ins
  refine ⟨_, _, rfl, _, _, rfl, rfl, ?_⟩
  refine ⟨_, rfl, _, rfl, _, _, _, _, rfl, W, _, "a", pl, span, 4, y, rfl, rfl, rfl, rfl, hw8, hx, sp1, by omega, by omega, per, fun H9 F s9 nF hF => ?_⟩
  have oF : F ∉ [J, C] := hj8.out nF
  have hj9 := hj8.sub s9
  have hw9 := hw8.sub s9
  have M9 := M8.tr s9
  have hi9 := hw9.ins
  clear hi8 s9 hw8 hj8 M8 nF
  refine ⟨_, rfl, W.w, _, _, rfl, hi9, rfl, _, _, _, rfl, W, _, "a", pl, rfl, rfl, rfl, hw9, hx, ?_⟩
  walk_at "re"
  refine ⟨by decide, by decide, fun D hD => lc_val (walk_range (lo := 0) (n := 4)) hD (by decide) (iV ((List.range 4).map (dueF pl f g span.toNat))) rfl (fun _ _ => trivial) (fun i v Ha Hb hi s hy Q' Nx hq' => ?_) fun Ha sa ha => ?_⟩
  · obtain ⟨rfl, rfl⟩ := hy
    have spn : ((span.toNat : Nat) : Int) = span := by omega
    have cc1 : CMul (0 + (i : Int)) span := cmulL (by omega) (by omega)
    have cc2 : CMul ((0 + (i : Int)) * span) g := cmulR (by omega) (by omega)
    have fg : (0 : Int) < f + g := by omega
    refine ⟨rfl, ?_⟩
    walk_at "re"
    refine hq' _ _ Sub.rfl' (iV_get ?_)
    rw [List.getElem?_map, List.getElem?_range hi]
    show some ((pl + (i : Int) * (span.toNat : Int) * g) % (f + g)) = some ((pl + (0 + (i : Int)) * span * g) % (f + g))
    rw [spn, Int.zero_add]
  rw [due_orb fa fb p0 p1] at ha
  have oD : D ∉ [J, C] := hj9.out hD
  have hFa := sa.at hF
  replace hFa : Ha F = some (.lst (iV (orb (fun q => it (mv [f, g] [1, 0]) span.toNat q) pl (min 4 y)))) := hFa
  have hwa := hw9.sub sa
  have hja := hj9.sub sa
  have Ma := M9.tr sa
  clear sa hF hw9 hj9 M9 hi9 hD
  obtain ⟨ag1, ag2⟩ := again per
  have rng := orb_rng hx2 p0 p1' span.toNat (by omega)
  have g0 : atI (iV (orb (fun q => it (mv [f, g] [1, 0]) span.toNat q) pl 4)) 0 = some (.int pl) := atI_nat (iV_get (orb_get (T := fun q => it (mv [f, g] [1, 0]) span.toNat q) (p := pl) (k := 0) (show 0 < 4 by decide)))
  refine ⟨_, rfl, D, _, _, _, rfl, rfl, SqL.of ha, g0, ?_⟩
  walk_at "re"
  intro L nL
  have sL := (Sub.rfl' (G := Ha)).new (o := .lst (cutV (iV (orb (fun q => it (mv [f, g] [1, 0]) span.toNat q) pl 4)) (some 1) none)) nL
  have eL : cutV (iV (orb (fun q => it (mv [f, g] [1, 0]) span.toNat q) pl 4)) (some 1) none = iV ((orb (fun q => it (mv [f, g] [1, 0]) span.toNat q) pl 4).drop 1) := by
    have := cut_from (iV (orb (fun q => it (mv [f, g] [1, 0]) span.toNat q) pl 4)) 1
    rw [← iV_drop] 
    exact this
  rw [eL] at sL ⊢
  refine ⟨L, _, rfl, .inl (SqL.of upd_same), rfl, iV_flat _, ?_⟩
  by_cases y4 : y < 4
  · obtain ⟨j, ej, hj1, hj2⟩ := ag1 y4
    have hin : inV (.int pl) (iV ((orb (fun q => it (mv [f, g] [1, 0]) span.toNat q) pl 4).drop 1)) = true := List.any_eq_true.mpr ⟨_, List.mem_of_getElem? (iV_get hj1), by simp [eqV]⟩
    refine ⟨_, rfl, ifT hin ?_⟩
    walk_at "re"
    intro L2 nL2
    have sL2 := (Sub.rfl' (G := upd Ha L (.lst (iV ((orb (fun q => it (mv [f, g] [1, 0]) span.toNat q) pl 4).drop 1))))).new (o := .lst (cutV (iV (orb (fun q => it (mv [f, g] [1, 0]) span.toNat q) pl 4)) (some 1) none)) nL2
    rw [eL] at sL2 ⊢
    have s12 := sL.tr sL2
    have hL2 : (upd (upd Ha L (.lst (iV ((orb (fun q => it (mv [f, g] [1, 0]) span.toNat q) pl 4).drop 1)))) L2 (.lst (iV ((orb (fun q => it (mv [f, g] [1, 0]) span.toNat q) pl 4).drop 1)))) L2 = some (.lst (iV ((orb (fun q => it (mv [f, g] [1, 0]) span.toNat q) pl 4).drop 1))) := upd_same
    generalize upd (upd Ha L (.lst (iV ((orb (fun q => it (mv [f, g] [1, 0]) span.toNat q) pl 4).drop 1)))) L2 (.lst (iV ((orb (fun q => it (mv [f, g] [1, 0]) span.toNat q) pl 4).drop 1))) = Hb at s12 hL2 ⊢
    clear sL2 sL
    refine ⟨tyL hL2, _, rfl, D, _, _, _, rfl, rfl, SqL.of (s12.at ha), g0, ?_⟩
    refine ⟨L2, _, _, j, _, rfl, rfl, SqL.of hL2, rfl, iV_flat _, iV_get hj1, by simp [eqV], fun m v hm hv => ?_, ?_⟩
    · obtain ⟨x, hx, rfl⟩ := iV_inv hv
      simp [eqV, hj2 m x hm hx]
    have eN : (1 : Int) + (j : Int) = ((1 + j : Nat) : Int) := by omega
    refine ⟨_, _, rfl, rfl, _, rfl, D, _, rfl, SqL.of (s12.at ha), fun L3 nL3 => ?_⟩
    have e8 : cutV (iV (orb (fun q => it (mv [f, g] [1, 0]) span.toNat q) pl 4)) none (some ((1 : Int) + (j : Int))) = iV (orb (fun q => it (mv [f, g] [1, 0]) span.toNat q) pl (min 4 y)) := by
      rw [eN, cut_to, iV_take, orb_take, ej]; congr 2; omega
    have s3 := (Sub.rfl' (G := Hb)).new (o := .lst (cutV (iV (orb (fun q => it (mv [f, g] [1, 0]) span.toNat q) pl 4)) none (some ((1 : Int) + (j : Int))))) nL3
    have hD1 : (upd Hb L3 (.lst (cutV (iV (orb (fun q => it (mv [f, g] [1, 0]) span.toNat q) pl 4)) none (some ((1 : Int) + (j : Int)))))) L3 = some (.lst (iV (orb (fun q => it (mv [f, g] [1, 0]) span.toNat q) pl (min 4 y)))) := e8 ▸ upd_same
    have s13 := s12.tr s3
    have hF1 := s13.at hFa
    have hw1 := hwa.sub s13
    have hj1 := hja.sub s13
    have M1 := Ma.tr s13
    dsimp only
    generalize upd Hb L3 (.lst (cutV (iV (orb (fun q => it (mv [f, g] [1, 0]) span.toNat q) pl 4)) none (some ((1 : Int) + (j : Int))))) = Hc at hF1 hD1 hw1 hj1 M1 ⊢
    refine ⟨_, rfl, ?_⟩
    refine t_repr (r_repr (dp_iL (SqL.of hF1)) (sm_ints (k := 0) (by rw [orb_len]; omega) (rng _)) (by decide) (by decide) ?_)
    refine ⟨_, rfl, ?_⟩
    refine t_repr (r_repr (dp_iL (SqL.of hD1)) (sm_ints (k := 0) (by rw [orb_len]; omega) (rng _)) (by decide) (by decide) ?_)
    refine ⟨rfl, _, rfl, ifT (decide_eq_true rfl) ?_⟩
    refine ⟨_, rfl, _, rfl, _, rfl, _, _, _, _, rfl, W, _, "a", pl, span, y, rfl, rfl, rfl, rfl, hw1, hx, rfl, rfl, sp1, sp2, hend, per, fun Hd G sd hG => ?_⟩
    refine ⟨_, _, dp_iL (SqL.of (sd.at hF1)), dp_iL (SqL.of hG), sh_iL _, sh_iL _, ?_⟩
    rw [eq_iL, decide_eq_true (rfl : orb (fun q => it (mv [f, g] [1, 0]) span.toNat q) pl (min 4 y) = _)]
    exact hq Hd (M1.tr sd) (hj1.sub sd)
  · have hin : inV (.int pl) (iV ((orb (fun q => it (mv [f, g] [1, 0]) span.toNat q) pl 4).drop 1)) = false := List.any_eq_false.mpr fun v hv => by
      obtain ⟨x, hx, rfl⟩ := List.mem_map.mp hv
      simp [eqV, ag2 y4 x hx]
    refine ⟨_, rfl, ifF (by rw [hin]; decide) ?_⟩
    have hF1 := sL.at hFa
    have hD1 := sL.at ha
    have hw1 := hwa.sub sL
    have hj1 := hja.sub sL
    have M1 := Ma.tr sL
    have e4 : min 4 y = 4 := by omega
    rw [← congrArg (fun k => iV (orb (fun q => it (mv [f, g] [1, 0]) span.toNat q) pl k)) e4] at hD1
    generalize upd Ha L (.lst (iV ((orb (fun q => it (mv [f, g] [1, 0]) span.toNat q) pl 4).drop 1))) = Hb at hF1 hD1 hw1 hj1 M1 ⊢
    refine ⟨_, rfl, ?_⟩
    refine t_repr (r_repr (dp_iL (SqL.of hF1)) (sm_ints (k := 0) (by rw [orb_len]; omega) (rng _)) (by decide) (by decide) ?_)
    refine ⟨_, rfl, ?_⟩
    refine t_repr (r_repr (dp_iL (SqL.of hD1)) (sm_ints (k := 0) (by rw [orb_len]; omega) (rng _)) (by decide) (by decide) ?_)
    refine ⟨rfl, _, rfl, ifT (decide_eq_true rfl) ?_⟩
    refine ⟨_, rfl, _, rfl, _, rfl, _, _, _, _, rfl, W, _, "a", pl, span, y, rfl, rfl, rfl, rfl, hw1, hx, rfl, rfl, sp1, sp2, hend, per, fun Hd G sd hG => ?_⟩
    refine ⟨_, _, dp_iL (SqL.of (sd.at hF1)), dp_iL (SqL.of hG), sh_iL _, sh_iL _, ?_⟩
    rw [eq_iL, decide_eq_true (rfl : orb (fun q => it (mv [f, g] [1, 0]) span.toNat q) pl (min 4 y) = _)]
    exact hq Hd (M1.tr sd) (hj1.sub sd)
end
end Bt
end
section
set_option Elab.async false
set_option linter.all false
set_option maxRecDepth 100000
set_option maxHeartbeats 2000000
set_option autoImplicit false
namespace Bt
open PySem PySem.Spec PyProof.Rows L2 Rz
/-! ### what is seen of a walker is small -/
theorem ok8_app {a b : PySem.Str} (ha : ∀ c ∈ a.cps.toList, c < 16 ^ 8) (hb : ∀ c ∈ b.cps.toList, c < 16 ^ 8) : ∀ c ∈ (a ++ b).cps.toList, c < 16 ^ 8 := fun c hc => by
  rw [PySem.Str.cps_append, Array.toList_append] at hc
  rcases List.mem_append.mp hc with h | h
  · exact ha c h
  · exact hb c h
theorem sm_tell {n : Int} {m k : Nat} (h0 : 0 ≤ n) (h1 : n ≤ 1000000000000) (hm : m ≤ 4) : Sm (.str (tellS n m)) 200 k := by
  have k1 := lenI (i := n) (by omega) (by omega)
  have k2 := lenI (i := (m : Int)) (by omega) (by omega)
  have k3 := lenI (i := 0) (by omega) (by omega)
  refine Sm.str ?_ ?_
  · unfold tellS
    exact ok8_app (ok8_app (ok8_app (ok8_app (ok8_app (ok8_app (ok8_app (fun c hc => by simp [Str.empty] at hc) (cps_lt _)) (cps_lt _)) (cps_lt _)) (cps_lt _)) (cps_lt _)) (cps_lt _)) (cps_lt _)
  · show (tellS n m).length ≤ 200
    unfold tellS
    simp only [PySem.Str.length_append, lit0, lit1, lit2, lit3]
    omega
theorem lets_sm {x : PySem.Str} {k : Nat} (h : x ∈ lets) : Sm (.str x) 1 k := by
  have key : ∀ s : String, (Str.ofString s).cps.size ≤ 1 → Sm (.str (Str.ofString s)) 1 k := fun s hs => Sm.str (cps_lt s) hs
  have h' : x ∈ [Str.ofString "a", Str.ofString "b", Str.ofString "c", Str.ofString "d"] := h
  simp only [List.mem_cons, List.not_mem_nil, or_false] at h'
  rcases h' with rfl | rfl | rfl | rfl
  · exact key _ (by decide +kernel)
  · exact key _ (by decide +kernel)
  · exact key _ (by decide +kernel)
  · exact key _ (by decide +kernel)
theorem sm_seen {D : WD} (h : WOk0 D) (hl : ∀ x ∈ D.ms, x.1 ∈ lets) : Sm (seenD D) 190000 4 := by
  have l4 := h.ml
  have l6 := h.ok.len
  have le := h.ok.le
  have s0 := sum_pos h.ok
  have lo := h.ok.lenO
  have ex := exN_sum D.ls
  have pr : ∀ x ∈ D.ms, 0 ≤ x.2 ∧ x.2 ≤ 1000000000000 := fun x hx => by
    have := h.pl x hx
    omega
  have lr : ∀ x ∈ D.ls, -1000000000000000000 ≤ x ∧ x ≤ 1000000000000000000 := fun x hx => by
    have := h.ok.pos x hx
    have := sum_le_of D.ls x h.ok.pos hx
    omega
  have or_ : ∀ x ∈ D.od.map (fun n : Nat => (n : Int)), -1000000000000000000 ≤ x ∧ x ≤ 1000000000000000000 := fun x hx => by
    obtain ⟨n, hn, rfl⟩ := List.mem_map.mp hx
    have := h.ok.lt n hn
    omega
  have mr : ∀ x ∈ D.ms.map (·.2), -1000000000000000000 ≤ x ∧ x ≤ 1000000000000000000 := fun x hx => by
    obtain ⟨y, hy, rfl⟩ := List.mem_map.mp hx
    have := pr y hy
    omega
  unfold seenD
  refine (Sm.list (k := 3) ?_ : Sm _ 190000 4)
  refine SmA.more (SmA.cons (Sm.tuple (k := 2) (SmA.map (w := 200) (k := 2) D.ms fun x hx => ?_)) (SmA.cons (Sm.int (by decide) (by decide)) (SmA.cons (Sm.int (by omega) (by omega)) (SmA.cons (Sm.tuple (k := 2) SmA.nil) (SmA.cons (Sm.int (by decide) (by decide)) (SmA.cons (sm_tell s0 le l4)
    (SmA.cons (Sm.tuple (k := 2) (SmA.cons (sm_intsT (k := 1) (by omega) lr) (SmA.cons (sm_intsT (k := 1) (by rw [List.length_map]; omega) or_) SmA.nil))) (SmA.cons ((sm_ints (k := 1) (by rw [List.length_map]; omega) mr).more (Nat.le_refl _) (by decide)) SmA.nil)))))))) (by omega) (Nat.le_refl _)
  have := pr x hx
  exact (Sm.tuple (k := 1) (SmA.cons (lets_sm (hl x hx)) (SmA.cons (Sm.int (by omega) (by omega)) SmA.nil))).more (by omega) (Nat.le_refl _)
section
variable {P : Program} {w : World} {K : PySem.W.Frag} {mg : PySem.Str → Option Value} {base : Heap}
local macro_rules | `(tactic| walk_at "sd") => `(tactic| first
  | rfl | assumption
  | exact Sub.at ‹Sub _ _› (by assumption)
  | exact SqL.of (by assumption) | exact SqT.of (by assumption) | exact SqL.of (Sub.at ‹Sub _ _› (by assumption)) | exact SqT.of (Sub.at ‹Sub _ _› (by assumption))
  | exact Or.inl (SqL.of (by assumption)) | exact Or.inr (SqT.of (by assumption)) | exact Or.inl (SqL.of (Sub.at ‹Sub _ _› (by assumption))) | exact Or.inr (SqT.of (Sub.at ‹Sub _ _› (by assumption)))
  | exact ClsV.ty _ | exact TyX.base (.int _) | exact TyX.base (.str _) | exact TyX.base (.tup (by assumption)) | exact kit_int | exact kit_ib | exact kit_ss | exact kit_tt)
local macro_rules | `(tactic| walk_at "rd1") => `(tactic| first
  | (apply Exists.intro)
  | (refine And.intro ?_ ?_; (focus (walk_at "sd")))
  | (refine L2.iteT ?_)
  | (refine L2.iteF ?_))
local macro_rules | `(tactic| walk_at "rd") => `(tactic| repeat (walk_at "rd1"))
local macro_rules | `(tactic| walk_at "se") => `(tactic| first
  | rfl | assumption
  | exact Sub.at ‹Sub _ _› (by assumption)
  | exact SqL.of (by assumption) | exact SqT.of (by assumption) | exact SqL.of (Sub.at ‹Sub _ _› (by assumption)) | exact SqT.of (Sub.at ‹Sub _ _› (by assumption))
  | exact Or.inl (SqL.of (by assumption)) | exact Or.inr (SqT.of (by assumption)) | exact Or.inl (SqL.of (Sub.at ‹Sub _ _› (by assumption))) | exact Or.inr (SqT.of (Sub.at ‹Sub _ _› (by assumption)))
  | exact TRaw.ins ‹TRaw _ _ _ _ _› | exact TA.miss
  | exact TRaw.n ‹TRaw _ _ _ _ _›
  | exact TRaw.z ‹TRaw _ _ _ _ _›
  | exact TRaw.d ‹TRaw _ _ _ _ _›
  | exact TRaw.r ‹TRaw _ _ _ _ _›
  | exact TRaw.f ‹TRaw _ _ _ _ _›
  | exact TRaw.l ‹TRaw _ _ _ _ _›
  | exact TRaw.u ‹TRaw _ _ _ _ _›
  | exact TRaw.w ‹TRaw _ _ _ _ _› | exact TRaw.a ‹TRaw _ _ _ _ _› rfl
  | exact SqL.of (TRaw.n ‹TRaw _ _ _ _ _›)
  | exact SqL.of (TRaw.z ‹TRaw _ _ _ _ _›)
  | exact SqL.of (TRaw.d ‹TRaw _ _ _ _ _›)
  | exact SqL.of (TRaw.r ‹TRaw _ _ _ _ _›)
  | exact SqL.of (TRaw.f ‹TRaw _ _ _ _ _›)
  | exact SqL.of (TRaw.l ‹TRaw _ _ _ _ _›)
  | exact SqL.of (TRaw.u ‹TRaw _ _ _ _ _›)
  | exact SqL.of (TRaw.w ‹TRaw _ _ _ _ _›) | exact SqL.of (TRaw.a ‹TRaw _ _ _ _ _› rfl)
  | exact ClsV.ty _ | exact TyX.base (.int _) | exact TyX.base (.str _) | exact TyX.base (.tup (by assumption)) | exact kit_int | exact kit_ib | exact kit_ss | exact kit_tt)
local macro_rules | `(tactic| walk_at "re1") => `(tactic| first
  | (apply Exists.intro)
  | (refine And.intro ?_ ?_; (focus (walk_at "se")))
  | (refine L2.iteT ?_)
  | (refine L2.iteF ?_))
local macro_rules | `(tactic| walk_at "re") => `(tactic| repeat (walk_at "re1"))

theorem sc_law : FnScope ["_law_script", "_law_jar_here", "_law_turn", "_law_walker", "_law_exchange", "_law_moved_here", "_law_now", "_law_shown"] ["_law_script"] (defScope s_law) := ⟨rfl, rfl, rfl, by decide +kernel, rfl, by decide +kernel, by decide +kernel⟩
abbrev sp_law (K : PySem.W.Frag) : Sp := P1 fun a H Q => ∃ (S : Addr) (xs : List Int), a = .ref S ∧ SqL K H S (iV xs) ∧ xs.length ≤ 1000 ∧ ∀ H', Q (.bl true) H'
theorem ok_law (T : Tx K mg) : GdG P w K mg base 15 "law" ["_law_script"] (sp_law K) := by
  refine mkdG T.F_law T.g_law sc_law P1.ar (fun _ _ _ _ _ _ us hl => match us, hl with | [_], _ => rfl) fun cdv A0 outer s0 H vs Q E hr hgA h => ?_
  obtain ⟨_, rfl, S, xs, rfl, hS, hn, hq⟩ := h
  refine ⟨_, (pss_cons (ps_set (i := 1) sc_law.nd rfl (by first | exact .inl rfl | exact .inr rfl) (cl (ok_law_jar T) hr (pa_cons (pv 0) pa_nil)))
  (pss_cons (ps_for PassesOwn.never rfl (pi_range1 rfl T.n_range (pa_cons pe_int pa_nil)) (pg_name (i := 2) sc_law.nd rfl (by first | exact .inl rfl | exact .inr rfl)) (pss_cons (ps_asg (cl (ok_law_begun T) hr (pa_cons (pv 1) (pa_cons (pe_ix ix_list (pe_lst (pa_cons pe_int (pa_cons pe_int pa_nil))) (pe_op op_mod (pv 2) pe_int) (fun _ _ => rfl)) pa_nil))) (pg_unl rfl (pgs_cons (pg_name (i := 3) sc_law.nd rfl (by first | exact .inl rfl | exact .inr rfl)) (pgs_cons (pg_name (i := 4) sc_law.nd rfl (by first | exact .inl rfl | exact .inr rfl)) (pgs_cons (pg_name (i := 5) sc_law.nd rfl (by first | exact .inl rfl | exact .inr rfl)) (pgs_cons (pg_name (i := 6) sc_law.nd rfl (by first | exact .inl rfl | exact .inr rfl)) pgs_nil))))))
  (pss_cons (ps_set (i := 7) sc_law.nd rfl (by first | exact .inl rfl | exact .inr rfl) (pe_callB (cr_repr (deeper_g hgA) hr.units) rfl T.n_repr (by decide +kernel) (pa_cons (cl (ok_law_seen T) hr (pa_cons (pv 3) pa_nil)) pa_nil)))
  (pss_one (ps_if (PW.pt (pw_or (pt_not (pt_val (clG (ok_law_small_right T) hr (deeper_g hgA) (pa_cons (pv 1) (pa_cons (pv 3) (pa_cons (pv 5) pa_nil)))))) (pw_or1 (pt_cmpR op_ne (pe_callB (cr_repr (deeper_g hgA) hr.units) rfl T.n_repr (by decide +kernel) (pa_cons (cl (ok_law_seen T) hr (pa_cons (pv 3) pa_nil)) pa_nil)) (pv 7) (nomark _))))) (pss_one (ps_ret pe_bl)) pss_nil)))))
  (pss_one (ps_ret (pe_and (clG (ok_law_far_right T) hr (deeper_g hgA) (pa_cons (pv 1) pa_nil)) (pe_one (clG (ok_law_far_right T) hr (deeper_g hgA) (pa_cons (pv 1) pa_nil)))))))), ?_⟩
  refine ⟨_, rfl, _, rfl, S, xs, rfl, hS, hn, fun H1 J C s1 hj1 nJ nC => ?_⟩
  walk_at "re"
  refine ⟨by decide, by decide, for_it (walk_range (lo := 0) (n := 4)) (fun i σ H' => Bx (∃ o2 o3 o4 o5 o6 o7 : Option V, σ = [some (.ref S), some (.ref J), o2, o3, o4, o5, o6, o7] ∧ Jar H' J C))
    ⟨_, _, _, _, _, _, rfl, hj1⟩ (fun _ _ _ _ _ => trivial) (fun i v σ Ha Hb hi h hy => ?_) fun σ Ha h => ?_⟩
  · obtain ⟨o2, o3, o4, o5, o6, o7, rfl, ja⟩ := h.o
    obtain ⟨rfl, rfl⟩ := hy
    obtain ⟨m, hm, m6, m40⟩ : ∃ m : Int, atI (iV [40, 9]) ((0 + (i : Int)) % 2) = some (.int m) ∧ 6 ≤ m ∧ m ≤ 40 := by
      match i, hi with
      | 0, _ => exact ⟨40, rfl, by decide, by decide⟩
      | 1, _ => exact ⟨9, rfl, by decide, by decide⟩
      | 2, _ => exact ⟨40, rfl, by decide, by decide⟩
      | 3, _ => exact ⟨9, rfl, by decide, by decide⟩
    have two : (0 : Int) < 2 := by decide
    refine ⟨_, rfl, by show 2 ≤ sizeLine; decide, fun L nL => ?_⟩
    have sL := (Sub.rfl' (G := Hb)).new (o := .lst (iV [40, 9])) nL
    have jL := ja.sub sL
    refine ⟨_, rfl, _, _, rfl, rfl, two, ?_⟩
    refine ⟨L, _, _, _, rfl, rfl, SqL.of upd_same, hm, ?_⟩
    refine ⟨_, _, rfl, J, C, m, rfl, rfl, jL, m6, m40, fun H2 R Z W D M m2 j2 hR hw ht htm hkn hle hlets => ?_⟩
    refine ⟨_, _, rfl, SqL.of hR, rfl, ?_⟩
    refine ⟨_, _, rfl, _, _, rfl, _, _, rfl, _, _, rfl, rfl, ?_⟩
    have k2 : Kept K J C M W D H2 := ⟨j2, hw, ht⟩
    clear hw ht j2 m2 hR
    refine ⟨_, rfl, _, rfl, W, D, rfl, k2.wk, htm, hkn, fun H3 F s3 hF => ?_⟩
    have sm := sm_seen k2.wk.ok hlets
    refine t_repr (r_repr hF sm (by decide) (by decide) ?_)
    have k3 := k2.sub s3
    refine ⟨_, rfl, _, rfl, _, rfl, _, _, _, rfl, J, C, W, D, M, rfl, rfl, rfl, k3, htm, hkn, by omega, fun H4 s4 j4 => ?_⟩
    have k4 := k3.go s4 j4
    refine ⟨_, rfl, ifF (by decide) ?_⟩
    refine ⟨_, rfl, _, rfl, W, D, rfl, k4.wk, htm, hkn, fun H5 G s5 hG => ?_⟩
    refine t_repr (r_repr hG sm (by decide) (by decide) ?_)
    refine ⟨_, rfl, rfl, _, rfl, ifF (by simp) ?_⟩
    exact ⟨_, _, _, _, _, _, rfl, (k4.sub s5).jar⟩
  · obtain ⟨o2, o3, o4, o5, o6, o7, rfl, ja⟩ := h.o
    refine ⟨_, rfl, _, rfl, J, C, rfl, ja, fun Hb sb jb => ?_⟩
    refine ⟨_, rfl, ifT rfl ?_⟩
    exact ⟨_, rfl, _, rfl, J, C, rfl, jb, fun Hc sc jc => hq Hc⟩
end
end Bt
end
section
set_option Elab.async false
set_option linter.all false
set_option maxRecDepth 100000
set_option maxHeartbeats 2000000
set_option autoImplicit false
namespace Bt
open PySem PySem.Spec PyProof.Rows L2
/-! ### the law's call where no repr is under way -/
section
variable {P : Program} {w : World} {K : PySem.W.Frag} {mg mb : PySem.Str → Option Value} {k : Nat} {fa a : Addr} {x0 x : PySem.Str} {sp : Sp} {s : Shared} {oS : Obj} {xs : List V}
abbrev Good1 (s : Shared) (r : Result) (s' : Shared) : Prop := r = .ok (.ret (.bool true)) ∧ OldK s.heap s'.heap ∧ s'.os = s.os ∧ AllBare s'.gens
/-- from a heap that knows at most the script, and that as frozen -/
theorem end_core {H : Hp} (gen : ∀ base : Heap, K.In base → base.Ns mainGlobals mg → GdG P w K mg base k x0 [x] sp) (hx0 : mg x0 = some (.ref fa)) (inK : K.In s.heap) (nsG : s.heap.Ns mainGlobals mg) (nsB : s.heap.Ns builtinsNs mb)
    (boot : ∀ y : PySem.Str, y ≠ "__name__" → mb y = bootBuiltins y) (noL : s.heap.NoLimit) (noG : s.gens = #[]) (room : Room k callerA)
    (only : ∀ b u, H b = some u → b = a ∧ u = .frz oS (.lst xs)) (alien : ∀ u, H a = some u → K.lookup a = none) (ho : s.heap.get? a = some oS) (hseq : ∃ its n, oS.data = .seq its n) (hok : HOk P w H s.heap)
    (q : sp [.ref a] H (fun v _ => v = .bl true) fun _ _ _ => False) : codeAny (model P w) callerA (.call (.ref fa) ⟨[.ref a], []⟩) (Good1 s) s := by
  have free : ∀ {b : Addr}, (∀ u, H b = some u → False) → H b = none := fun {b} h => by
    cases e : H b with
    | none => rfl
    | some u => exact (h u e).elim
  have kept : ∀ {b : Addr} {m : PySem.Str → Option Value}, s.heap.Ns b m → (hidT s.heap H).Ns b m := fun {b m} ⟨o, es, ep, e, d, r⟩ => ⟨o, es, ep, hidT_get e (free fun u hu => by
    obtain ⟨rfl, _⟩ := only b u hu
    obtain ⟨its, n, ds⟩ := hseq
    rw [ho] at e
    cases e
    rw [d] at ds
    cases ds), d, r⟩
  have inB : K.In (hidT s.heap H) := fun b o e => hidT_get (inK b o e) (free fun u hu => by
    obtain ⟨rfl, _⟩ := only b u hu
    rw [alien u hu] at e
    cases e)
  have nolB : (hidT s.heap H).NoLimit := let ⟨mc, h1, h2⟩ := noL; ⟨mc, kept h1, h2⟩
  obtain ⟨f, fd, F, gm, _, _, bind⟩ := (gen _ inB (kept nsG)).ex
  obtain rfl : fa = f := by
    have := hx0.symm.trans gm
    cases this
    rfl
  have env : Env0 P w K mg (hidT s.heap H) callerA [] s H := ⟨rfl, ⟨inB, kept nsG, ⟨mb, kept nsB, boot⟩, nolB⟩, fun b o e => of_hidT e, Nat.le_of_eq (hidT_size _ _), trivial, fun b hb => (by cases hb), hok, .of_eq noG⟩
  refine codeAny_mono (F.run callerA [] s H ⟨[.ref a], []⟩ [.ref a] [.ref a] _ _ room rfl env (bind s [.ref a] rfl) (.cons rfl .nil) q) fun r s' h => ?_
  match r, h with
  | .error e, h => exact False.elim h
  | .ok .next, h => exact False.elim h
  | .ok .brk, h => exact False.elim h
  | .ok .cont, h => exact False.elim h
  | .ok (.ret u), h =>
    obtain ⟨v, H', os, bare, un, hok', rv, hv⟩ := h
    obtain rfl : v = .bl true := hv
    obtain rfl : u = Value.bool true := rv
    refine ⟨rfl, OldK.of_keep fun b o e => ?_, os, bare⟩
    cases hb : H b with
    | none => exact un.keep b o e hb (fun z => by cases z) (fun z => by cases z)
    | some y =>
      obtain ⟨rfl, rfl⟩ := only b y hb
      obtain ⟨e1, _⟩ := hok' b _ (un.frzs b _ _ hb)
      rw [ho] at e
      cases e
      exact e1
end
theorem nums_vals : ∀ {vs : List Value} {ns : List Int}, IntsAre vs ns → Vals (ns.map V.int) vs
  | _, _, .nil => .nil
  | _, _, .cons _ t r => .cons ⟨t, rfl⟩ (nums_vals r)
/-- .. so the walk that the head asks for -/
theorem walk_g {l : PySem.W.OpenLaw} {n k : Nat} {q : Program} {loose : List PySem.Str} {XP : (PySem.Str → Option Value) → Heap → Prop} {YP : World → Heap → Prop} {d : DefRec} {x : PySem.Str}
    (hn : l.most = some n) (hn2 : n ≤ sizeLine) (hdf : d.params.defaults = []) (room : Room k callerA)
    (F : ∀ (w : World) (mg : PySem.Str → Option Value) (fa : Addr) (h : Heap), YP w h → h.Ns mainGlobals mg → mg d.name = some (.ref fa) →
      ∃ (K : PySem.W.Frag) (x0 : PySem.Str) (sp : Sp), K.In h ∧ mg x0 = some (.ref fa) ∧ (∀ (H : Hp) (a : Addr) (ns : List Int), ns.length ≤ n → SqL K H a (ns.map V.int) → sp [.ref a] H (fun v _ => v = .bl true) fun _ _ _ => False) ∧
        ∀ base : Heap, K.In base → base.Ns mainGlobals mg → GdG l.prog w K mg base k x0 [x] sp) :
    PySem.W.WalkO q loose XP YP l.row.toRowW d [] (fun f vs => PySem.call f vs) := by
  refine Att.attach_call hn hdf fun w s0 s mg mb fa o pm cd doc a vs ns G Y ho hd hcd hmg ha hi hl hg => ?_
  obtain ⟨K, x0, sp, inK, hx0, hsp, gen⟩ := F w mg fa _ Y G.T.g hmg
  have rv := nums_vals hi
  have ll : ns.length = vs.length := hi.length.symm
  have lx : (ns.map V.int).length ≤ sizeLine := by rw [List.length_map]; omega
  cases hk : K.lookup a with
  | some oa =>
    have e := inK a oa hk
    rw [ha] at e
    cases e
    exact end_core (H := fun _ => none) (xs := []) gen hx0 inK G.T.g G.T.b G.T.builtins G.T.nolimit hg room (fun b u z => by cases z) (fun u z => by cases z) ha ⟨_, _, rfl⟩ (fun b u z => by cases z)
      (hsp _ a ns hl (.inr ⟨_, vs.toArray, _, hk, rfl, rfl, rfl, by rw [List.size_toArray]; omega, by simpa using rv⟩))
  | none =>
    refine end_core (H := fun b => if b = a then some (.frz { cls := .type "list", data := .seq vs.toArray } (.lst (ns.map V.int))) else none) (xs := ns.map V.int) gen hx0 inK G.T.g G.T.b G.T.builtins G.T.nolimit hg room (fun b u z => ?_) (fun _ _ => hk) ha ⟨_, _, rfl⟩ (fun b u z => ?_) (hsp _ a ns hl (.inl (.inr ⟨_, if_pos rfl⟩)))
    · by_cases c : b = a
      · rw [if_pos c] at z
        cases z
        exact ⟨c, rfl⟩
      · rw [if_neg c] at z
        cases z
    · replace z : (if b = a then some (HO.frz { cls := .type "list", data := .seq vs.toArray } (.lst (ns.map V.int))) else none) = some u := z
      by_cases c : b = a
      · rw [if_pos c] at z
        cases z
        subst c
        exact ⟨ha, lx, vs, _, rv, ha⟩
      · rw [if_neg c] at z
        cases z
end Bt
end
set_option Elab.async false
set_option linter.all false
set_option maxRecDepth 100000
open PySem PySem.W PySem.Calls PyProof.Rows in
set_option maxRecDepth 100000 in
set_option maxHeartbeats 0 in
theorem PySem.Challenge.cw_blockturns_k64_whole_walks_holds : PySem.Challenge.rw_blockturns_k64_whole_walks.Holds := by
  w_on; o_law
  refine HandSHeadRun.head_any (r := Bt.R) (q := view Bt.R.prog [Bt.lawIx]) (H := Bt.hk) (ob := Bt.ob) (M := 6000) (loose := Bt.loose) (d := HandSHeadRun.topDef Bt.R.prog Bt.lawIx) (kwd := []) Bt.ob_eq
    (by kernel_rfl) (fun s => by kernel_rfl) Bt.run (by kernel_rfl) (by kernel_rfl) (by kernel_rfl) (by rfl) (by first | assumption | decide +kernel) (by decide +kernel) ⟨rfl, rfl, rfl, rfl, rfl, by decide +kernel⟩ ?hw ?hc
  case hw => w_witness2
  case hc =>
    refine Bt.walk_g (l := PySem.Challenge.rw_blockturns_k64_whole_walks) (n := 63) (k := 15) (x := "_law_script") rfl (by decide) (by kernel_rfl) ⟨rfl, by decide, by decide⟩ ?F
    intro w mg fa h Y G hmg0
    obtain ⟨K, inK, c⟩ := Y
    have hmg : mg ("law" : PySem.Str) = some (.ref fa) := by
      have e : (HandSHeadRun.topDef Bt.R.prog Bt.lawIx).name = ("law" : PySem.Str) := by kernel_rfl
      rw [← e]
      exact hmg0
    exact ⟨K, "law", Bt.sp_law K, inK, hmg, fun H a ns hl hS => ⟨_, rfl, a, ns, rfl, hS, by omega, fun _ => rfl⟩, fun base inB nsB => Bt.ok_law ⟨c, base, inB, nsB⟩⟩
