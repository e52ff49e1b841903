/- A part of the proof: the texts Te Pb1 Pb2 Pb3 Tn Rw0. -/
import Derived.Test.YtopjfnbonjmnjaaGreatDoorBpC
import Derived.KernelRfl
import Derived.Laws.BitsLemmas
import Derived.Laws.Closers25
import Derived.Test.YtopjfnbonjmnjaaGreatDoorRows
import Derived.Test.YtopjfnbonjmnjaaGreatDoorTie
import Derived.ProofKit
import Derived.LaidMore
import Derived.OpenShut
import Derived.Stop.Joined
import Derived.SizedLaws
import Derived.Carry
namespace Go.Pv.T
open Go Go.Pv

/-- deemster/deemsterlaw41.BoundProducts -/
def F4 : AF :=
  ⟨.seq (.region [
     ⟨(some 2), .mov (.c (.bool false)), none, false⟩])
   (.seq (.region [
      ⟨(some 7), .mov (.t 0), none, false⟩,
      ⟨(some 8), .mov (.t 0), none, false⟩,
      ⟨(some 9), .lenSl (.t 8), none, false⟩,
      ⟨(some 10), .minmax false [(.t 9), (.c (.int .i64 200))], none, false⟩,
      ⟨(some 11), .slSl 1 (.t 7) none (some (.t 10)), none, false⟩,
      ⟨(some 12), .call 18 [(.t 11)], none, false⟩,
      ⟨(some 0), .mov (.t 12), none, false⟩])
    (.seq (.region [
       ⟨(some 14), .mov (.t 0), none, false⟩,
       ⟨(some 15), .call 18 [(.t 14)], none, false⟩,
       ⟨(some 16), .call 19 [(.t 15)], none, false⟩,
       ⟨(some 13), .mov (.t 16), none, false⟩,
       ⟨(some 17), .extract (.t 13) 0, none, false⟩,
       ⟨(some 18), .extract (.t 13) 1, none, false⟩,
       ⟨(some 3), .mov (.t 17), none, false⟩,
       ⟨(some 4), .mov (.t 18), none, false⟩])
     (.seq (.region [
        ⟨(some 20), .mov (.t 0), none, false⟩,
        ⟨(some 21), .call 20 [(.t 20)], none, false⟩,
        ⟨(some 19), .mov (.t 21), none, false⟩,
        ⟨(some 22), .extract (.t 19) 0, none, false⟩,
        ⟨(some 23), .extract (.t 19) 1, none, false⟩,
        ⟨(some 5), .mov (.t 22), none, false⟩,
        ⟨(some 6), .mov (.t 23), none, false⟩])
      (.seq (.region [
         ⟨(some 24), .mov (.t 3), none, false⟩,
         ⟨(some 25), .mov (.t 5), none, false⟩,
         ⟨(some 26), .bin .eql (.t 24) (.t 25), none, false⟩,
         ⟨(some 27), .mov (.t 26), none, false⟩,
         ⟨(some 28), .mov (.t 4), (some (27, true)), false⟩,
         ⟨(some 29), .mov (.t 6), (some (27, true)), false⟩,
         ⟨(some 30), .bin .eql (.t 28) (.t 29), (some (27, true)), false⟩,
         ⟨(some 31), .pick (.t 27) (.t 30) (.c (.bool false)), none, false⟩,
         ⟨(some 32), .mov (.t 31), none, false⟩,
         ⟨(some 33), .call 17 [], (some (32, true)), false⟩,
         ⟨(some 34), .pick (.t 32) (.t 33) (.c (.bool false)), none, false⟩,
         ⟨(some 2), .mov (.t 34), none, false⟩])
       (.ret))))), [.t 2]⟩

/-- deemster/bound.Of -/
def F15 : AF :=
  ⟨.seq (.region [
     ⟨(some 2), .box 3 (.t 0), none, false⟩,
     ⟨(some 4), .mov (.c (.int .i64 0)), none, false⟩,
     ⟨(some 5), .mov (.c (.int .i64 0)), none, false⟩])
   (.seq (.region [
      ⟨(some 13), .load (some 3) (.t 2), none, false⟩,
      ⟨(some 14), .mov (.t 1), none, false⟩,
      ⟨(some 15), .call 59 [(.t 13), (.t 14)], none, false⟩,
      ⟨(some 12), .mov (.t 15), none, false⟩,
      ⟨(some 16), .extract (.t 12) 0, none, false⟩,
      ⟨(some 17), .extract (.t 12) 1, none, false⟩,
      ⟨(some 6), .alloc [(.sl none true 0 []), (.sl none true 0 []), (.sl none true 0 [])], none, false⟩,
      ⟨none, .store 3 (.t 6) (.t 16), none, false⟩,
      ⟨(some 7), .mov (.t 17), none, false⟩])
    (.seq (.seq (.region [
        ⟨(some 18), .mov (.t 7), none, false⟩,
        ⟨(some 19), .bin .neq (.t 18) (.c (.int .i64 0)), none, false⟩])
      (.cond (.t 19) (.seq (.region [
          ⟨(some 20), .mov (.t 7), none, false⟩,
          ⟨(some 4), .mov (.c (.int .i64 0)), none, false⟩,
          ⟨(some 5), .mov (.t 20), none, false⟩])
        (.ret))
       (.skip)))
     (.seq (.draw [
        ⟨(some 21), .load (some 3) (.t 6), none, false⟩,
        ⟨(some 22), .call 23 [(.t 21)], none, false⟩,
        ⟨(some 23), .fieldAddr 2 (.t 6), none, false⟩,
        ⟨(some 24), .load none (.t 23), none, false⟩,
        ⟨(some 25), .lenSl (.t 24), none, false⟩,
        ⟨(some 8), .mov (.t 22), none, false⟩,
        ⟨(some 9), .mov (.t 25), none, false⟩] [])
      (.seq (.region [
         ⟨(some 26), .buildSl false 1 [(.int .i64 0)] [(0, 1, (.c (.int .i64 2)))] 1, none, false⟩,
         ⟨(some 27), .load (some 3) (.t 6), none, false⟩,
         ⟨(some 28), .call 61 [(.t 27)], none, false⟩,
         ⟨(some 29), .lenSl (.t 28), none, false⟩,
         ⟨(some 30), .call 60 [(.t 26), (.t 29)], none, false⟩,
         ⟨(some 10), .mov (.t 30), none, false⟩])
       (.seq (.region [
          ⟨(some 31), .mov (.t 10), none, false⟩,
          ⟨(some 32), .mov (.t 8), none, false⟩,
          ⟨(some 33), .bin .add (.t 32) (.c (.int .i64 2)), none, false⟩,
          ⟨(some 34), .buildSl false 1 [(.int .i64 0)] [(0, 1, (.t 33))] 1, none, false⟩,
          ⟨(some 35), .load (some 3) (.t 6), none, false⟩,
          ⟨(some 36), .call 62 [(.t 35)], none, false⟩,
          ⟨(some 37), .lenSl (.t 36), none, false⟩,
          ⟨(some 38), .call 60 [(.t 34), (.t 37)], none, false⟩,
          ⟨(some 39), .append false 1 8 (.t 31) (.t 38), none, false⟩,
          ⟨(some 10), .mov (.t 39), none, false⟩])
        (.seq (.region [
           ⟨(some 40), .mov (.t 10), none, false⟩,
           ⟨(some 41), .mov (.t 8), none, false⟩,
           ⟨(some 42), .bin .add (.t 41) (.c (.int .i64 1)), none, false⟩,
           ⟨(some 43), .buildSl false 1 [(.int .i64 0)] [(0, 1, (.t 42))] 1, none, false⟩,
           ⟨(some 44), .load (some 3) (.t 6), none, false⟩,
           ⟨(some 45), .call 63 [(.t 44)], none, false⟩,
           ⟨(some 46), .call 60 [(.t 43), (.t 45)], none, false⟩,
           ⟨(some 47), .append false 1 8 (.t 40) (.t 46), none, false⟩,
           ⟨(some 10), .mov (.t 47), none, false⟩])
         (.seq (.seq (.region [
             ⟨(some 48), .mov (.t 9), none, false⟩,
             ⟨(some 49), .bin .add (.t 48) (.c (.int .i64 1)), none, false⟩,
             ⟨(some 50), .mov (.c (.int .i64 0)), none, false⟩])
           (.block 0 (.loop (.seq (.region [
                ⟨(some 51), .bin .lss (.t 50) (.t 49), none, false⟩])
              (.seq (.cond (.t 51) (.skip)
                (.exit 0))
               (.seq (.block 1 (.seq (.region [
                    ⟨(some 52), .mov (.t 50), none, false⟩,
                    ⟨(some 11), .mov (.t 52), none, false⟩])
                  (.region [
                    ⟨(some 53), .mov (.t 10), none, false⟩,
                    ⟨(some 54), .mov (.t 11), none, false⟩,
                    ⟨(some 55), .bin .add (.t 54) (.c (.int .i64 1)), none, false⟩,
                    ⟨(some 56), .buildSl false 1 [(.int .i64 0)] [(0, 1, (.t 55))] 1, none, false⟩,
                    ⟨(some 57), .append false 1 8 (.t 53) (.t 56), none, false⟩,
                    ⟨(some 10), .mov (.t 57), none, false⟩])))
                (.region [
                  ⟨(some 58), .bin .add (.t 50) (.c (.int .i64 1)), none, false⟩,
                  ⟨(some 50), .mov (.t 58), none, false⟩])))))))
          (.seq (.region [
             ⟨(some 59), .mov (.t 10), none, false⟩,
             ⟨(some 60), .mov (.t 9), none, false⟩,
             ⟨(some 61), .bin .add (.t 60) (.c (.int .i64 1)), none, false⟩,
             ⟨(some 62), .buildSl false 1 [(.int .i64 0)] [(0, 1, (.t 61))] 1, none, false⟩,
             ⟨(some 63), .append false 1 8 (.t 59) (.t 62), none, false⟩,
             ⟨(some 64), .call 19 [(.t 63)], none, false⟩,
             ⟨(some 65), .extract (.t 64) 0, none, false⟩,
             ⟨(some 66), .extract (.t 64) 1, none, false⟩,
             ⟨(some 4), .mov (.t 65), none, false⟩,
             ⟨(some 5), .mov (.t 66), none, false⟩])
           (.ret))))))))), [.t 4, .t 5]⟩

/-- deemster/deemsterlaw41.works -/
def F17 : AF :=
  ⟨.seq (.region [
     ⟨(some 0), .mov (.c (.bool false)), none, false⟩])
   (.seq (.region [
      ⟨(some 7), .call 67 [(.c (.str [98, 101, 103, 105, 110, 32, 115, 10, 105, 110, 102, 111, 32, 115]))], none, false⟩,
      ⟨(some 6), .mov (.t 7), none, false⟩,
      ⟨(some 8), .extract (.t 6) 0, none, false⟩,
      ⟨(some 9), .extract (.t 6) 1, none, false⟩,
      ⟨(some 10), .extract (.t 6) 2, none, false⟩,
      ⟨(some 1), .alloc [(.sl none true 0 []), (.sl none true 0 []), (.sl none true 0 [])], none, false⟩,
      ⟨none, .store 3 (.t 1) (.t 8), none, false⟩,
      ⟨(some 2), .mov (.t 9), none, false⟩,
      ⟨(some 3), .mov (.t 10), none, false⟩])
    (.seq (.region [
       ⟨(some 12), .load (some 3) (.t 1), none, false⟩,
       ⟨(some 13), .call 15 [(.t 12), (.c (.int .i64 1))], none, false⟩,
       ⟨(some 11), .mov (.t 13), none, false⟩,
       ⟨(some 14), .extract (.t 11) 0, none, false⟩,
       ⟨(some 15), .extract (.t 11) 1, none, false⟩,
       ⟨(some 4), .mov (.t 14), none, false⟩,
       ⟨(some 5), .mov (.t 15), none, false⟩])
     (.seq (.region [
        ⟨(some 16), .mov (.t 3), none, false⟩,
        ⟨(some 17), .bin .eql (.t 16) (.c (.int .i64 0)), none, false⟩,
        ⟨(some 18), .mov (.t 17), none, false⟩,
        ⟨(some 19), .mov (.t 5), (some (18, true)), false⟩,
        ⟨(some 20), .bin .eql (.t 19) (.c (.int .i64 0)), (some (18, true)), false⟩,
        ⟨(some 21), .pick (.t 18) (.t 20) (.c (.bool false)), none, false⟩,
        ⟨(some 22), .mov (.t 21), none, false⟩,
        ⟨(some 23), .mov (.t 4), (some (22, true)), false⟩,
        ⟨(some 24), .bin .eql (.t 23) (.c (.int .i64 8)), (some (22, true)), false⟩,
        ⟨(some 25), .pick (.t 22) (.t 24) (.c (.bool false)), none, false⟩,
        ⟨(some 0), .mov (.t 25), none, false⟩])
      (.ret)))), [.t 0]⟩

/-- deemster/deemsterbase.Ints -/
def F18 : AF :=
  ⟨.seq (.region [
     ⟨(some 2), .mov (.c (.sl none true 0 [])), none, false⟩])
   (.seq (.region [
      ⟨(some 3), .buildSl false 1 [] [] 0, none, false⟩,
      ⟨(some 4), .mov (.t 0), none, false⟩,
      ⟨(some 5), .append false 1 8 (.t 3) (.t 4), none, false⟩,
      ⟨(some 2), .mov (.t 5), none, false⟩])
    (.ret)), [.t 2]⟩

/-- deemster/bound.Product -/
def F19 : AF :=
  ⟨.seq (.region [
     ⟨(some 2), .mov (.c (.int .i64 0)), none, false⟩,
     ⟨(some 3), .mov (.c (.int .i64 0)), none, false⟩])
   (.seq (.seq (.region [
       ⟨(some 7), .mov (.t 0), none, false⟩,
       ⟨(some 8), .call 68 [(.t 7), (.c (.fn (.func 69) [] []))], none, false⟩])
     (.cond (.t 8) (.seq (.region [
         ⟨(some 2), .mov (.c (.int .i64 0)), none, false⟩,
         ⟨(some 3), .mov (.c (.int .i64 2)), none, false⟩])
       (.ret))
      (.skip)))
    (.seq (.region [
       ⟨(some 4), .mov (.c (.int .i64 1)), none, false⟩])
     (.seq (.seq (.region [
         ⟨(some 9), .mov (.t 0), none, false⟩,
         ⟨(some 10), .lenSl (.t 9), none, false⟩,
         ⟨(some 11), .mov (.c (.int .i64 0)), none, false⟩])
       (.block 0 (.loop (.seq (.region [
            ⟨(some 12), .bin .lss (.t 11) (.t 10), none, false⟩])
          (.seq (.cond (.t 12) (.skip)
            (.exit 0))
           (.seq (.block 1 (.seq (.region [
                ⟨(some 13), .idxSl 1 (.t 9) (.t 11), none, false⟩,
                ⟨(some 14), .load none (.t 13), none, false⟩,
                ⟨(some 6), .mov (.t 14), none, false⟩])
              (.seq (.seq (.region [
                  ⟨(some 15), .mov (.t 6), none, false⟩,
                  ⟨(some 16), .bin .gtr (.t 15) (.c (.int .i64 0)), none, false⟩,
                  ⟨(some 17), .mov (.t 16), none, false⟩,
                  ⟨(some 18), .mov (.t 4), (some (17, true)), false⟩,
                  ⟨(some 19), .mov (.t 6), (some (17, true)), false⟩,
                  ⟨(some 20), .bin .quo (.c (.int .i64 4611686018427387904)) (.t 19), (some (17, true)), false⟩,
                  ⟨(some 21), .bin .gtr (.t 18) (.t 20), (some (17, true)), false⟩,
                  ⟨(some 22), .pick (.t 17) (.t 21) (.c (.bool false)), none, false⟩])
                (.cond (.t 22) (.seq (.region [
                    ⟨(some 2), .mov (.c (.int .i64 0)), none, false⟩,
                    ⟨(some 3), .mov (.c (.int .i64 6)), none, false⟩])
                  (.ret))
                 (.skip)))
               (.region [
                 ⟨(some 23), .mov (.t 4), none, false⟩,
                 ⟨(some 24), .mov (.t 6), none, false⟩,
                 ⟨(some 25), .bin .mul (.t 23) (.t 24), none, false⟩,
                 ⟨(some 4), .mov (.t 25), none, false⟩]))))
            (.region [
              ⟨(some 26), .bin .add (.t 11) (.c (.int .i64 1)), none, false⟩,
              ⟨(some 11), .mov (.t 26), none, false⟩])))))))
      (.seq (.region [
         ⟨(some 27), .mov (.t 4), none, false⟩,
         ⟨(some 2), .mov (.t 27), none, false⟩,
         ⟨(some 3), .mov (.c (.int .i64 0)), none, false⟩])
       (.ret))))), [.t 2, .t 3]⟩

/-- deemster/deemsterref41.Product -/
def F20 : AF :=
  ⟨.seq (.region [
     ⟨(some 2), .mov (.c (.int .i64 0)), none, false⟩,
     ⟨(some 3), .mov (.c (.int .i64 0)), none, false⟩])
   (.seq (.region [
      ⟨(some 4), .mov (.c (.int .i64 1)), none, false⟩])
    (.seq (.seq (.region [
        ⟨(some 5), .mov (.c (.int .i64 0)), none, false⟩])
      (.block 0 (.loop (.seq (.seq (.region [
            ⟨(some 7), .mov (.t 5), none, false⟩,
            ⟨(some 8), .mov (.t 0), none, false⟩,
            ⟨(some 9), .lenSl (.t 8), none, false⟩,
            ⟨(some 10), .bin .lss (.t 7) (.t 9), none, false⟩])
          (.cond (.t 10) (.skip)
           (.exit 0)))
         (.seq (.block 1 (.seq (.region [
              ⟨(some 13), .mov (.t 0), none, false⟩,
              ⟨(some 14), .mov (.t 5), none, false⟩,
              ⟨(some 15), .idxSl 1 (.t 13) (.t 14), none, false⟩,
              ⟨(some 16), .load none (.t 15), none, false⟩,
              ⟨(some 17), .bin .lss (.t 16) (.c (.int .i64 0)), none, false⟩])
            (.cond (.t 17) (.seq (.region [
                ⟨(some 2), .mov (.c (.int .i64 0)), none, false⟩,
                ⟨(some 3), .mov (.c (.int .i64 2)), none, false⟩])
              (.ret))
             (.skip))))
          (.region [
            ⟨(some 11), .mov (.t 5), none, false⟩,
            ⟨(some 12), .bin .add (.t 11) (.c (.int .i64 1)), none, false⟩,
            ⟨(some 5), .mov (.t 12), none, false⟩]))))))
     (.seq (.seq (.region [
         ⟨(some 6), .mov (.c (.int .i64 0)), none, false⟩])
       (.block 2 (.loop (.seq (.seq (.region [
             ⟨(some 18), .mov (.t 6), none, false⟩,
             ⟨(some 19), .mov (.t 0), none, false⟩,
             ⟨(some 20), .lenSl (.t 19), none, false⟩,
             ⟨(some 21), .bin .lss (.t 18) (.t 20), none, false⟩])
           (.cond (.t 21) (.skip)
            (.exit 2)))
          (.seq (.block 3 (.seq (.seq (.region [
                ⟨(some 24), .mov (.t 0), none, false⟩,
                ⟨(some 25), .mov (.t 6), none, false⟩,
                ⟨(some 26), .idxSl 1 (.t 24) (.t 25), none, false⟩,
                ⟨(some 27), .load none (.t 26), none, false⟩,
                ⟨(some 28), .bin .gtr (.t 27) (.c (.int .i64 0)), none, false⟩,
                ⟨(some 29), .mov (.t 28), none, false⟩,
                ⟨(some 30), .mov (.t 4), (some (29, true)), false⟩,
                ⟨(some 31), .mov (.t 0), (some (29, true)), false⟩,
                ⟨(some 32), .mov (.t 6), (some (29, true)), false⟩,
                ⟨(some 33), .idxSl 1 (.t 31) (.t 32), (some (29, true)), false⟩,
                ⟨(some 34), .load none (.t 33), (some (29, true)), false⟩,
                ⟨(some 35), .bin .quo (.c (.int .i64 4611686018427387904)) (.t 34), (some (29, true)), false⟩,
                ⟨(some 36), .bin .gtr (.t 30) (.t 35), (some (29, true)), false⟩,
                ⟨(some 37), .pick (.t 29) (.t 36) (.c (.bool false)), none, false⟩])
              (.cond (.t 37) (.seq (.region [
                  ⟨(some 2), .mov (.c (.int .i64 0)), none, false⟩,
                  ⟨(some 3), .mov (.c (.int .i64 6)), none, false⟩])
                (.ret))
               (.skip)))
             (.region [
               ⟨(some 38), .mov (.t 4), none, false⟩,
               ⟨(some 39), .mov (.t 0), none, false⟩,
               ⟨(some 40), .mov (.t 6), none, false⟩,
               ⟨(some 41), .idxSl 1 (.t 39) (.t 40), none, false⟩,
               ⟨(some 42), .load none (.t 41), none, false⟩,
               ⟨(some 43), .bin .mul (.t 38) (.t 42), none, false⟩,
               ⟨(some 4), .mov (.t 43), none, false⟩])))
           (.region [
             ⟨(some 22), .mov (.t 6), none, false⟩,
             ⟨(some 23), .bin .add (.t 22) (.c (.int .i64 1)), none, false⟩,
             ⟨(some 6), .mov (.t 23), none, false⟩]))))))
      (.seq (.region [
         ⟨(some 44), .mov (.t 4), none, false⟩,
         ⟨(some 2), .mov (.t 44), none, false⟩,
         ⟨(some 3), .mov (.c (.int .i64 0)), none, false⟩])
       (.ret))))), [.t 2, .t 3]⟩

/-- deemster/writer.Most -/
def F23 : AF :=
  ⟨.seq (.region [
     ⟨(some 1), .box 3 (.t 0), none, false⟩,
     ⟨(some 2), .mov (.c (.int .i64 0)), none, false⟩])
   (.seq (.region [
      ⟨(some 3), .mov (.c (.int .i64 0)), none, false⟩])
    (.seq (.seq (.region [
        ⟨(some 5), .fieldAddr 1 (.t 1), none, false⟩,
        ⟨(some 6), .load none (.t 5), none, false⟩,
        ⟨(some 7), .lenSl (.t 6), none, false⟩,
        ⟨(some 8), .mov (.c (.int .i64 0)), none, false⟩])
      (.block 0 (.loop (.seq (.region [
           ⟨(some 9), .bin .lss (.t 8) (.t 7), none, false⟩])
         (.seq (.cond (.t 9) (.skip)
           (.exit 0))
          (.seq (.block 1 (.seq (.region [
               ⟨(some 10), .mov (.t 8), none, false⟩,
               ⟨(some 4), .mov (.t 10), none, false⟩])
             (.region [
               ⟨(some 11), .mov (.t 3), none, false⟩,
               ⟨(some 12), .load (some 3) (.t 1), none, false⟩,
               ⟨(some 13), .mov (.t 4), none, false⟩,
               ⟨(some 14), .call 72 [(.t 12), (.t 13)], none, false⟩,
               ⟨(some 15), .lenSl (.t 14), none, false⟩,
               ⟨(some 16), .minmax true [(.t 11), (.t 15)], none, false⟩,
               ⟨(some 3), .mov (.t 16), none, false⟩])))
           (.region [
             ⟨(some 17), .bin .add (.t 8) (.c (.int .i64 1)), none, false⟩,
             ⟨(some 8), .mov (.t 17), none, false⟩])))))))
     (.seq (.region [
        ⟨(some 18), .mov (.t 3), none, false⟩,
        ⟨(some 2), .mov (.t 18), none, false⟩])
      (.ret)))), [.t 2]⟩

/-- deemster/erase.By -/
def F59 : AF :=
  ⟨.seq (.region [
     ⟨(some 2), .box 3 (.t 0), none, false⟩,
     ⟨(some 4), .alloc [(.sl none true 0 []), (.sl none true 0 []), (.sl none true 0 [])], none, false⟩,
     ⟨(some 5), .mov (.c (.int .i64 0)), none, false⟩])
   (.seq (.seq (.region [
       ⟨(some 7), .load (some 3) (.t 2), none, false⟩,
       ⟨(some 8), .call 70 [(.t 7)], none, false⟩,
       ⟨(some 6), .mov (.t 8), none, false⟩])
     (.seq (.region [
        ⟨(some 9), .mov (.t 6), none, false⟩,
        ⟨(some 10), .bin .neq (.t 9) (.c (.int .i64 0)), none, false⟩])
      (.cond (.t 10) (.seq (.region [
          ⟨(some 11), .build [(.sl none true 0 []), (.sl none true 0 []), (.sl none true 0 [])] [], none, false⟩,
          ⟨(some 12), .mov (.t 6), none, false⟩,
          ⟨none, .store 3 (.t 4) (.t 11), none, false⟩,
          ⟨(some 5), .mov (.t 12), none, false⟩])
        (.ret))
       (.skip))))
    (.seq (.seq (.region [
        ⟨(some 13), .mov (.t 1), none, false⟩])
      (.block 0 (.seq (.region [
          ⟨(some 15), .bin .eql (.t 13) (.c (.int .i64 1)), none, false⟩,
          ⟨(some 14), .mov (.t 15), none, false⟩])
        (.cond (.t 14) (.seq (.region [
            ⟨(some 16), .load (some 3) (.t 2), none, false⟩,
            ⟨none, .store 3 (.t 4) (.t 16), none, false⟩,
            ⟨(some 5), .mov (.c (.int .i64 0)), none, false⟩])
          (.ret))
         (.seq (.region [
            ⟨(some 18), .bin .eql (.t 13) (.c (.int .i64 2)), none, false⟩,
            ⟨(some 17), .mov (.t 18), none, false⟩])
          (.cond (.t 17) (.seq (.region [
              ⟨(some 19), .load (some 3) (.t 2), none, false⟩,
              ⟨(some 20), .call 98 [(.t 19)], none, false⟩,
              ⟨(some 21), .extract (.t 20) 0, none, false⟩,
              ⟨(some 22), .extract (.t 20) 1, none, false⟩,
              ⟨none, .store 3 (.t 4) (.t 21), none, false⟩,
              ⟨(some 5), .mov (.t 22), none, false⟩])
            (.ret))
           (.skip)))))))
     (.seq (.region [
        ⟨(some 23), .build [(.sl none true 0 []), (.sl none true 0 []), (.sl none true 0 [])] [], none, false⟩,
        ⟨none, .store 3 (.t 4) (.t 23), none, false⟩,
        ⟨(some 5), .mov (.c (.int .i64 2)), none, false⟩])
      (.ret)))), [.cell 4 (some 3), .t 5]⟩

/-- slices.Repeat[[]int,int] -/
def F60 : AF :=
  ⟨.seq (.region [
     ⟨(some 4), .mov (.c (.sl none true 0 [])), none, false⟩])
   (.seq (.seq (.region [
       ⟨(some 9), .mov (.t 1), none, false⟩,
       ⟨(some 10), .bin .lss (.t 9) (.c (.int .i64 0)), none, false⟩])
     (.cond (.t 10) (.region [
        ⟨(some 11), .iface 9 (.c (.str [99, 97, 110, 110, 111, 116, 32, 98, 101, 32, 110, 101, 103, 97, 116, 105, 118, 101])), none, false⟩,
        ⟨none, .stuck, none, false⟩])
      (.skip)))
    (.seq (.region [
       ⟨(some 13), .mov (.t 0), none, false⟩,
       ⟨(some 14), .lenSl (.t 13), none, false⟩,
       ⟨(some 15), .conv .u64 (.t 14), none, false⟩,
       ⟨(some 16), .mov (.t 1), none, false⟩,
       ⟨(some 17), .conv .u64 (.t 16), none, false⟩,
       ⟨(some 18), .call 99 [(.t 15), (.t 17)], none, false⟩,
       ⟨(some 12), .mov (.t 18), none, false⟩,
       ⟨(some 19), .extract (.t 12) 0, none, false⟩,
       ⟨(some 20), .extract (.t 12) 1, none, false⟩,
       ⟨(some 5), .mov (.t 19), none, false⟩,
       ⟨(some 6), .mov (.t 20), none, false⟩])
     (.seq (.seq (.region [
         ⟨(some 21), .mov (.t 5), none, false⟩,
         ⟨(some 22), .bin .gtr (.t 21) (.c (.int .u64 0)), none, false⟩,
         ⟨(some 23), .mov (.t 22), none, false⟩,
         ⟨(some 24), .mov (.t 6), (some (23, false)), false⟩,
         ⟨(some 25), .bin .gtr (.t 24) (.c (.int .u64 9223372036854775807)), (some (23, false)), false⟩,
         ⟨(some 26), .pick (.t 23) (.c (.bool true)) (.t 25), none, false⟩])
       (.cond (.t 26) (.region [
          ⟨(some 27), .iface 9 (.c (.str [116, 104, 101, 32, 114, 101, 115, 117, 108, 116, 32, 111, 102, 32, 40, 108, 101, 110, 40, 120, 41, 32, 42, 32, 99, 111, 117, 110, 116, 41, 32, 111, 118, 101, 114, 102, 108, 111, 119, 115])), none, false⟩,
          ⟨none, .stuck, none, false⟩])
        (.skip)))
      (.seq (.region [
         ⟨(some 28), .mov (.t 6), none, false⟩,
         ⟨(some 29), .conv .i64 (.t 28), none, false⟩,
         ⟨(some 30), .mkSl false 1 8 [(.int .i64 0)] (.t 29) (.t 29), none, false⟩,
         ⟨(some 7), .mov (.t 30), none, false⟩])
       (.seq (.region [
          ⟨(some 31), .mov (.t 7), none, false⟩,
          ⟨(some 32), .mov (.t 0), none, false⟩,
          ⟨(some 33), .copy 1 (.t 31) (.t 32), none, false⟩,
          ⟨(some 8), .mov (.t 33), none, false⟩])
        (.seq (.block 0 (.loop (.seq (.seq (.region [
               ⟨(some 34), .mov (.t 8), none, false⟩,
               ⟨(some 35), .mov (.t 7), none, false⟩,
               ⟨(some 36), .lenSl (.t 35), none, false⟩,
               ⟨(some 37), .bin .lss (.t 34) (.t 36), none, false⟩])
             (.cond (.t 37) (.skip)
              (.exit 0)))
            (.block 1 (.draw [
               ⟨(some 38), .mov (.t 8), none, false⟩,
               ⟨(some 39), .mov (.t 7), none, false⟩,
               ⟨(some 40), .mov (.t 8), none, false⟩,
               ⟨(some 41), .slSl 1 (.t 39) (some (.t 40)) none, none, false⟩,
               ⟨(some 42), .mov (.t 7), none, false⟩,
               ⟨(some 43), .mov (.t 8), none, false⟩,
               ⟨(some 44), .slSl 1 (.t 42) none (some (.t 43)), none, false⟩,
               ⟨(some 45), .copy 1 (.t 41) (.t 44), none, false⟩,
               ⟨(some 46), .bin .add (.t 38) (.t 45), none, false⟩,
               ⟨(some 8), .mov (.t 46), none, false⟩] [])))))
         (.seq (.region [
            ⟨(some 47), .mov (.t 7), none, false⟩,
            ⟨(some 4), .mov (.t 47), none, false⟩])
          (.ret)))))))), [.t 4]⟩

/-- deemster/hist.Infos -/
def F61 : AF :=
  ⟨.seq (.region [
     ⟨(some 1), .box 3 (.t 0), none, false⟩,
     ⟨(some 2), .mov (.c (.sl none true 0 [])), none, false⟩])
   (.seq (.region [
      ⟨(some 3), .load (some 3) (.t 1), none, false⟩,
      ⟨(some 4), .call 100 [(.t 3), (.c (.fn (.func 101) [] []))], none, false⟩,
      ⟨(some 2), .mov (.t 4), none, false⟩])
    (.ret)), [.t 2]⟩

/-- deemster/hist.Lost -/
def F62 : AF :=
  ⟨.seq (.region [
     ⟨(some 1), .box 3 (.t 0), none, false⟩,
     ⟨(some 2), .mov (.c (.sl none true 0 [])), none, false⟩])
   (.seq (.seq (.region [
       ⟨(some 6), .load (some 3) (.t 1), none, false⟩,
       ⟨(some 7), .call 70 [(.t 6)], none, false⟩,
       ⟨(some 8), .bin .neq (.t 7) (.c (.int .i64 0)), none, false⟩])
     (.cond (.t 8) (.seq (.region [
         ⟨(some 2), .mov (.c (.sl none true 0 [])), none, false⟩])
       (.ret))
      (.skip)))
    (.seq (.region [
       ⟨(some 3), .alloc [(.sl none true 0 [])], none, false⟩])
     (.seq (.seq (.region [
         ⟨(some 9), .load (some 3) (.t 1), none, false⟩,
         ⟨(some 10), .call 102 [(.t 9)], none, false⟩])
       (.block 0 (.rangeFunc (.t 10) [11, 12] (.seq (.region [
            ⟨(some 4), .alloc [(.int .i64 0), (.int .i64 0)], none, false⟩,
            ⟨none, .store 2 (.t 4) (.t 11), none, false⟩])
          (.region [
            ⟨(some 5), .alloc [(.bool false), (.int .i64 0), (.int .i64 0), (.int .i64 0)], none, false⟩,
            ⟨none, .store 4 (.t 5) (.t 12), none, false⟩]))
         (.block 1 (.seq (.region [
             ⟨(some 13), .fieldAddr 2 (.t 5), none, false⟩,
             ⟨(some 14), .fieldAddr 0 (.t 13), none, false⟩,
             ⟨(some 15), .load none (.t 14), none, false⟩,
             ⟨(some 16), .bin .eql (.t 15) (.c (.int .i64 2)), none, false⟩])
           (.cond (.t 16) (.region [
              ⟨(some 17), .load none (.t 3), none, false⟩,
              ⟨(some 18), .load (some 2) (.t 4), none, false⟩,
              ⟨(some 19), .buildSl false 2 [(.int .i64 0), (.int .i64 0)] [(0, 2, (.t 18))] 1, none, false⟩,
              ⟨(some 20), .append false 2 16 (.t 17) (.t 19), none, false⟩,
              ⟨none, .store 1 (.t 3) (.t 20), none, false⟩])
            (.skip)))))))
      (.seq (.region [
         ⟨(some 21), .load none (.t 3), none, false⟩,
         ⟨(some 2), .mov (.t 21), none, false⟩])
       (.ret))))), [.t 2]⟩

/-- deemster/bound.reads -/
def F63 : AF :=
  ⟨.seq (.region [
     ⟨(some 1), .box 3 (.t 0), none, false⟩,
     ⟨(some 2), .mov (.c (.int .i64 0)), none, false⟩])
   (.seq (.region [
      ⟨(some 3), .mov (.c (.int .i64 0)), none, false⟩])
    (.seq (.seq (.region [
        ⟨(some 8), .fieldAddr 2 (.t 1), none, false⟩,
        ⟨(some 9), .load none (.t 8), none, false⟩,
        ⟨(some 10), .lenSl (.t 9), none, false⟩,
        ⟨(some 11), .mov (.c (.int .i64 0)), none, false⟩])
      (.block 0 (.loop (.seq (.region [
           ⟨(some 12), .bin .lss (.t 11) (.t 10), none, false⟩])
         (.seq (.cond (.t 12) (.skip)
           (.exit 0))
          (.seq (.block 1 (.seq (.region [
               ⟨(some 13), .idxSl 3 (.t 9) (.t 11), none, false⟩,
               ⟨(some 14), .load (some 3) (.t 13), none, false⟩,
               ⟨(some 5), .alloc [(.int .i64 0), (.int .i64 0), (.sl none true 0 [])], none, false⟩,
               ⟨none, .store 3 (.t 5) (.t 14), none, false⟩])
             (.seq (.region [
                ⟨(some 15), .fieldAddr 2 (.t 5), none, false⟩,
                ⟨(some 16), .load none (.t 15), none, false⟩,
                ⟨(some 17), .lenSl (.t 16), none, false⟩,
                ⟨(some 18), .mov (.c (.int .i64 0)), none, false⟩])
              (.block 2 (.loop (.seq (.region [
                   ⟨(some 19), .bin .lss (.t 18) (.t 17), none, false⟩])
                 (.seq (.cond (.t 19) (.skip)
                   (.exit 2))
                  (.seq (.block 3 (.seq (.region [
                       ⟨(some 20), .idxSl 4 (.t 16) (.t 18), none, false⟩,
                       ⟨(some 21), .load (some 4) (.t 20), none, false⟩,
                       ⟨(some 7), .alloc [(.bool false), (.int .i64 0), (.int .i64 0), (.int .i64 0)], none, false⟩,
                       ⟨none, .store 4 (.t 7) (.t 21), none, false⟩])
                     (.seq (.region [
                        ⟨(some 22), .fieldAddr 0 (.t 7), none, false⟩,
                        ⟨(some 23), .load none (.t 22), none, false⟩,
                        ⟨(some 24), .un .not (.t 23), none, false⟩])
                      (.cond (.t 24) (.region [
                         ⟨(some 25), .mov (.t 3), none, false⟩,
                         ⟨(some 26), .bin .add (.t 25) (.c (.int .i64 1)), none, false⟩,
                         ⟨(some 3), .mov (.t 26), none, false⟩])
                       (.skip)))))
                   (.region [
                     ⟨(some 27), .bin .add (.t 18) (.c (.int .i64 1)), none, false⟩,
                     ⟨(some 18), .mov (.t 27), none, false⟩])))))))))
           (.region [
             ⟨(some 28), .bin .add (.t 11) (.c (.int .i64 1)), none, false⟩,
             ⟨(some 11), .mov (.t 28), none, false⟩])))))))
     (.seq (.region [
        ⟨(some 29), .mov (.t 3), none, false⟩,
        ⟨(some 2), .mov (.t 29), none, false⟩])
      (.ret)))), [.t 2]⟩

/-- deemster/show.Parse -/
def F67 : AF :=
  ⟨.seq (.region [
     ⟨(some 2), .alloc [(.sl none true 0 []), (.sl none true 0 []), (.sl none true 0 [])], none, false⟩,
     ⟨(some 3), .mov (.c (.int .i64 0)), none, false⟩,
     ⟨(some 4), .mov (.c (.int .i64 0)), none, false⟩])
   (.seq (.region [
      ⟨(some 9), .mov (.t 0), none, false⟩,
      ⟨(some 10), .call 104 [(.t 9)], none, false⟩,
      ⟨(some 8), .mov (.t 10), none, false⟩,
      ⟨(some 11), .extract (.t 8) 0, none, false⟩,
      ⟨(some 12), .extract (.t 8) 1, none, false⟩,
      ⟨(some 13), .extract (.t 8) 2, none, false⟩,
      ⟨(some 5), .mov (.t 11), none, false⟩,
      ⟨(some 6), .mov (.t 12), none, false⟩,
      ⟨(some 7), .mov (.t 13), none, false⟩])
    (.seq (.seq (.region [
        ⟨(some 14), .mov (.t 7), none, false⟩,
        ⟨(some 15), .bin .neq (.t 14) (.c (.int .i64 0)), none, false⟩])
      (.cond (.t 15) (.seq (.region [
          ⟨(some 16), .build [(.sl none true 0 []), (.sl none true 0 []), (.sl none true 0 [])] [], none, false⟩,
          ⟨(some 17), .mov (.t 6), none, false⟩,
          ⟨(some 18), .mov (.t 7), none, false⟩,
          ⟨none, .store 3 (.t 2) (.t 16), none, false⟩,
          ⟨(some 3), .mov (.t 17), none, false⟩,
          ⟨(some 4), .mov (.t 18), none, false⟩])
        (.ret))
       (.skip)))
     (.seq (.region [
        ⟨(some 19), .mov (.t 5), none, false⟩,
        ⟨(some 20), .call 105 [(.t 19)], none, false⟩,
        ⟨(some 21), .extract (.t 20) 0, none, false⟩,
        ⟨(some 22), .extract (.t 20) 1, none, false⟩,
        ⟨(some 23), .extract (.t 20) 2, none, false⟩,
        ⟨none, .store 3 (.t 2) (.t 21), none, false⟩,
        ⟨(some 3), .mov (.t 22), none, false⟩,
        ⟨(some 4), .mov (.t 23), none, false⟩])
      (.ret)))), [.cell 2 (some 3), .t 3, .t 4]⟩

/-- slices.ContainsFunc[[]int,int] -/
def F68 : AF :=
  ⟨.seq (.region [
     ⟨(some 4), .mov (.c (.bool false)), none, false⟩])
   (.seq (.region [
      ⟨(some 5), .mov (.t 0), none, false⟩,
      ⟨(some 6), .mov (.t 1), none, false⟩,
      ⟨(some 7), .call 106 [(.t 5), (.t 6)], none, false⟩,
      ⟨(some 8), .bin .geq (.t 7) (.c (.int .i64 0)), none, false⟩,
      ⟨(some 4), .mov (.t 8), none, false⟩])
    (.ret)), [.t 4]⟩

/-- deemster/bound.Product$1 -/
def F69 : AF :=
  ⟨.seq (.region [
     ⟨(some 2), .mov (.c (.bool false)), none, false⟩])
   (.seq (.region [
      ⟨(some 3), .mov (.t 0), none, false⟩,
      ⟨(some 4), .bin .lss (.t 3) (.c (.int .i64 0)), none, false⟩,
      ⟨(some 2), .mov (.t 4), none, false⟩])
    (.ret)), [.t 2]⟩

/-- deemster/hist.May -/
def F70 : AF :=
  ⟨.seq (.region [
     ⟨(some 1), .box 3 (.t 0), none, false⟩,
     ⟨(some 2), .alloc [(.int .i64 0)], none, false⟩])
   (.seq (.seq (.region [
       ⟨(some 5), .load (some 3) (.t 1), none, false⟩,
       ⟨(some 6), .call 107 [(.t 5)], none, false⟩,
       ⟨(some 7), .un .not (.t 6), none, false⟩,
       ⟨(some 8), .mov (.t 7), none, false⟩,
       ⟨(some 9), .fieldAddr 2 (.t 1), (some (8, false)), false⟩,
       ⟨(some 10), .load none (.t 9), (some (8, false)), false⟩,
       ⟨(some 11), .mkFn (.func 109) [] [(.t 1)], (some (8, false)), false⟩,
       ⟨(some 12), .call 108 [(.t 10), (.t 11)], (some (8, false)), false⟩,
       ⟨(some 13), .pick (.t 8) (.c (.bool true)) (.t 12), none, false⟩])
     (.cond (.t 13) (.seq (.region [
         ⟨none, .store 1 (.t 2) (.c (.int .i64 4)), none, false⟩])
       (.ret))
      (.skip)))
    (.seq (.seq (.region [
        ⟨(some 14), .load (some 3) (.t 1), none, false⟩,
        ⟨(some 15), .call 102 [(.t 14)], none, false⟩])
      (.block 0 (.rangeFunc (.t 15) [16, 17] (.region [
          ⟨(some 4), .alloc [(.bool false), (.int .i64 0), (.int .i64 0), (.int .i64 0)], none, false⟩,
          ⟨none, .store 4 (.t 4) (.t 17), none, false⟩])
        (.block 1 (.seq (.region [
            ⟨(some 18), .load (some 3) (.t 1), none, false⟩,
            ⟨(some 19), .load (some 4) (.t 4), none, false⟩,
            ⟨(some 20), .call 111 [(.t 18), (.t 19)], none, false⟩,
            ⟨(some 21), .un .not (.t 20), none, false⟩])
          (.cond (.t 21) (.seq (.region [
              ⟨none, .store 1 (.t 2) (.c (.int .i64 4)), none, false⟩])
            (.ret))
           (.skip)))))))
     (.seq (.seq (.region [
         ⟨(some 22), .load (some 3) (.t 1), none, false⟩,
         ⟨(some 23), .call 112 [(.t 22)], none, false⟩,
         ⟨(some 24), .un .not (.t 23), none, false⟩])
       (.cond (.t 24) (.seq (.region [
           ⟨none, .store 1 (.t 2) (.c (.int .i64 4)), none, false⟩])
         (.ret))
        (.skip)))
      (.seq (.region [
         ⟨none, .store 1 (.t 2) (.c (.int .i64 0)), none, false⟩])
       (.ret))))), [.cell 2 none]⟩

/-- math/bits.Mul -/
def F99 : AF :=
  ⟨.seq (.region [
     ⟨(some 4), .mov (.c (.int .u64 0)), none, false⟩,
     ⟨(some 5), .mov (.c (.int .u64 0)), none, false⟩])
   (.seq (.cond (.c (.bool false)) (.seq (.region [
        ⟨(some 11), .mov (.t 0), none, false⟩,
        ⟨(some 12), .conv .u32 (.t 11), none, false⟩,
        ⟨(some 13), .mov (.t 1), none, false⟩,
        ⟨(some 14), .conv .u32 (.t 13), none, false⟩,
        ⟨(some 15), .call 144 [(.t 12), (.t 14)], none, false⟩,
        ⟨(some 10), .mov (.t 15), none, false⟩,
        ⟨(some 16), .extract (.t 10) 0, none, false⟩,
        ⟨(some 17), .extract (.t 10) 1, none, false⟩,
        ⟨(some 6), .mov (.t 16), none, false⟩,
        ⟨(some 7), .mov (.t 17), none, false⟩])
      (.seq (.region [
         ⟨(some 18), .mov (.t 6), none, false⟩,
         ⟨(some 19), .conv .u64 (.t 18), none, false⟩,
         ⟨(some 20), .mov (.t 7), none, false⟩,
         ⟨(some 21), .conv .u64 (.t 20), none, false⟩,
         ⟨(some 4), .mov (.t 19), none, false⟩,
         ⟨(some 5), .mov (.t 21), none, false⟩])
       (.ret)))
     (.skip))
    (.seq (.region [
       ⟨(some 23), .mov (.t 0), none, false⟩,
       ⟨(some 24), .mov (.t 1), none, false⟩,
       ⟨(some 25), .call 145 [(.t 23), (.t 24)], none, false⟩,
       ⟨(some 22), .mov (.t 25), none, false⟩,
       ⟨(some 26), .extract (.t 22) 0, none, false⟩,
       ⟨(some 27), .extract (.t 22) 1, none, false⟩,
       ⟨(some 8), .mov (.t 26), none, false⟩,
       ⟨(some 9), .mov (.t 27), none, false⟩])
     (.seq (.region [
        ⟨(some 28), .mov (.t 8), none, false⟩,
        ⟨(some 29), .mov (.t 9), none, false⟩,
        ⟨(some 4), .mov (.t 28), none, false⟩,
        ⟨(some 5), .mov (.t 29), none, false⟩])
      (.ret)))), [.t 4, .t 5]⟩

/-- deemster/hist.where -/
def F100 : AF :=
  ⟨.seq (.region [
     ⟨(some 2), .box 3 (.t 0), none, false⟩,
     ⟨(some 4), .mov (.c (.sl none true 0 [])), none, false⟩])
   (.seq (.seq (.region [
       ⟨(some 8), .load (some 3) (.t 2), none, false⟩,
       ⟨(some 9), .call 70 [(.t 8)], none, false⟩,
       ⟨(some 10), .bin .neq (.t 9) (.c (.int .i64 0)), none, false⟩])
     (.cond (.t 10) (.seq (.region [
         ⟨(some 4), .mov (.c (.sl none true 0 [])), none, false⟩])
       (.ret))
      (.skip)))
    (.seq (.region [
       ⟨(some 5), .mov (.c (.sl none true 0 [])), none, false⟩])
     (.seq (.seq (.region [
         ⟨(some 11), .fieldAddr 2 (.t 2), none, false⟩,
         ⟨(some 12), .load none (.t 11), none, false⟩,
         ⟨(some 13), .lenSl (.t 12), none, false⟩,
         ⟨(some 14), .mov (.c (.int .i64 0)), none, false⟩])
       (.block 0 (.loop (.seq (.region [
            ⟨(some 15), .bin .lss (.t 14) (.t 13), none, false⟩])
          (.seq (.cond (.t 15) (.skip)
            (.exit 0))
           (.seq (.block 1 (.seq (.region [
                ⟨(some 16), .mov (.t 14), none, false⟩,
                ⟨(some 17), .idxSl 3 (.t 12) (.t 14), none, false⟩,
                ⟨(some 18), .load (some 3) (.t 17), none, false⟩,
                ⟨(some 7), .alloc [(.int .i64 0), (.int .i64 0), (.sl none true 0 [])], none, false⟩,
                ⟨(some 6), .mov (.t 16), none, false⟩,
                ⟨none, .store 3 (.t 7) (.t 18), none, false⟩])
              (.seq (.region [
                 ⟨(some 19), .mov (.t 1), none, false⟩,
                 ⟨(some 20), .load (some 3) (.t 7), none, false⟩,
                 ⟨(some 21), .callV (.t 19) [(.t 20)], none, false⟩])
               (.cond (.t 21) (.region [
                  ⟨(some 22), .mov (.t 5), none, false⟩,
                  ⟨(some 23), .mov (.t 6), none, false⟩,
                  ⟨(some 24), .buildSl false 1 [(.int .i64 0)] [(0, 1, (.t 23))] 1, none, false⟩,
                  ⟨(some 25), .append false 1 8 (.t 22) (.t 24), none, false⟩,
                  ⟨(some 5), .mov (.t 25), none, false⟩])
                (.skip)))))
            (.region [
              ⟨(some 26), .bin .add (.t 14) (.c (.int .i64 1)), none, false⟩,
              ⟨(some 14), .mov (.t 26), none, false⟩])))))))
      (.seq (.region [
         ⟨(some 27), .mov (.t 5), none, false⟩,
         ⟨(some 4), .mov (.t 27), none, false⟩])
       (.ret))))), [.t 4]⟩

/-- deemster/hist.Infos$1 -/
def F101 : AF :=
  ⟨.seq (.region [
     ⟨(some 1), .box 3 (.t 0), none, false⟩,
     ⟨(some 2), .mov (.c (.bool false)), none, false⟩])
   (.seq (.region [
      ⟨(some 3), .fieldAddr 1 (.t 1), none, false⟩,
      ⟨(some 4), .load none (.t 3), none, false⟩,
      ⟨(some 5), .bin .eql (.t 4) (.c (.int .i64 3)), none, false⟩,
      ⟨(some 2), .mov (.t 5), none, false⟩])
    (.ret)), [.t 2]⟩

/-- deemster/log.Parse -/
def F104 : AF :=
  ⟨.seq (.region [
     ⟨(some 2), .mov (.c (.sl none true 0 [])), none, false⟩,
     ⟨(some 3), .mov (.c (.int .i64 0)), none, false⟩,
     ⟨(some 4), .mov (.c (.int .i64 0)), none, false⟩])
   (.seq (.region [
      ⟨(some 15), .mov (.t 0), none, false⟩,
      ⟨(some 16), .call 147 [(.t 15)], none, false⟩,
      ⟨(some 14), .mov (.t 16), none, false⟩,
      ⟨(some 17), .extract (.t 14) 0, none, false⟩,
      ⟨(some 18), .extract (.t 14) 1, none, false⟩,
      ⟨(some 19), .extract (.t 14) 2, none, false⟩,
      ⟨(some 5), .mov (.t 17), none, false⟩,
      ⟨(some 6), .mov (.t 18), none, false⟩,
      ⟨(some 7), .mov (.t 19), none, false⟩])
    (.seq (.seq (.region [
        ⟨(some 20), .mov (.t 7), none, false⟩,
        ⟨(some 21), .bin .neq (.t 20) (.c (.int .i64 0)), none, false⟩])
      (.cond (.t 21) (.seq (.region [
          ⟨(some 22), .mov (.t 6), none, false⟩,
          ⟨(some 23), .mov (.t 7), none, false⟩,
          ⟨(some 2), .mov (.c (.sl none true 0 [])), none, false⟩,
          ⟨(some 3), .mov (.t 22), none, false⟩,
          ⟨(some 4), .mov (.t 23), none, false⟩])
        (.ret))
       (.skip)))
     (.seq (.region [
        ⟨(some 8), .mov (.c (.sl none true 0 [])), none, false⟩])
      (.seq (.seq (.region [
          ⟨(some 24), .mov (.t 5), none, false⟩,
          ⟨(some 25), .lenSl (.t 24), none, false⟩,
          ⟨(some 26), .mov (.c (.int .i64 0)), none, false⟩])
        (.block 0 (.loop (.seq (.region [
             ⟨(some 27), .bin .lss (.t 26) (.t 25), none, false⟩])
           (.seq (.cond (.t 27) (.skip)
             (.exit 0))
            (.seq (.block 1 (.seq (.region [
                 ⟨(some 28), .mov (.t 26), none, false⟩,
                 ⟨(some 29), .idxSl 1 (.t 24) (.t 26), none, false⟩,
                 ⟨(some 30), .load none (.t 29), none, false⟩,
                 ⟨(some 9), .mov (.t 28), none, false⟩,
                 ⟨(some 10), .mov (.t 30), none, false⟩])
               (.seq (.region [
                  ⟨(some 32), .mov (.t 10), none, false⟩,
                  ⟨(some 33), .call 148 [(.t 32)], none, false⟩,
                  ⟨(some 31), .mov (.t 33), none, false⟩,
                  ⟨(some 34), .extract (.t 31) 0, none, false⟩,
                  ⟨(some 35), .extract (.t 31) 1, none, false⟩,
                  ⟨(some 36), .extract (.t 31) 2, none, false⟩,
                  ⟨(some 11), .alloc [(.int .i64 0), (.str []), (.str []), (.int .i64 0), (.int .i64 0), (.int .i64 0)], none, false⟩,
                  ⟨none, .store 6 (.t 11) (.t 34), none, false⟩,
                  ⟨(some 12), .mov (.t 35), none, false⟩,
                  ⟨(some 13), .mov (.t 36), none, false⟩])
                (.seq (.seq (.region [
                    ⟨(some 37), .mov (.t 12), none, false⟩,
                    ⟨(some 38), .mov (.t 37), none, false⟩,
                    ⟨(some 39), .mov (.t 8), (some (38, true)), false⟩,
                    ⟨(some 40), .lenSl (.t 39), (some (38, true)), false⟩,
                    ⟨(some 41), .bin .eql (.t 40) (.c (.int .i64 1000)), (some (38, true)), false⟩,
                    ⟨(some 42), .pick (.t 38) (.t 41) (.c (.bool false)), none, false⟩])
                  (.cond (.t 42) (.region [
                     ⟨(some 13), .mov (.c (.int .i64 7)), none, false⟩])
                   (.skip)))
                 (.seq (.seq (.region [
                     ⟨(some 43), .mov (.t 13), none, false⟩,
                     ⟨(some 44), .bin .neq (.t 43) (.c (.int .i64 0)), none, false⟩])
                   (.cond (.t 44) (.seq (.region [
                       ⟨(some 45), .mov (.t 9), none, false⟩,
                       ⟨(some 46), .bin .add (.t 45) (.c (.int .i64 1)), none, false⟩,
                       ⟨(some 47), .mov (.t 13), none, false⟩,
                       ⟨(some 2), .mov (.c (.sl none true 0 [])), none, false⟩,
                       ⟨(some 3), .mov (.t 46), none, false⟩,
                       ⟨(some 4), .mov (.t 47), none, false⟩])
                     (.ret))
                    (.skip)))
                  (.seq (.region [
                     ⟨(some 48), .mov (.t 12), none, false⟩])
                   (.cond (.t 48) (.seq (.region [
                       ⟨(some 49), .mov (.t 9), none, false⟩,
                       ⟨(some 50), .bin .add (.t 49) (.c (.int .i64 1)), none, false⟩,
                       ⟨(some 51), .fieldAddr 5 (.t 11), none, false⟩,
                       ⟨none, .store 1 (.t 51) (.t 50), none, false⟩])
                     (.region [
                       ⟨(some 52), .mov (.t 8), none, false⟩,
                       ⟨(some 53), .load (some 6) (.t 11), none, false⟩,
                       ⟨(some 54), .buildSl false 6 [(.int .i64 0), (.str []), (.str []), (.int .i64 0), (.int .i64 0), (.int .i64 0)] [(0, 6, (.t 53))] 1, none, false⟩,
                       ⟨(some 55), .append false 6 64 (.t 52) (.t 54), none, false⟩,
                       ⟨(some 8), .mov (.t 55), none, false⟩]))
                    (.skip))))))))
             (.region [
               ⟨(some 56), .bin .add (.t 26) (.c (.int .i64 1)), none, false⟩,
               ⟨(some 26), .mov (.t 56), none, false⟩])))))))
       (.seq (.region [
          ⟨(some 57), .mov (.t 8), none, false⟩,
          ⟨(some 2), .mov (.t 57), none, false⟩,
          ⟨(some 3), .mov (.c (.int .i64 0)), none, false⟩,
          ⟨(some 4), .mov (.c (.int .i64 0)), none, false⟩])
        (.ret)))))), [.t 2, .t 3, .t 4]⟩

/-- deemster/pair.History -/
def F105 : AF :=
  ⟨.seq (.region [
     ⟨(some 2), .alloc [(.sl none true 0 []), (.sl none true 0 []), (.sl none true 0 [])], none, true⟩,
     ⟨(some 3), .mov (.c (.int .i64 0)), none, true⟩,
     ⟨(some 4), .mov (.c (.int .i64 0)), none, true⟩])
   (.seq (.region [
      ⟨(some 14), .mov (.t 0), none, true⟩,
      ⟨(some 15), .call 149 [(.t 14)], none, true⟩,
      ⟨(some 13), .mov (.t 15), none, true⟩,
      ⟨(some 16), .extract (.t 13) 0, none, true⟩,
      ⟨(some 17), .extract (.t 13) 1, none, true⟩,
      ⟨(some 18), .extract (.t 13) 2, none, true⟩,
      ⟨(some 5), .mov (.t 16), none, true⟩,
      ⟨(some 6), .mov (.t 17), none, true⟩,
      ⟨(some 7), .mov (.t 18), none, true⟩])
    (.seq (.seq (.region [
        ⟨(some 19), .mov (.t 7), none, true⟩,
        ⟨(some 20), .bin .neq (.t 19) (.c (.int .i64 0)), none, true⟩])
      (.cond (.t 20) (.seq (.region [
          ⟨(some 21), .build [(.sl none true 0 []), (.sl none true 0 []), (.sl none true 0 [])] [], none, true⟩,
          ⟨(some 22), .mov (.t 6), none, true⟩,
          ⟨(some 23), .mov (.t 7), none, true⟩,
          ⟨none, .store 3 (.t 2) (.t 21), none, true⟩,
          ⟨(some 3), .mov (.t 22), none, true⟩,
          ⟨(some 4), .mov (.t 23), none, true⟩])
        (.ret))
       (.skip)))
     (.seq (.draw [
        ⟨(some 24), .mov (.t 5), none, true⟩,
        ⟨(some 25), .nilCheck (.t 24), none, true⟩,
        ⟨(some 26), .fieldAddr 2 (.t 25), none, true⟩,
        ⟨(some 27), .load none (.t 26), none, true⟩,
        ⟨(some 28), .call 150 [(.t 27)], none, true⟩,
        ⟨(some 29), .mov (.t 5), none, true⟩,
        ⟨(some 30), .nilCheck (.t 29), none, true⟩,
        ⟨(some 31), .fieldAddr 3 (.t 30), none, true⟩,
        ⟨(some 32), .load none (.t 31), none, true⟩,
        ⟨(some 33), .call 150 [(.t 32)], none, true⟩,
        ⟨(some 34), .build [(.sl none true 0 []), (.sl none true 0 []), (.sl none true 0 [])] [(0, 1, (.t 28)), (1, 1, (.t 33))], none, true⟩,
        ⟨(some 8), .alloc [(.sl none true 0 []), (.sl none true 0 []), (.sl none true 0 [])], none, true⟩,
        ⟨none, .store 3 (.t 8) (.t 34), none, true⟩] [(3, 11), (4, 11), (8, 11), (9, 11)])
      (.seq (.seq (.region [
          ⟨(some 35), .mov (.t 5), none, true⟩,
          ⟨(some 36), .nilCheck (.t 35), none, true⟩,
          ⟨(some 37), .fieldAddr 0 (.t 36), none, true⟩,
          ⟨(some 38), .load none (.t 37), none, true⟩,
          ⟨(some 39), .lenSl (.t 38), none, true⟩,
          ⟨(some 40), .mov (.c (.int .i64 0)), none, true⟩])
        (.block 0 (.loop (.seq (.region [
             ⟨(some 41), .bin .lss (.t 40) (.t 39), none, true⟩])
           (.seq (.cond (.t 41) (.skip)
             (.exit 0))
            (.seq (.block 1 (.seq (.region [
                 ⟨(some 42), .idxSl 1 (.t 38) (.t 40), none, true⟩,
                 ⟨(some 43), .load none (.t 42), none, true⟩,
                 ⟨(some 10), .mov (.t 43), none, true⟩])
               (.seq (.seq (.draw [
                   ⟨(some 44), .mov (.t 5), none, true⟩,
                   ⟨(some 45), .nilCheck (.t 44), none, true⟩,
                   ⟨(some 46), .fieldAddr 1 (.t 45), none, true⟩,
                   ⟨(some 47), .load none (.t 46), none, true⟩,
                   ⟨(some 48), .mov (.t 10), none, true⟩,
                   ⟨(some 49), .nilCheck (.t 48), none, true⟩,
                   ⟨(some 50), .fieldAddr 0 (.t 49), none, true⟩,
                   ⟨(some 51), .load none (.t 50), none, true⟩,
                   ⟨(some 52), .lookup .str .nilptr false (.t 47) (.t 51), none, true⟩,
                   ⟨(some 53), .mov (.t 10), none, true⟩,
                   ⟨(some 54), .eq false .ptr (.t 52) (.t 53), none, true⟩] [])
                 (.cond (.t 54) (.seq (.draw [
                     ⟨(some 55), .build [(.sl none true 0 []), (.sl none true 0 []), (.sl none true 0 [])] [], none, true⟩,
                     ⟨(some 56), .mov (.t 10), none, true⟩,
                     ⟨(some 57), .nilCheck (.t 56), none, true⟩,
                     ⟨(some 58), .fieldAddr 2 (.t 57), none, true⟩,
                     ⟨(some 59), .load none (.t 58), none, true⟩,
                     ⟨none, .store 3 (.t 2) (.t 55), none, true⟩,
                     ⟨(some 3), .mov (.t 59), none, true⟩,
                     ⟨(some 4), .mov (.c (.int .i64 12)), none, true⟩] [(4, 5)])
                   (.ret))
                  (.skip)))
                (.seq (.draw [
                   ⟨(some 61), .mov (.t 10), none, true⟩,
                   ⟨(some 62), .fieldAddr 0 (.t 8), none, true⟩,
                   ⟨(some 63), .load none (.t 62), none, true⟩,
                   ⟨(some 64), .mov (.t 10), none, true⟩,
                   ⟨(some 65), .nilCheck (.t 64), none, true⟩,
                   ⟨(some 66), .fieldAddr 0 (.t 65), none, true⟩,
                   ⟨(some 67), .load none (.t 66), none, true⟩,
                   ⟨(some 68), .call 151 [(.t 63), (.t 67)], none, true⟩,
                   ⟨(some 60), .mov (.t 68), none, true⟩,
                   ⟨(some 69), .extract (.t 60) 0, none, true⟩,
                   ⟨(some 70), .extract (.t 60) 1, none, true⟩,
                   ⟨(some 71), .nilCheck (.t 61), none, true⟩,
                   ⟨(some 72), .fieldAddr 3 (.t 71), none, true⟩,
                   ⟨(some 73), .fieldAddr 0 (.t 72), none, true⟩,
                   ⟨none, .store 1 (.t 73) (.t 69), none, true⟩] [])
                 (.seq (.seq (.draw [
                     ⟨(some 74), .mov (.t 10), none, true⟩,
                     ⟨(some 75), .nilCheck (.t 74), none, true⟩,
                     ⟨(some 76), .fieldAddr 1 (.t 75), none, true⟩,
                     ⟨(some 77), .load none (.t 76), none, true⟩,
                     ⟨(some 78), .fieldAddr 1 (.t 8), none, true⟩,
                     ⟨(some 79), .load none (.t 78), none, true⟩,
                     ⟨(some 80), .call 152 [(.t 77), (.t 79)], none, true⟩,
                     ⟨(some 81), .lenSl (.t 80), none, true⟩,
                     ⟨(some 82), .mov (.c (.int .i64 0)), none, true⟩] [])
                   (.block 2 (.loop (.seq (.region [
                        ⟨(some 83), .bin .lss (.t 82) (.t 81), none, true⟩])
                      (.seq (.cond (.t 83) (.skip)
                        (.exit 2))
                       (.seq (.block 3 (.seq (.region [
                            ⟨(some 84), .mov (.t 82), none, true⟩,
                            ⟨(some 85), .idxSl 1 (.t 80) (.t 82), none, true⟩,
                            ⟨(some 86), .load none (.t 85), none, true⟩,
                            ⟨(some 11), .mov (.t 84), none, true⟩,
                            ⟨(some 12), .mov (.t 86), none, true⟩])
                          (.region [
                            ⟨(some 87), .mov (.t 10), none, true⟩,
                            ⟨(some 88), .nilCheck (.t 87), none, true⟩,
                            ⟨(some 89), .fieldAddr 3 (.t 88), none, true⟩,
                            ⟨(some 90), .fieldAddr 2 (.t 89), none, true⟩,
                            ⟨(some 91), .load none (.t 90), none, true⟩,
                            ⟨(some 92), .mov (.t 11), none, true⟩,
                            ⟨(some 93), .mov (.t 12), none, true⟩,
                            ⟨(some 94), .idxSl 4 (.t 91) (.t 92), none, true⟩,
                            ⟨(some 95), .fieldAddr 1 (.t 94), none, true⟩,
                            ⟨none, .store 1 (.t 95) (.t 93), none, true⟩])))
                        (.region [
                          ⟨(some 96), .bin .add (.t 82) (.c (.int .i64 1)), none, true⟩,
                          ⟨(some 82), .mov (.t 96), none, true⟩])))))))
                  (.draw [
                    ⟨(some 97), .fieldAddr 2 (.t 8), none, true⟩,
                    ⟨(some 98), .load none (.t 97), none, true⟩,
                    ⟨(some 99), .mov (.t 10), none, true⟩,
                    ⟨(some 100), .nilCheck (.t 99), none, true⟩,
                    ⟨(some 101), .fieldAddr 3 (.t 100), none, true⟩,
                    ⟨(some 102), .load (some 3) (.t 101), none, true⟩,
                    ⟨(some 103), .buildSl true 3 [(.int .i64 0), (.int .i64 0), (.sl none true 0 [])] [(0, 3, (.t 102))] 1, none, true⟩,
                    ⟨(some 104), .append true 3 40 (.t 98) (.t 103), none, true⟩,
                    ⟨(some 105), .fieldAddr 2 (.t 8), none, true⟩,
                    ⟨none, .store 1 (.t 105) (.t 104), none, true⟩] [(1, 6)]))))))
             (.region [
               ⟨(some 106), .bin .add (.t 40) (.c (.int .i64 1)), none, true⟩,
               ⟨(some 40), .mov (.t 106), none, true⟩])))))))
       (.seq (.region [
          ⟨(some 107), .load (some 3) (.t 8), none, true⟩,
          ⟨none, .store 3 (.t 2) (.t 107), none, true⟩,
          ⟨(some 3), .mov (.c (.int .i64 0)), none, true⟩,
          ⟨(some 4), .mov (.c (.int .i64 0)), none, true⟩])
        (.ret)))))), [.cell 2 (some 3), .t 3, .t 4]⟩

/-- slices.IndexFunc[[]int,int] -/
def F106 : AF :=
  ⟨.seq (.region [
     ⟨(some 4), .mov (.c (.int .i64 0)), none, false⟩])
   (.seq (.seq (.region [
       ⟨(some 6), .mov (.t 0), none, false⟩,
       ⟨(some 7), .lenSl (.t 6), none, false⟩,
       ⟨(some 8), .mov (.c (.int .i64 0)), none, false⟩])
     (.block 0 (.loop (.seq (.region [
          ⟨(some 9), .bin .lss (.t 8) (.t 7), none, false⟩])
        (.seq (.cond (.t 9) (.skip)
          (.exit 0))
         (.seq (.block 1 (.seq (.region [
              ⟨(some 10), .mov (.t 8), none, false⟩,
              ⟨(some 5), .mov (.t 10), none, false⟩])
            (.seq (.region [
               ⟨(some 11), .mov (.t 1), none, false⟩,
               ⟨(some 12), .mov (.t 0), none, false⟩,
               ⟨(some 13), .mov (.t 5), none, false⟩,
               ⟨(some 14), .idxSl 1 (.t 12) (.t 13), none, false⟩,
               ⟨(some 15), .load none (.t 14), none, false⟩,
               ⟨(some 16), .callV (.t 11) [(.t 15)], none, false⟩])
             (.cond (.t 16) (.seq (.region [
                 ⟨(some 17), .mov (.t 5), none, false⟩,
                 ⟨(some 4), .mov (.t 17), none, false⟩])
               (.ret))
              (.skip)))))
          (.region [
            ⟨(some 18), .bin .add (.t 8) (.c (.int .i64 1)), none, false⟩,
            ⟨(some 8), .mov (.t 18), none, false⟩])))))))
    (.seq (.region [
       ⟨(some 4), .mov (.c (.int .i64 (-1))), none, false⟩])
     (.ret))), [.t 4]⟩

/-- deemster/hist.heads -/
def F107 : AF :=
  ⟨.seq (.region [
     ⟨(some 1), .box 3 (.t 0), none, false⟩,
     ⟨(some 2), .mov (.c (.bool false)), none, false⟩])
   (.seq (.region [
      ⟨(some 3), .fieldAddr 0 (.t 1), none, false⟩,
      ⟨(some 4), .load none (.t 3), none, false⟩,
      ⟨(some 5), .call 153 [(.t 4)], none, false⟩,
      ⟨(some 6), .mov (.t 5), none, false⟩,
      ⟨(some 7), .fieldAddr 1 (.t 1), (some (6, true)), false⟩,
      ⟨(some 8), .load none (.t 7), (some (6, true)), false⟩,
      ⟨(some 9), .call 153 [(.t 8)], (some (6, true)), false⟩,
      ⟨(some 10), .pick (.t 6) (.t 9) (.c (.bool false)), none, false⟩,
      ⟨(some 11), .mov (.t 10), none, false⟩,
      ⟨(some 12), .fieldAddr 0 (.t 1), (some (11, true)), false⟩,
      ⟨(some 13), .load none (.t 12), (some (11, true)), false⟩,
      ⟨(some 14), .lenSl (.t 13), (some (11, true)), false⟩,
      ⟨(some 15), .bin .leq (.t 14) (.c (.int .i64 20)), (some (11, true)), false⟩,
      ⟨(some 16), .pick (.t 11) (.t 15) (.c (.bool false)), none, false⟩,
      ⟨(some 17), .mov (.t 16), none, false⟩,
      ⟨(some 18), .fieldAddr 1 (.t 1), (some (17, true)), false⟩,
      ⟨(some 19), .load none (.t 18), (some (17, true)), false⟩,
      ⟨(some 20), .lenSl (.t 19), (some (17, true)), false⟩,
      ⟨(some 21), .bin .leq (.t 20) (.c (.int .i64 40)), (some (17, true)), false⟩,
      ⟨(some 22), .pick (.t 17) (.t 21) (.c (.bool false)), none, false⟩,
      ⟨(some 23), .mov (.t 22), none, false⟩,
      ⟨(some 24), .fieldAddr 2 (.t 1), (some (23, true)), false⟩,
      ⟨(some 25), .load none (.t 24), (some (23, true)), false⟩,
      ⟨(some 26), .lenSl (.t 25), (some (23, true)), false⟩,
      ⟨(some 27), .bin .leq (.t 26) (.c (.int .i64 40)), (some (23, true)), false⟩,
      ⟨(some 28), .pick (.t 23) (.t 27) (.c (.bool false)), none, false⟩,
      ⟨(some 2), .mov (.t 28), none, false⟩])
    (.ret)), [.t 2]⟩

/-- deemster/hist.txn -/
def F110 : AF :=
  ⟨.seq (.region [
     ⟨(some 2), .box 3 (.t 0), none, false⟩,
     ⟨(some 3), .box 3 (.t 1), none, false⟩,
     ⟨(some 4), .mov (.c (.bool false)), none, false⟩])
   (.seq (.region [
      ⟨(some 5), .fieldAddr 0 (.t 3), none, false⟩,
      ⟨(some 6), .load none (.t 5), none, false⟩,
      ⟨(some 7), .fieldAddr 0 (.t 2), none, false⟩,
      ⟨(some 8), .load none (.t 7), none, false⟩,
      ⟨(some 9), .call 155 [(.t 6), (.t 8)], none, false⟩,
      ⟨(some 10), .mov (.t 9), none, false⟩,
      ⟨(some 11), .fieldAddr 1 (.t 3), (some (10, true)), false⟩,
      ⟨(some 12), .load none (.t 11), (some (10, true)), false⟩,
      ⟨(some 13), .bin .geq (.t 12) (.c (.int .i64 1)), (some (10, true)), false⟩,
      ⟨(some 14), .pick (.t 10) (.t 13) (.c (.bool false)), none, false⟩,
      ⟨(some 15), .mov (.t 14), none, false⟩,
      ⟨(some 16), .fieldAddr 1 (.t 3), (some (15, true)), false⟩,
      ⟨(some 17), .load none (.t 16), (some (15, true)), false⟩,
      ⟨(some 18), .bin .leq (.t 17) (.c (.int .i64 3)), (some (15, true)), false⟩,
      ⟨(some 19), .pick (.t 15) (.t 18) (.c (.bool false)), none, false⟩,
      ⟨(some 20), .mov (.t 19), none, false⟩,
      ⟨(some 21), .fieldAddr 2 (.t 3), (some (20, true)), false⟩,
      ⟨(some 22), .load none (.t 21), (some (20, true)), false⟩,
      ⟨(some 23), .lenSl (.t 22), (some (20, true)), false⟩,
      ⟨(some 24), .bin .leq (.t 23) (.c (.int .i64 20)), (some (20, true)), false⟩,
      ⟨(some 25), .pick (.t 20) (.t 24) (.c (.bool false)), none, false⟩,
      ⟨(some 4), .mov (.t 25), none, false⟩])
    (.ret)), [.t 4]⟩

/-- deemster/hist.used -/
def F112 : AF :=
  ⟨.seq (.region [
     ⟨(some 1), .box 3 (.t 0), none, false⟩,
     ⟨(some 2), .mov (.c (.bool false)), none, false⟩])
   (.seq (.region [
      ⟨(some 9), .mkMap, none, false⟩,
      ⟨(some 10), .mkMap, none, false⟩,
      ⟨(some 4), .alloc [.nilmap], none, false⟩,
      ⟨(some 3), .mov (.t 9), none, false⟩,
      ⟨none, .store 1 (.t 4) (.t 10), none, false⟩])
    (.seq (.seq (.region [
        ⟨(some 11), .fieldAddr 2 (.t 1), none, false⟩,
        ⟨(some 12), .load none (.t 11), none, false⟩,
        ⟨(some 13), .lenSl (.t 12), none, false⟩,
        ⟨(some 14), .mov (.c (.int .i64 0)), none, false⟩])
      (.block 0 (.loop (.seq (.region [
           ⟨(some 15), .bin .lss (.t 14) (.t 13), none, false⟩])
         (.seq (.cond (.t 15) (.skip)
           (.exit 0))
          (.seq (.block 1 (.seq (.region [
               ⟨(some 16), .idxSl 3 (.t 12) (.t 14), none, false⟩,
               ⟨(some 17), .load (some 3) (.t 16), none, false⟩,
               ⟨(some 6), .alloc [(.int .i64 0), (.int .i64 0), (.sl none true 0 [])], none, false⟩,
               ⟨none, .store 3 (.t 6) (.t 17), none, false⟩])
             (.region [
               ⟨(some 18), .mov (.t 3), none, false⟩,
               ⟨(some 19), .fieldAddr 0 (.t 6), none, false⟩,
               ⟨(some 20), .load none (.t 19), none, false⟩,
               ⟨(some 21), .lookup .int (.int .i64 0) false (.t 18) (.t 20), none, false⟩,
               ⟨(some 22), .bin .add (.t 21) (.c (.int .i64 1)), none, false⟩,
               ⟨none, .mapSet .int (.t 18) (.t 20) (.t 22), none, false⟩])))
           (.region [
             ⟨(some 23), .bin .add (.t 14) (.c (.int .i64 1)), none, false⟩,
             ⟨(some 14), .mov (.t 23), none, false⟩])))))))
     (.seq (.seq (.region [
         ⟨(some 24), .load (some 3) (.t 1), none, false⟩,
         ⟨(some 25), .call 102 [(.t 24)], none, false⟩])
       (.block 2 (.rangeFunc (.t 25) [26, 27] (.region [
           ⟨(some 8), .alloc [(.bool false), (.int .i64 0), (.int .i64 0), (.int .i64 0)], none, false⟩,
           ⟨none, .store 4 (.t 8) (.t 27), none, false⟩])
         (.block 3 (.region [
            ⟨(some 28), .load none (.t 4), none, false⟩,
            ⟨(some 29), .fieldAddr 1 (.t 8), none, false⟩,
            ⟨(some 30), .load none (.t 29), none, false⟩,
            ⟨(some 31), .lookup .int (.int .i64 0) false (.t 28) (.t 30), none, false⟩,
            ⟨(some 32), .bin .add (.t 31) (.c (.int .i64 1)), none, false⟩,
            ⟨none, .mapSet .int (.t 28) (.t 30) (.t 32), none, false⟩])))))
      (.seq (.region [
         ⟨(some 33), .mov (.t 3), none, false⟩,
         ⟨(some 34), .lenMap (.t 33), none, false⟩,
         ⟨(some 35), .fieldAddr 0 (.t 1), none, false⟩,
         ⟨(some 36), .load none (.t 35), none, false⟩,
         ⟨(some 37), .lenSl (.t 36), none, false⟩,
         ⟨(some 38), .bin .eql (.t 34) (.t 37), none, false⟩,
         ⟨(some 39), .mov (.t 38), none, false⟩,
         ⟨(some 40), .load none (.t 4), (some (39, true)), false⟩,
         ⟨(some 41), .lenMap (.t 40), (some (39, true)), false⟩,
         ⟨(some 42), .fieldAddr 1 (.t 1), (some (39, true)), false⟩,
         ⟨(some 43), .load none (.t 42), (some (39, true)), false⟩,
         ⟨(some 44), .lenSl (.t 43), (some (39, true)), false⟩,
         ⟨(some 45), .bin .eql (.t 41) (.t 44), (some (39, true)), false⟩,
         ⟨(some 46), .pick (.t 39) (.t 45) (.c (.bool false)), none, false⟩,
         ⟨(some 2), .mov (.t 46), none, false⟩])
       (.ret))))), [.t 2]⟩

/-- math/bits.Len -/
def F118 : AF :=
  ⟨.seq (.region [
     ⟨(some 2), .mov (.c (.int .i64 0)), none, false⟩])
   (.seq (.cond (.c (.bool false)) (.seq (.region [
        ⟨(some 3), .mov (.t 0), none, false⟩,
        ⟨(some 4), .conv .u32 (.t 3), none, false⟩,
        ⟨(some 5), .call 166 [(.t 4)], none, false⟩,
        ⟨(some 2), .mov (.t 5), none, false⟩])
      (.ret))
     (.skip))
    (.seq (.region [
       ⟨(some 6), .mov (.t 0), none, false⟩,
       ⟨(some 7), .call 167 [(.t 6)], none, false⟩,
       ⟨(some 2), .mov (.t 7), none, false⟩])
     (.ret))), [.t 2]⟩

/-- math/bits.Mul64 -/
def F145 : AF :=
  ⟨.seq (.region [
     ⟨(some 4), .mov (.c (.int .u64 0)), none, false⟩,
     ⟨(some 5), .mov (.c (.int .u64 0)), none, false⟩])
   (.seq (.region [
      ⟨(some 14), .mov (.t 0), none, false⟩,
      ⟨(some 15), .bin .and (.t 14) (.c (.int .u64 4294967295)), none, false⟩,
      ⟨(some 6), .mov (.t 15), none, false⟩])
    (.seq (.region [
       ⟨(some 16), .mov (.t 0), none, false⟩,
       ⟨(some 17), .bin .shr (.t 16) (.c (.int .u64 32)), none, false⟩,
       ⟨(some 7), .mov (.t 17), none, false⟩])
     (.seq (.region [
        ⟨(some 18), .mov (.t 1), none, false⟩,
        ⟨(some 19), .bin .and (.t 18) (.c (.int .u64 4294967295)), none, false⟩,
        ⟨(some 8), .mov (.t 19), none, false⟩])
      (.seq (.region [
         ⟨(some 20), .mov (.t 1), none, false⟩,
         ⟨(some 21), .bin .shr (.t 20) (.c (.int .u64 32)), none, false⟩,
         ⟨(some 9), .mov (.t 21), none, false⟩])
       (.seq (.region [
          ⟨(some 22), .mov (.t 6), none, false⟩,
          ⟨(some 23), .mov (.t 8), none, false⟩,
          ⟨(some 24), .bin .mul (.t 22) (.t 23), none, false⟩,
          ⟨(some 10), .mov (.t 24), none, false⟩])
        (.seq (.region [
           ⟨(some 25), .mov (.t 7), none, false⟩,
           ⟨(some 26), .mov (.t 8), none, false⟩,
           ⟨(some 27), .bin .mul (.t 25) (.t 26), none, false⟩,
           ⟨(some 28), .mov (.t 10), none, false⟩,
           ⟨(some 29), .bin .shr (.t 28) (.c (.int .u64 32)), none, false⟩,
           ⟨(some 30), .bin .add (.t 27) (.t 29), none, false⟩,
           ⟨(some 11), .mov (.t 30), none, false⟩])
         (.seq (.region [
            ⟨(some 31), .mov (.t 11), none, false⟩,
            ⟨(some 32), .bin .and (.t 31) (.c (.int .u64 4294967295)), none, false⟩,
            ⟨(some 12), .mov (.t 32), none, false⟩])
          (.seq (.region [
             ⟨(some 33), .mov (.t 11), none, false⟩,
             ⟨(some 34), .bin .shr (.t 33) (.c (.int .u64 32)), none, false⟩,
             ⟨(some 13), .mov (.t 34), none, false⟩])
           (.seq (.region [
              ⟨(some 35), .mov (.t 12), none, false⟩,
              ⟨(some 36), .mov (.t 6), none, false⟩,
              ⟨(some 37), .mov (.t 9), none, false⟩,
              ⟨(some 38), .bin .mul (.t 36) (.t 37), none, false⟩,
              ⟨(some 39), .bin .add (.t 35) (.t 38), none, false⟩,
              ⟨(some 12), .mov (.t 39), none, false⟩])
            (.seq (.region [
               ⟨(some 40), .mov (.t 7), none, false⟩,
               ⟨(some 41), .mov (.t 9), none, false⟩,
               ⟨(some 42), .bin .mul (.t 40) (.t 41), none, false⟩,
               ⟨(some 43), .mov (.t 13), none, false⟩,
               ⟨(some 44), .bin .add (.t 42) (.t 43), none, false⟩,
               ⟨(some 45), .mov (.t 12), none, false⟩,
               ⟨(some 46), .bin .shr (.t 45) (.c (.int .u64 32)), none, false⟩,
               ⟨(some 47), .bin .add (.t 44) (.t 46), none, false⟩,
               ⟨(some 4), .mov (.t 47), none, false⟩])
             (.seq (.region [
                ⟨(some 48), .mov (.t 0), none, false⟩,
                ⟨(some 49), .mov (.t 1), none, false⟩,
                ⟨(some 50), .bin .mul (.t 48) (.t 49), none, false⟩,
                ⟨(some 5), .mov (.t 50), none, false⟩])
              (.ret)))))))))))), [.t 4, .t 5]⟩

/-- deemster/line.Of -/
def F147 : AF :=
  ⟨.seq (.region [
     ⟨(some 2), .mov (.c (.sl none true 0 [])), none, false⟩,
     ⟨(some 3), .mov (.c (.int .i64 0)), none, false⟩,
     ⟨(some 4), .mov (.c (.int .i64 0)), none, false⟩])
   (.seq (.seq (.region [
       ⟨(some 10), .mov (.t 0), none, false⟩,
       ⟨(some 11), .lenStr (.t 10), none, false⟩,
       ⟨(some 12), .bin .gtr (.t 11) (.c (.int .i64 65536)), none, false⟩])
     (.cond (.t 12) (.seq (.region [
         ⟨(some 2), .mov (.c (.sl none true 0 [])), none, false⟩,
         ⟨(some 3), .mov (.c (.int .i64 0)), none, false⟩,
         ⟨(some 4), .mov (.c (.int .i64 6)), none, false⟩])
       (.ret))
      (.skip)))
    (.seq (.seq (.region [
        ⟨(some 13), .mov (.t 0), none, false⟩,
        ⟨(some 14), .bin .eql (.t 13) (.c (.str [])), none, false⟩])
      (.cond (.t 14) (.seq (.region [
          ⟨(some 2), .mov (.c (.sl none true 0 [])), none, false⟩,
          ⟨(some 3), .mov (.c (.int .i64 0)), none, false⟩,
          ⟨(some 4), .mov (.c (.int .i64 0)), none, false⟩])
        (.ret))
       (.skip)))
     (.seq (.region [
        ⟨(some 15), .mov (.t 0), none, false⟩,
        ⟨(some 16), .call 189 [(.t 15), (.c (.str [10]))], none, false⟩,
        ⟨(some 17), .call 188 [(.t 16), (.c (.str [10]))], none, false⟩,
        ⟨(some 5), .mov (.t 17), none, false⟩])
      (.seq (.seq (.region [
          ⟨(some 18), .mov (.t 5), none, false⟩,
          ⟨(some 19), .lenSl (.t 18), none, false⟩,
          ⟨(some 20), .mov (.c (.int .i64 0)), none, false⟩])
        (.block 0 (.loop (.seq (.region [
             ⟨(some 21), .bin .lss (.t 20) (.t 19), none, false⟩])
           (.seq (.cond (.t 21) (.skip)
             (.exit 0))
            (.seq (.block 1 (.seq (.region [
                 ⟨(some 22), .mov (.t 20), none, false⟩,
                 ⟨(some 23), .idxSl 1 (.t 18) (.t 20), none, false⟩,
                 ⟨(some 24), .load none (.t 23), none, false⟩,
                 ⟨(some 6), .mov (.t 22), none, false⟩,
                 ⟨(some 7), .mov (.t 24), none, false⟩])
               (.seq (.region [
                  ⟨(some 26), .mov (.t 7), none, false⟩,
                  ⟨(some 27), .call 190 [(.t 26)], none, false⟩,
                  ⟨(some 25), .mov (.t 27), none, false⟩,
                  ⟨(some 28), .extract (.t 25) 0, none, false⟩,
                  ⟨(some 29), .extract (.t 25) 1, none, false⟩,
                  ⟨(some 8), .mov (.t 28), none, false⟩,
                  ⟨(some 9), .mov (.t 29), none, false⟩])
                (.seq (.region [
                   ⟨(some 30), .mov (.t 9), none, false⟩,
                   ⟨(some 31), .un .not (.t 30), none, false⟩])
                 (.cond (.t 31) (.seq (.region [
                     ⟨(some 32), .mov (.t 6), none, false⟩,
                     ⟨(some 33), .bin .add (.t 32) (.c (.int .i64 1)), none, false⟩,
                     ⟨(some 2), .mov (.c (.sl none true 0 [])), none, false⟩,
                     ⟨(some 3), .mov (.t 33), none, false⟩,
                     ⟨(some 4), .mov (.c (.int .i64 5)), none, false⟩])
                   (.ret))
                  (.skip))))))
             (.region [
               ⟨(some 34), .bin .add (.t 20) (.c (.int .i64 1)), none, false⟩,
               ⟨(some 20), .mov (.t 34), none, false⟩])))))))
       (.seq (.region [
          ⟨(some 35), .mov (.t 5), none, false⟩,
          ⟨(some 2), .mov (.t 35), none, false⟩,
          ⟨(some 3), .mov (.c (.int .i64 0)), none, false⟩,
          ⟨(some 4), .mov (.c (.int .i64 0)), none, false⟩])
        (.ret)))))), [.t 2, .t 3, .t 4]⟩

/-- deemster/event.Parse -/
def F148 : AF :=
  ⟨.seq (.region [
     ⟨(some 2), .alloc [(.int .i64 0), (.str []), (.str []), (.int .i64 0), (.int .i64 0), (.int .i64 0)], none, false⟩,
     ⟨(some 3), .mov (.c (.bool false)), none, false⟩,
     ⟨(some 4), .mov (.c (.int .i64 0)), none, false⟩])
   (.seq (.region [
      ⟨(some 11), .mov (.t 0), none, false⟩,
      ⟨(some 12), .call 191 [(.t 11)], none, false⟩,
      ⟨(some 10), .mov (.t 12), none, false⟩,
      ⟨(some 13), .extract (.t 10) 0, none, false⟩,
      ⟨(some 14), .extract (.t 10) 1, none, false⟩,
      ⟨(some 5), .mov (.t 13), none, false⟩,
      ⟨(some 6), .mov (.t 14), none, false⟩])
    (.seq (.seq (.region [
        ⟨(some 15), .mov (.t 6), none, false⟩,
        ⟨(some 16), .bin .neq (.t 15) (.c (.int .i64 0)), none, false⟩,
        ⟨(some 17), .mov (.t 16), none, false⟩,
        ⟨(some 18), .mov (.t 5), (some (17, false)), false⟩,
        ⟨(some 19), .lenSl (.t 18), (some (17, false)), false⟩,
        ⟨(some 20), .bin .eql (.t 19) (.c (.int .i64 0)), (some (17, false)), false⟩,
        ⟨(some 21), .pick (.t 17) (.c (.bool true)) (.t 20), none, false⟩])
      (.cond (.t 21) (.seq (.region [
          ⟨(some 22), .build [(.int .i64 0), (.str []), (.str []), (.int .i64 0), (.int .i64 0), (.int .i64 0)] [], none, false⟩,
          ⟨(some 23), .mov (.t 6), none, false⟩,
          ⟨none, .store 6 (.t 2) (.t 22), none, false⟩,
          ⟨(some 3), .mov (.c (.bool false)), none, false⟩,
          ⟨(some 4), .mov (.t 23), none, false⟩])
        (.ret))
       (.skip)))
     (.seq (.region [
        ⟨(some 24), .mov (.t 5), none, false⟩,
        ⟨(some 25), .idxSl 2 (.t 24) (.c (.int .i64 0)), none, false⟩,
        ⟨(some 26), .fieldAddr 0 (.t 25), none, false⟩,
        ⟨(some 27), .load none (.t 26), none, false⟩,
        ⟨(some 28), .call 192 [(.t 27)], none, false⟩,
        ⟨(some 7), .mov (.t 28), none, false⟩])
      (.seq (.region [
         ⟨(some 8), .mov (.c (.int .i64 2)), none, false⟩])
       (.seq (.seq (.region [
           ⟨(some 29), .mov (.t 7), none, false⟩,
           ⟨(some 30), .call 193 [(.t 29)], none, false⟩])
         (.cond (.t 30) (.region [
            ⟨(some 8), .mov (.c (.int .i64 4)), none, false⟩])
          (.skip)))
        (.seq (.seq (.region [
            ⟨(some 31), .mov (.t 7), none, false⟩,
            ⟨(some 32), .bin .eql (.t 31) (.c (.int .i64 0)), none, false⟩,
            ⟨(some 33), .mov (.t 32), none, false⟩,
            ⟨(some 34), .mov (.t 5), (some (33, false)), false⟩,
            ⟨(some 35), .lenSl (.t 34), (some (33, false)), false⟩,
            ⟨(some 36), .mov (.t 8), (some (33, false)), false⟩,
            ⟨(some 37), .bin .neq (.t 35) (.t 36), (some (33, false)), false⟩,
            ⟨(some 38), .pick (.t 33) (.c (.bool true)) (.t 37), none, false⟩,
            ⟨(some 39), .mov (.t 38), none, false⟩,
            ⟨(some 40), .mov (.t 5), (some (39, false)), false⟩,
            ⟨(some 41), .idxSl 2 (.t 40) (.c (.int .i64 1)), (some (39, false)), false⟩,
            ⟨(some 42), .fieldAddr 0 (.t 41), (some (39, false)), false⟩,
            ⟨(some 43), .load none (.t 42), (some (39, false)), false⟩,
            ⟨(some 44), .call 194 [(.t 43)], (some (39, false)), false⟩,
            ⟨(some 45), .un .not (.t 44), (some (39, false)), false⟩,
            ⟨(some 46), .pick (.t 39) (.c (.bool true)) (.t 45), none, false⟩,
            ⟨(some 47), .mov (.t 46), none, false⟩,
            ⟨(some 48), .mov (.t 8), (some (47, false)), false⟩,
            ⟨(some 49), .bin .eql (.t 48) (.c (.int .i64 4)), (some (47, false)), false⟩,
            ⟨(some 50), .mov (.t 49), (some (47, false)), false⟩,
            ⟨(some 51), .mov (.t 5), (some (50, true)), false⟩,
            ⟨(some 52), .idxSl 2 (.t 51) (.c (.int .i64 2)), (some (50, true)), false⟩,
            ⟨(some 53), .fieldAddr 0 (.t 52), (some (50, true)), false⟩,
            ⟨(some 54), .load none (.t 53), (some (50, true)), false⟩,
            ⟨(some 55), .call 194 [(.t 54)], (some (50, true)), false⟩,
            ⟨(some 56), .un .not (.t 55), (some (50, true)), false⟩,
            ⟨(some 57), .pick (.t 50) (.t 56) (.c (.bool false)), (some (47, false)), false⟩,
            ⟨(some 58), .pick (.t 47) (.c (.bool true)) (.t 57), none, false⟩])
          (.cond (.t 58) (.seq (.region [
              ⟨(some 59), .build [(.int .i64 0), (.str []), (.str []), (.int .i64 0), (.int .i64 0), (.int .i64 0)] [], none, false⟩,
              ⟨none, .store 6 (.t 2) (.t 59), none, false⟩,
              ⟨(some 3), .mov (.c (.bool false)), none, false⟩,
              ⟨(some 4), .mov (.c (.int .i64 5)), none, false⟩])
            (.ret))
           (.skip)))
         (.seq (.region [
            ⟨(some 60), .mov (.t 7), none, false⟩,
            ⟨(some 61), .mov (.t 5), none, false⟩,
            ⟨(some 62), .idxSl 2 (.t 61) (.c (.int .i64 1)), none, false⟩,
            ⟨(some 63), .fieldAddr 0 (.t 62), none, false⟩,
            ⟨(some 64), .load none (.t 63), none, false⟩,
            ⟨(some 65), .build [(.int .i64 0), (.str []), (.str []), (.int .i64 0), (.int .i64 0), (.int .i64 0)] [(0, 1, (.t 60)), (1, 1, (.t 64))], none, false⟩,
            ⟨(some 9), .alloc [(.int .i64 0), (.str []), (.str []), (.int .i64 0), (.int .i64 0), (.int .i64 0)], none, false⟩,
            ⟨none, .store 6 (.t 9) (.t 65), none, false⟩])
          (.seq (.seq (.region [
              ⟨(some 66), .mov (.t 8), none, false⟩,
              ⟨(some 67), .bin .eql (.t 66) (.c (.int .i64 4)), none, false⟩])
            (.cond (.t 67) (.draw [
               ⟨(some 69), .mov (.t 7), none, false⟩,
               ⟨(some 70), .mov (.t 5), none, false⟩,
               ⟨(some 71), .idxSl 2 (.t 70) (.c (.int .i64 1)), none, false⟩,
               ⟨(some 72), .fieldAddr 0 (.t 71), none, false⟩,
               ⟨(some 73), .load none (.t 72), none, false⟩,
               ⟨(some 74), .mov (.t 5), none, false⟩,
               ⟨(some 75), .idxSl 2 (.t 74) (.c (.int .i64 2)), none, false⟩,
               ⟨(some 76), .fieldAddr 0 (.t 75), none, false⟩,
               ⟨(some 77), .load none (.t 76), none, false⟩,
               ⟨(some 78), .mov (.t 5), none, false⟩,
               ⟨(some 79), .idxSl 2 (.t 78) (.c (.int .i64 3)), none, false⟩,
               ⟨(some 80), .fieldAddr 0 (.t 79), none, false⟩,
               ⟨(some 81), .load none (.t 80), none, false⟩,
               ⟨(some 82), .call 195 [(.t 69), (.t 73), (.t 77), (.t 81)], none, false⟩,
               ⟨(some 68), .mov (.t 82), none, false⟩,
               ⟨(some 83), .extract (.t 68) 0, none, false⟩,
               ⟨(some 84), .extract (.t 68) 1, none, false⟩,
               ⟨none, .store 6 (.t 9) (.t 83), none, false⟩,
               ⟨(some 6), .mov (.t 84), none, false⟩] [])
             (.skip)))
           (.seq (.region [
              ⟨(some 85), .load (some 6) (.t 9), none, false⟩,
              ⟨(some 86), .mov (.t 6), none, false⟩,
              ⟨(some 87), .bin .eql (.t 86) (.c (.int .i64 0)), none, false⟩,
              ⟨(some 88), .mov (.t 6), none, false⟩,
              ⟨none, .store 6 (.t 2) (.t 85), none, false⟩,
              ⟨(some 3), .mov (.t 87), none, false⟩,
              ⟨(some 4), .mov (.t 88), none, false⟩])
            (.ret)))))))))), [.cell 2 (some 6), .t 3, .t 4]⟩

/-- deemster/table.Find -/
def F151 : AF :=
  ⟨.seq (.region [
     ⟨(some 4), .mov (.c (.int .i64 0)), none, false⟩,
     ⟨(some 5), .mov (.c (.bool false)), none, false⟩])
   (.seq (.seq (.region [
       ⟨(some 7), .mov (.t 0), none, false⟩,
       ⟨(some 8), .call 153 [(.t 7)], none, false⟩,
       ⟨(some 9), .un .not (.t 8), none, false⟩])
     (.cond (.t 9) (.seq (.region [
         ⟨(some 4), .mov (.c (.int .i64 0)), none, false⟩,
         ⟨(some 5), .mov (.c (.bool false)), none, false⟩])
       (.ret))
      (.skip)))
    (.seq (.region [
       ⟨(some 10), .mov (.t 0), none, false⟩,
       ⟨(some 11), .mov (.t 1), none, false⟩,
       ⟨(some 12), .call 198 [(.t 10), (.t 11)], none, false⟩,
       ⟨(some 6), .mov (.t 12), none, false⟩])
     (.seq (.region [
        ⟨(some 13), .mov (.t 6), none, false⟩,
        ⟨(some 14), .minmax true [(.t 13), (.c (.int .i64 0))], none, false⟩,
        ⟨(some 15), .mov (.t 6), none, false⟩,
        ⟨(some 16), .bin .geq (.t 15) (.c (.int .i64 0)), none, false⟩,
        ⟨(some 4), .mov (.t 14), none, false⟩,
        ⟨(some 5), .mov (.t 16), none, false⟩])
      (.ret)))), [.t 4, .t 5]⟩

/-- deemster/table.Map -/
def F152 : AF :=
  ⟨.seq (.region [
     ⟨(some 4), .mov (.c (.sl none true 0 [])), none, false⟩])
   (.seq (.region [
      ⟨(some 10), .mov (.t 0), none, false⟩,
      ⟨(some 11), .lenSl (.t 10), none, false⟩,
      ⟨(some 12), .mkSl false 1 8 [(.int .i64 0)] (.t 11) (.t 11), none, false⟩,
      ⟨(some 5), .mov (.t 12), none, false⟩])
    (.seq (.seq (.region [
        ⟨(some 13), .mov (.t 0), none, false⟩,
        ⟨(some 14), .lenSl (.t 13), none, false⟩,
        ⟨(some 15), .mov (.c (.int .i64 0)), none, false⟩])
      (.block 0 (.loop (.seq (.region [
           ⟨(some 16), .bin .lss (.t 15) (.t 14), none, false⟩])
         (.seq (.cond (.t 16) (.skip)
           (.exit 0))
          (.seq (.block 1 (.seq (.region [
               ⟨(some 17), .mov (.t 15), none, false⟩,
               ⟨(some 18), .idxSl 1 (.t 13) (.t 15), none, false⟩,
               ⟨(some 19), .load none (.t 18), none, false⟩,
               ⟨(some 6), .mov (.t 17), none, false⟩,
               ⟨(some 7), .mov (.t 19), none, false⟩])
             (.seq (.region [
                ⟨(some 21), .mov (.t 1), none, false⟩,
                ⟨(some 22), .mov (.t 7), none, false⟩,
                ⟨(some 23), .call 151 [(.t 21), (.t 22)], none, false⟩,
                ⟨(some 20), .mov (.t 23), none, false⟩,
                ⟨(some 24), .extract (.t 20) 0, none, false⟩,
                ⟨(some 25), .extract (.t 20) 1, none, false⟩,
                ⟨(some 8), .mov (.t 24), none, false⟩,
                ⟨(some 9), .mov (.t 25), none, false⟩])
              (.seq (.seq (.region [
                  ⟨(some 26), .mov (.t 9), none, false⟩,
                  ⟨(some 27), .un .not (.t 26), none, false⟩])
                (.cond (.t 27) (.region [
                   ⟨(some 8), .mov (.c (.int .i64 (-1))), none, false⟩])
                 (.skip)))
               (.region [
                 ⟨(some 28), .mov (.t 5), none, false⟩,
                 ⟨(some 29), .mov (.t 6), none, false⟩,
                 ⟨(some 30), .mov (.t 8), none, false⟩,
                 ⟨(some 31), .idxSl 1 (.t 28) (.t 29), none, false⟩,
                 ⟨none, .store 1 (.t 31) (.t 30), none, false⟩])))))
           (.region [
             ⟨(some 32), .bin .add (.t 15) (.c (.int .i64 1)), none, false⟩,
             ⟨(some 15), .mov (.t 32), none, false⟩])))))))
     (.seq (.region [
        ⟨(some 33), .mov (.t 5), none, false⟩,
        ⟨(some 4), .mov (.t 33), none, false⟩])
      (.ret)))), [.t 4]⟩

/-- deemster/table.Is -/
def F153 : AF :=
  ⟨.seq (.region [
     ⟨(some 2), .mov (.c (.bool false)), none, false⟩])
   (.seq (.seq (.region [
       ⟨(some 5), .mov (.t 0), none, false⟩,
       ⟨(some 6), .lenSl (.t 5), none, false⟩,
       ⟨(some 7), .mov (.c (.int .i64 0)), none, false⟩])
     (.block 0 (.loop (.seq (.region [
          ⟨(some 8), .bin .lss (.t 7) (.t 6), none, false⟩])
        (.seq (.cond (.t 8) (.skip)
          (.exit 0))
         (.seq (.block 1 (.seq (.region [
              ⟨(some 9), .mov (.t 7), none, false⟩,
              ⟨(some 10), .idxSl 1 (.t 5) (.t 7), none, false⟩,
              ⟨(some 11), .load none (.t 10), none, false⟩,
              ⟨(some 3), .mov (.t 9), none, false⟩,
              ⟨(some 4), .mov (.t 11), none, false⟩])
            (.seq (.region [
               ⟨(some 12), .mov (.t 4), none, false⟩,
               ⟨(some 13), .call 194 [(.t 12)], none, false⟩,
               ⟨(some 14), .un .not (.t 13), none, false⟩,
               ⟨(some 15), .mov (.t 14), none, false⟩,
               ⟨(some 16), .mov (.t 3), (some (15, false)), false⟩,
               ⟨(some 17), .bin .gtr (.t 16) (.c (.int .i64 0)), (some (15, false)), false⟩,
               ⟨(some 18), .mov (.t 17), (some (15, false)), false⟩,
               ⟨(some 19), .mov (.t 0), (some (18, true)), false⟩,
               ⟨(some 20), .mov (.t 3), (some (18, true)), false⟩,
               ⟨(some 21), .bin .sub (.t 20) (.c (.int .i64 1)), (some (18, true)), false⟩,
               ⟨(some 22), .idxSl 1 (.t 19) (.t 21), (some (18, true)), false⟩,
               ⟨(some 23), .load none (.t 22), (some (18, true)), false⟩,
               ⟨(some 24), .mov (.t 4), (some (18, true)), false⟩,
               ⟨(some 25), .call 199 [(.t 23), (.t 24)], (some (18, true)), false⟩,
               ⟨(some 26), .un .not (.t 25), (some (18, true)), false⟩,
               ⟨(some 27), .pick (.t 18) (.t 26) (.c (.bool false)), (some (15, false)), false⟩,
               ⟨(some 28), .pick (.t 15) (.c (.bool true)) (.t 27), none, false⟩])
             (.cond (.t 28) (.seq (.region [
                 ⟨(some 2), .mov (.c (.bool false)), none, false⟩])
               (.ret))
              (.skip)))))
          (.region [
            ⟨(some 29), .bin .add (.t 7) (.c (.int .i64 1)), none, false⟩,
            ⟨(some 7), .mov (.t 29), none, false⟩])))))))
    (.seq (.region [
       ⟨(some 2), .mov (.c (.bool true)), none, false⟩])
     (.ret))), [.t 2]⟩

/-- deemster/hist.within -/
def F155 : AF :=
  ⟨.seq (.region [
     ⟨(some 4), .mov (.c (.bool false)), none, false⟩])
   (.seq (.region [
      ⟨(some 5), .mov (.t 0), none, false⟩,
      ⟨(some 6), .bin .geq (.t 5) (.c (.int .i64 0)), none, false⟩,
      ⟨(some 7), .mov (.t 6), none, false⟩,
      ⟨(some 8), .mov (.t 0), (some (7, true)), false⟩,
      ⟨(some 9), .mov (.t 1), (some (7, true)), false⟩,
      ⟨(some 10), .lenSl (.t 9), (some (7, true)), false⟩,
      ⟨(some 11), .bin .lss (.t 8) (.t 10), (some (7, true)), false⟩,
      ⟨(some 12), .pick (.t 7) (.t 11) (.c (.bool false)), none, false⟩,
      ⟨(some 4), .mov (.t 12), none, false⟩])
    (.ret)), [.t 4]⟩

/-- math/bits.Len64 -/
def F167 : AF :=
  ⟨.seq (.region [
     ⟨(some 2), .mov (.c (.int .i64 0)), none, false⟩])
   (.seq (.seq (.region [
       ⟨(some 3), .mov (.t 0), none, false⟩,
       ⟨(some 4), .bin .geq (.t 3) (.c (.int .u64 4294967296)), none, false⟩])
     (.cond (.t 4) (.seq (.region [
         ⟨(some 5), .mov (.t 0), none, false⟩,
         ⟨(some 6), .bin .shr (.t 5) (.c (.int .u64 32)), none, false⟩,
         ⟨(some 0), .mov (.t 6), none, false⟩])
       (.region [
         ⟨(some 2), .mov (.c (.int .i64 32)), none, false⟩]))
      (.skip)))
    (.seq (.seq (.region [
        ⟨(some 7), .mov (.t 0), none, false⟩,
        ⟨(some 8), .bin .geq (.t 7) (.c (.int .u64 65536)), none, false⟩])
      (.cond (.t 8) (.seq (.region [
          ⟨(some 9), .mov (.t 0), none, false⟩,
          ⟨(some 10), .bin .shr (.t 9) (.c (.int .u64 16)), none, false⟩,
          ⟨(some 0), .mov (.t 10), none, false⟩])
        (.region [
          ⟨(some 11), .mov (.t 2), none, false⟩,
          ⟨(some 12), .bin .add (.t 11) (.c (.int .i64 16)), none, false⟩,
          ⟨(some 2), .mov (.t 12), none, false⟩]))
       (.skip)))
     (.seq (.seq (.region [
         ⟨(some 13), .mov (.t 0), none, false⟩,
         ⟨(some 14), .bin .geq (.t 13) (.c (.int .u64 256)), none, false⟩])
       (.cond (.t 14) (.seq (.region [
           ⟨(some 15), .mov (.t 0), none, false⟩,
           ⟨(some 16), .bin .shr (.t 15) (.c (.int .u64 8)), none, false⟩,
           ⟨(some 0), .mov (.t 16), none, false⟩])
         (.region [
           ⟨(some 17), .mov (.t 2), none, false⟩,
           ⟨(some 18), .bin .add (.t 17) (.c (.int .i64 8)), none, false⟩,
           ⟨(some 2), .mov (.t 18), none, false⟩]))
        (.skip)))
      (.seq (.region [
         ⟨(some 19), .mov (.t 2), none, false⟩,
         ⟨(some 20), .mov (.t 0), none, false⟩,
         ⟨(some 21), .conv .u8 (.t 20), none, false⟩,
         ⟨(some 22), .idxStr (.c (.str [0, 1, 2, 2, 3, 3, 3, 3, 4, 4, 4, 4, 4, 4, 4, 4, 5, 5, 5, 5, 5, 5, 5, 5, 5, 5, 5, 5, 5, 5, 5, 5, 6, 6, 6, 6, 6, 6, 6, 6, 6, 6, 6, 6, 6, 6, 6, 6, 6, 6, 6, 6, 6, 6, 6, 6, 6, 6, 6, 6, 6, 6, 6, 6, 7, 7, 7, 7, 7, 7, 7, 7, 7, 7, 7, 7, 7, 7, 7, 7, 7, 7, 7, 7, 7, 7, 7, 7, 7, 7, 7, 7, 7, 7, 7, 7, 7, 7, 7, 7, 7, 7, 7, 7, 7, 7, 7, 7, 7, 7, 7, 7, 7, 7, 7, 7, 7, 7, 7, 7, 7, 7, 7, 7, 7, 7, 7, 7, 8, 8, 8, 8, 8, 8, 8, 8, 8, 8, 8, 8, 8, 8, 8, 8, 8, 8, 8, 8, 8, 8, 8, 8, 8, 8, 8, 8, 8, 8, 8, 8, 8, 8, 8, 8, 8, 8, 8, 8, 8, 8, 8, 8, 8, 8, 8, 8, 8, 8, 8, 8, 8, 8, 8, 8, 8, 8, 8, 8, 8, 8, 8, 8, 8, 8, 8, 8, 8, 8, 8, 8, 8, 8, 8, 8, 8, 8, 8, 8, 8, 8, 8, 8, 8, 8, 8, 8, 8, 8, 8, 8, 8, 8, 8, 8, 8, 8, 8, 8, 8, 8, 8, 8, 8, 8, 8, 8, 8, 8, 8, 8, 8, 8, 8, 8, 8, 8, 8, 8, 8, 8, 8, 8, 8, 8, 8, 8])) (.t 21), none, false⟩,
         ⟨(some 23), .conv .i64 (.t 22), none, false⟩,
         ⟨(some 24), .bin .add (.t 19) (.t 23), none, false⟩,
         ⟨(some 2), .mov (.t 24), none, false⟩])
       (.ret))))), [.t 2]⟩

/-- strings.Split -/
def F188 : AF :=
  ⟨.seq (.region [
     ⟨(some 4), .mov (.c (.sl none true 0 [])), none, false⟩])
   (.seq (.region [
      ⟨(some 5), .mov (.t 0), none, false⟩,
      ⟨(some 6), .mov (.t 1), none, false⟩,
      ⟨(some 7), .call 224 [(.t 5), (.t 6), (.c (.int .i64 0)), (.c (.int .i64 (-1)))], none, false⟩,
      ⟨(some 4), .mov (.t 7), none, false⟩])
    (.ret)), [.t 4]⟩

/-- strings.TrimSuffix -/
def F189 : AF :=
  ⟨.seq (.region [
     ⟨(some 4), .mov (.c (.str [])), none, false⟩])
   (.seq (.region [
      ⟨(some 5), .mov (.t 0), none, false⟩,
      ⟨(some 6), .mov (.t 1), none, false⟩,
      ⟨(some 7), .call 225 [(.t 5), (.t 6)], none, false⟩,
      ⟨(some 4), .mov (.t 7), none, false⟩])
    (.ret)), [.t 4]⟩

/-- deemster/line.Runes -/
def F190 : AF :=
  ⟨.seq (.region [
     ⟨(some 2), .mov (.c (.int .i64 0)), none, false⟩,
     ⟨(some 3), .mov (.c (.bool false)), none, false⟩])
   (.seq (.region [
      ⟨(some 4), .mov (.c (.int .i64 0)), none, false⟩])
    (.seq (.seq (.region [
        ⟨(some 7), .mov (.t 0), none, false⟩,
        ⟨(some 8), .range true (.t 7), none, false⟩])
      (.block 0 (.loop (.seq (.region [
           ⟨(some 9), .nextStr (.t 8), none, false⟩,
           ⟨(some 10), .extract (.t 9) 0, none, false⟩])
         (.seq (.cond (.t 10) (.skip)
           (.exit 0))
          (.block 1 (.seq (.region [
              ⟨(some 11), .extract (.t 9) 1, none, false⟩,
              ⟨(some 12), .extract (.t 9) 2, none, false⟩,
              ⟨(some 5), .mov (.t 11), none, false⟩,
              ⟨(some 6), .mov (.t 12), none, false⟩])
            (.seq (.seq (.region [
                ⟨(some 13), .mov (.t 6), none, false⟩,
                ⟨(some 14), .bin .eql (.t 13) (.c (.int .i32 65533)), none, false⟩,
                ⟨(some 15), .mov (.t 14), none, false⟩,
                ⟨(some 16), .mov (.t 0), (some (15, true)), false⟩,
                ⟨(some 17), .mov (.t 5), (some (15, true)), false⟩,
                ⟨(some 18), .slStr (.t 16) (some (.t 17)) none, (some (15, true)), false⟩,
                ⟨(some 19), .call 226 [(.t 18), (.c (.str [239, 191, 189]))], (some (15, true)), false⟩,
                ⟨(some 20), .un .not (.t 19), (some (15, true)), false⟩,
                ⟨(some 21), .pick (.t 15) (.t 20) (.c (.bool false)), none, false⟩])
              (.cond (.t 21) (.seq (.region [
                  ⟨(some 2), .mov (.c (.int .i64 0)), none, false⟩,
                  ⟨(some 3), .mov (.c (.bool false)), none, false⟩])
                (.ret))
               (.skip)))
             (.region [
               ⟨(some 22), .mov (.t 4), none, false⟩,
               ⟨(some 23), .bin .add (.t 22) (.c (.int .i64 1)), none, false⟩,
               ⟨(some 4), .mov (.t 23), none, false⟩])))))))))
     (.seq (.region [
        ⟨(some 24), .mov (.t 4), none, false⟩,
        ⟨(some 2), .mov (.t 24), none, false⟩,
        ⟨(some 3), .mov (.c (.bool true)), none, false⟩])
      (.ret)))), [.t 2, .t 3]⟩

/-- deemster/split.Words -/
def F191 : AF :=
  ⟨.seq (.region [
     ⟨(some 2), .mov (.c (.sl none true 0 [])), none, false⟩,
     ⟨(some 3), .mov (.c (.int .i64 0)), none, false⟩])
   (.seq (.seq (.region [
       ⟨(some 13), .mov (.t 0), none, false⟩,
       ⟨(some 14), .call 190 [(.t 13)], none, false⟩,
       ⟨(some 12), .mov (.t 14), none, false⟩,
       ⟨(some 15), .extract (.t 12) 0, none, false⟩,
       ⟨(some 16), .extract (.t 12) 1, none, false⟩,
       ⟨(some 4), .mov (.t 15), none, false⟩,
       ⟨(some 5), .mov (.t 16), none, false⟩])
     (.seq (.region [
        ⟨(some 17), .mov (.t 5), none, false⟩,
        ⟨(some 18), .un .not (.t 17), none, false⟩,
        ⟨(some 19), .mov (.t 18), none, false⟩,
        ⟨(some 20), .mov (.t 0), (some (19, false)), false⟩,
        ⟨(some 21), .call 227 [(.t 20), (.c (.str [10]))], (some (19, false)), false⟩,
        ⟨(some 22), .pick (.t 19) (.c (.bool true)) (.t 21), none, false⟩])
      (.cond (.t 22) (.seq (.region [
          ⟨(some 2), .mov (.c (.sl none true 0 [])), none, false⟩,
          ⟨(some 3), .mov (.c (.int .i64 5)), none, false⟩])
        (.ret))
       (.skip))))
    (.seq (.region [
       ⟨(some 24), .mov (.t 0), none, false⟩,
       ⟨(some 25), .call 228 [(.t 24), (.c (.str [35]))], none, false⟩,
       ⟨(some 23), .mov (.t 25), none, false⟩,
       ⟨(some 26), .extract (.t 23) 0, none, false⟩,
       ⟨(some 27), .extract (.t 23) 1, none, false⟩,
       ⟨(some 28), .extract (.t 23) 2, none, false⟩,
       ⟨(some 0), .mov (.t 26), none, false⟩])
     (.seq (.region [
        ⟨(some 6), .mov (.c (.sl none true 0 [])), none, false⟩])
      (.seq (.region [
         ⟨(some 7), .mov (.c (.int .i64 (-1))), none, false⟩,
         ⟨(some 8), .mov (.c (.int .i64 0)), none, false⟩,
         ⟨(some 9), .mov (.c (.int .i64 0)), none, false⟩])
       (.seq (.seq (.region [
           ⟨(some 29), .mov (.t 0), none, false⟩,
           ⟨(some 30), .range true (.t 29), none, false⟩])
         (.block 0 (.loop (.seq (.region [
              ⟨(some 31), .nextStr (.t 30), none, false⟩,
              ⟨(some 32), .extract (.t 31) 0, none, false⟩])
            (.seq (.cond (.t 32) (.skip)
              (.exit 0))
             (.block 1 (.seq (.region [
                 ⟨(some 33), .extract (.t 31) 1, none, false⟩,
                 ⟨(some 34), .extract (.t 31) 2, none, false⟩,
                 ⟨(some 10), .mov (.t 33), none, false⟩,
                 ⟨(some 11), .mov (.t 34), none, false⟩])
               (.seq (.region [
                  ⟨(some 35), .mov (.t 9), none, false⟩,
                  ⟨(some 36), .bin .add (.t 35) (.c (.int .i64 1)), none, false⟩,
                  ⟨(some 9), .mov (.t 36), none, false⟩])
                (.block 2 (.seq (.region [
                    ⟨(some 38), .mov (.t 11), none, false⟩,
                    ⟨(some 39), .call 229 [(.t 38)], none, false⟩,
                    ⟨(some 40), .un .not (.t 39), none, false⟩,
                    ⟨(some 41), .mov (.t 40), none, false⟩,
                    ⟨(some 42), .mov (.t 7), (some (41, true)), false⟩,
                    ⟨(some 43), .bin .lss (.t 42) (.c (.int .i64 0)), (some (41, true)), false⟩,
                    ⟨(some 44), .pick (.t 41) (.t 43) (.c (.bool false)), none, false⟩,
                    ⟨(some 37), .mov (.t 44), none, false⟩])
                  (.cond (.t 37) (.region [
                     ⟨(some 45), .mov (.t 10), none, false⟩,
                     ⟨(some 46), .mov (.t 9), none, false⟩,
                     ⟨(some 7), .mov (.t 45), none, false⟩,
                     ⟨(some 8), .mov (.t 46), none, false⟩])
                   (.seq (.region [
                      ⟨(some 48), .mov (.t 11), none, false⟩,
                      ⟨(some 49), .call 229 [(.t 48)], none, false⟩,
                      ⟨(some 50), .mov (.t 49), none, false⟩,
                      ⟨(some 51), .mov (.t 7), (some (50, true)), false⟩,
                      ⟨(some 52), .bin .geq (.t 51) (.c (.int .i64 0)), (some (50, true)), false⟩,
                      ⟨(some 53), .pick (.t 50) (.t 52) (.c (.bool false)), none, false⟩,
                      ⟨(some 47), .mov (.t 53), none, false⟩])
                    (.cond (.t 47) (.seq (.region [
                        ⟨(some 54), .mov (.t 6), none, false⟩,
                        ⟨(some 55), .mov (.t 0), none, false⟩,
                        ⟨(some 56), .mov (.t 7), none, false⟩,
                        ⟨(some 57), .mov (.t 10), none, false⟩,
                        ⟨(some 58), .slStr (.t 55) (some (.t 56)) (some (.t 57)), none, false⟩,
                        ⟨(some 59), .mov (.t 8), none, false⟩,
                        ⟨(some 60), .build [(.str []), (.int .i64 0)] [(0, 1, (.t 58)), (1, 1, (.t 59))], none, false⟩,
                        ⟨(some 61), .buildSl false 2 [(.str []), (.int .i64 0)] [(0, 2, (.t 60))] 1, none, false⟩,
                        ⟨(some 62), .append false 2 24 (.t 54) (.t 61), none, false⟩,
                        ⟨(some 6), .mov (.t 62), none, false⟩])
                      (.region [
                        ⟨(some 7), .mov (.c (.int .i64 (-1))), none, false⟩]))
                     (.skip))))))))))))))
        (.seq (.seq (.region [
            ⟨(some 63), .mov (.t 7), none, false⟩,
            ⟨(some 64), .bin .geq (.t 63) (.c (.int .i64 0)), none, false⟩])
          (.cond (.t 64) (.region [
             ⟨(some 65), .mov (.t 6), none, false⟩,
             ⟨(some 66), .mov (.t 0), none, false⟩,
             ⟨(some 67), .mov (.t 7), none, false⟩,
             ⟨(some 68), .slStr (.t 66) (some (.t 67)) none, none, false⟩,
             ⟨(some 69), .mov (.t 8), none, false⟩,
             ⟨(some 70), .build [(.str []), (.int .i64 0)] [(0, 1, (.t 68)), (1, 1, (.t 69))], none, false⟩,
             ⟨(some 71), .buildSl false 2 [(.str []), (.int .i64 0)] [(0, 2, (.t 70))] 1, none, false⟩,
             ⟨(some 72), .append false 2 24 (.t 65) (.t 71), none, false⟩,
             ⟨(some 6), .mov (.t 72), none, false⟩])
           (.skip)))
         (.seq (.region [
            ⟨(some 73), .mov (.t 6), none, false⟩,
            ⟨(some 2), .mov (.t 73), none, false⟩,
            ⟨(some 3), .mov (.c (.int .i64 0)), none, false⟩])
          (.ret)))))))), [.t 2, .t 3]⟩

/-- deemster/event.kind -/
def F192 : AF :=
  ⟨.seq (.region [
     ⟨(some 2), .mov (.c (.int .i64 0)), none, false⟩])
   (.seq (.seq (.region [
       ⟨(some 5), .load (some 7) (.g 0), none, false⟩,
       ⟨(some 6), .mov (.c (.int .i64 0)), none, false⟩])
     (.block 0 (.loop (.seq (.region [
          ⟨(some 7), .bin .lss (.t 6) (.c (.int .i64 7)), none, false⟩])
        (.seq (.cond (.t 7) (.skip)
          (.exit 0))
         (.seq (.block 1 (.seq (.region [
              ⟨(some 8), .mov (.t 6), none, false⟩,
              ⟨(some 9), .idxVal none 7 1 (.t 5) (.t 6), none, false⟩,
              ⟨(some 3), .mov (.t 8), none, false⟩,
              ⟨(some 4), .mov (.t 9), none, false⟩])
            (.seq (.region [
               ⟨(some 10), .mov (.t 3), none, false⟩,
               ⟨(some 11), .bin .gtr (.t 10) (.c (.int .i64 0)), none, false⟩,
               ⟨(some 12), .mov (.t 11), none, false⟩,
               ⟨(some 13), .mov (.t 4), (some (12, true)), false⟩,
               ⟨(some 14), .mov (.t 0), (some (12, true)), false⟩,
               ⟨(some 15), .bin .eql (.t 13) (.t 14), (some (12, true)), false⟩,
               ⟨(some 16), .pick (.t 12) (.t 15) (.c (.bool false)), none, false⟩])
             (.cond (.t 16) (.seq (.region [
                 ⟨(some 17), .mov (.t 3), none, false⟩,
                 ⟨(some 2), .mov (.t 17), none, false⟩])
               (.ret))
              (.skip)))))
          (.region [
            ⟨(some 18), .bin .add (.t 6) (.c (.int .i64 1)), none, false⟩,
            ⟨(some 6), .mov (.t 18), none, false⟩])))))))
    (.seq (.region [
       ⟨(some 2), .mov (.c (.int .i64 0)), none, false⟩])
     (.ret))), [.t 2]⟩

/-- deemster/event.long -/
def F193 : AF :=
  ⟨.seq (.region [
     ⟨(some 2), .mov (.c (.bool false)), none, false⟩])
   (.seq (.region [
      ⟨(some 3), .mov (.t 0), none, false⟩,
      ⟨(some 4), .bin .eql (.t 3) (.c (.int .i64 2)), none, false⟩,
      ⟨(some 5), .mov (.t 4), none, false⟩,
      ⟨(some 6), .mov (.t 0), (some (5, false)), false⟩,
      ⟨(some 7), .bin .eql (.t 6) (.c (.int .i64 3)), (some (5, false)), false⟩,
      ⟨(some 8), .pick (.t 5) (.c (.bool true)) (.t 7), none, false⟩,
      ⟨(some 2), .mov (.t 8), none, false⟩])
    (.ret)), [.t 2]⟩

/-- deemster/name.Is -/
def F194 : AF :=
  ⟨.seq (.region [
     ⟨(some 2), .mov (.c (.bool false)), none, false⟩])
   (.seq (.seq (.region [
       ⟨(some 6), .mov (.t 0), none, false⟩,
       ⟨(some 7), .call 230 [(.t 6)], none, false⟩,
       ⟨(some 8), .mov (.t 7), none, false⟩,
       ⟨(some 9), .mov (.t 0), (some (8, false)), false⟩,
       ⟨(some 10), .call 231 [(.t 9)], (some (8, false)), false⟩,
       ⟨(some 11), .un .not (.t 10), (some (8, false)), false⟩,
       ⟨(some 12), .pick (.t 8) (.c (.bool true)) (.t 11), none, false⟩])
     (.cond (.t 12) (.seq (.region [
         ⟨(some 2), .mov (.c (.bool false)), none, false⟩])
       (.ret))
      (.skip)))
    (.seq (.region [
       ⟨(some 3), .mov (.c (.int .i64 0)), none, false⟩])
     (.seq (.seq (.region [
         ⟨(some 13), .mov (.t 0), none, false⟩,
         ⟨(some 14), .range true (.t 13), none, false⟩])
       (.block 0 (.loop (.seq (.region [
            ⟨(some 15), .nextStr (.t 14), none, false⟩,
            ⟨(some 16), .extract (.t 15) 0, none, false⟩])
          (.seq (.cond (.t 16) (.skip)
            (.exit 0))
           (.block 1 (.seq (.region [
               ⟨(some 17), .extract (.t 15) 2, none, false⟩,
               ⟨(some 5), .mov (.t 17), none, false⟩])
             (.seq (.seq (.region [
                 ⟨(some 18), .mov (.t 5), none, false⟩,
                 ⟨(some 19), .call 232 [(.t 18)], none, false⟩,
                 ⟨(some 20), .un .not (.t 19), none, false⟩,
                 ⟨(some 21), .mov (.t 20), none, false⟩,
                 ⟨(some 22), .mov (.t 3), (some (21, false)), false⟩,
                 ⟨(some 23), .bin .eql (.t 22) (.c (.int .i64 0)), (some (21, false)), false⟩,
                 ⟨(some 24), .mov (.t 23), (some (21, false)), false⟩,
                 ⟨(some 25), .mov (.t 5), (some (24, true)), false⟩,
                 ⟨(some 26), .call 233 [(.t 25)], (some (24, true)), false⟩,
                 ⟨(some 27), .pick (.t 24) (.t 26) (.c (.bool false)), (some (21, false)), false⟩,
                 ⟨(some 28), .pick (.t 21) (.c (.bool true)) (.t 27), none, false⟩])
               (.cond (.t 28) (.seq (.region [
                   ⟨(some 2), .mov (.c (.bool false)), none, false⟩])
                 (.ret))
                (.skip)))
              (.region [
                ⟨(some 29), .mov (.t 3), none, false⟩,
                ⟨(some 30), .bin .add (.t 29) (.c (.int .i64 1)), none, false⟩,
                ⟨(some 3), .mov (.t 30), none, false⟩])))))))))
      (.seq (.region [
         ⟨(some 31), .mov (.t 3), none, false⟩,
         ⟨(some 32), .bin .gtr (.t 31) (.c (.int .i64 0)), none, false⟩,
         ⟨(some 33), .mov (.t 32), none, false⟩,
         ⟨(some 34), .mov (.t 3), (some (33, true)), false⟩,
         ⟨(some 35), .bin .leq (.t 34) (.c (.int .i64 20)), (some (33, true)), false⟩,
         ⟨(some 36), .pick (.t 33) (.t 35) (.c (.bool false)), none, false⟩,
         ⟨(some 2), .mov (.t 36), none, false⟩])
       (.ret))))), [.t 2]⟩

/-- deemster/table.Make -/
def F197 : AF :=
  ⟨.seq (.region [
     ⟨(some 2), .mov (.c (.sl none true 0 [])), none, true⟩])
   (.seq (.region [
      ⟨(some 3), .mov (.t 0), none, true⟩,
      ⟨(some 4), .call 238 [(.t 3)], none, true⟩,
      ⟨(some 2), .mov (.t 4), none, true⟩])
    (.ret)), [.t 2]⟩

/-- slices.Index[[]string,string] -/
def F198 : AF :=
  ⟨.seq (.region [
     ⟨(some 4), .mov (.c (.int .i64 0)), none, false⟩])
   (.seq (.seq (.region [
       ⟨(some 6), .mov (.t 0), none, false⟩,
       ⟨(some 7), .lenSl (.t 6), none, false⟩,
       ⟨(some 8), .mov (.c (.int .i64 0)), none, false⟩])
     (.block 0 (.loop (.seq (.region [
          ⟨(some 9), .bin .lss (.t 8) (.t 7), none, false⟩])
        (.seq (.cond (.t 9) (.skip)
          (.exit 0))
         (.seq (.block 1 (.seq (.region [
              ⟨(some 10), .mov (.t 8), none, false⟩,
              ⟨(some 5), .mov (.t 10), none, false⟩])
            (.seq (.region [
               ⟨(some 11), .mov (.t 1), none, false⟩,
               ⟨(some 12), .mov (.t 0), none, false⟩,
               ⟨(some 13), .mov (.t 5), none, false⟩,
               ⟨(some 14), .idxSl 1 (.t 12) (.t 13), none, false⟩,
               ⟨(some 15), .load none (.t 14), none, false⟩,
               ⟨(some 16), .bin .eql (.t 11) (.t 15), none, false⟩])
             (.cond (.t 16) (.seq (.region [
                 ⟨(some 17), .mov (.t 5), none, false⟩,
                 ⟨(some 4), .mov (.t 17), none, false⟩])
               (.ret))
              (.skip)))))
          (.region [
            ⟨(some 18), .bin .add (.t 8) (.c (.int .i64 1)), none, false⟩,
            ⟨(some 8), .mov (.t 18), none, false⟩])))))))
    (.seq (.region [
       ⟨(some 4), .mov (.c (.int .i64 (-1))), none, false⟩])
     (.ret))), [.t 4]⟩

/-- strings.genSplit -/
def F224 : AF :=
  ⟨.seq (.region [
     ⟨(some 8), .mov (.c (.sl none true 0 [])), none, false⟩])
   (.seq (.seq (.region [
       ⟨(some 12), .mov (.t 3), none, false⟩,
       ⟨(some 13), .bin .eql (.t 12) (.c (.int .i64 0)), none, false⟩])
     (.cond (.t 13) (.seq (.region [
         ⟨(some 8), .mov (.c (.sl none true 0 [])), none, false⟩])
       (.ret))
      (.skip)))
    (.seq (.seq (.region [
        ⟨(some 14), .mov (.t 1), none, false⟩,
        ⟨(some 15), .bin .eql (.t 14) (.c (.str [])), none, false⟩])
      (.cond (.t 15) (.seq (.region [
          ⟨(some 16), .mov (.t 0), none, false⟩,
          ⟨(some 17), .mov (.t 3), none, false⟩,
          ⟨(some 18), .call 246 [(.t 16), (.t 17)], none, false⟩,
          ⟨(some 8), .mov (.t 18), none, false⟩])
        (.ret))
       (.skip)))
     (.seq (.seq (.region [
         ⟨(some 19), .mov (.t 3), none, false⟩,
         ⟨(some 20), .bin .lss (.t 19) (.c (.int .i64 0)), none, false⟩])
       (.cond (.t 20) (.region [
          ⟨(some 21), .mov (.t 0), none, false⟩,
          ⟨(some 22), .mov (.t 1), none, false⟩,
          ⟨(some 23), .call 247 [(.t 21), (.t 22)], none, false⟩,
          ⟨(some 24), .bin .add (.t 23) (.c (.int .i64 1)), none, false⟩,
          ⟨(some 3), .mov (.t 24), none, false⟩])
        (.skip)))
      (.seq (.region [
         ⟨(some 25), .mov (.t 3), none, false⟩,
         ⟨(some 26), .mov (.t 0), none, false⟩,
         ⟨(some 27), .lenStr (.t 26), none, false⟩,
         ⟨(some 28), .bin .add (.t 27) (.c (.int .i64 1)), none, false⟩,
         ⟨(some 29), .minmax false [(.t 25), (.t 28)], none, false⟩,
         ⟨(some 3), .mov (.t 29), none, false⟩])
       (.seq (.region [
          ⟨(some 30), .mov (.t 3), none, false⟩,
          ⟨(some 31), .mkSl false 1 16 [(.str [])] (.t 30) (.t 30), none, false⟩,
          ⟨(some 9), .mov (.t 31), none, false⟩])
        (.seq (.region [
           ⟨(some 32), .mov (.t 3), none, false⟩,
           ⟨(some 33), .bin .sub (.t 32) (.c (.int .i64 1)), none, false⟩,
           ⟨(some 3), .mov (.t 33), none, false⟩])
         (.seq (.region [
            ⟨(some 10), .mov (.c (.int .i64 0)), none, false⟩])
          (.seq (.block 0 (.loop (.seq (.seq (.region [
                 ⟨(some 34), .mov (.t 10), none, false⟩,
                 ⟨(some 35), .mov (.t 3), none, false⟩,
                 ⟨(some 36), .bin .lss (.t 34) (.t 35), none, false⟩])
               (.cond (.t 36) (.skip)
                (.exit 0)))
              (.block 1 (.seq (.region [
                  ⟨(some 37), .mov (.t 0), none, false⟩,
                  ⟨(some 38), .mov (.t 1), none, false⟩,
                  ⟨(some 39), .call 248 [(.t 37), (.t 38)], none, false⟩,
                  ⟨(some 11), .mov (.t 39), none, false⟩])
                (.seq (.seq (.region [
                    ⟨(some 40), .mov (.t 11), none, false⟩,
                    ⟨(some 41), .bin .lss (.t 40) (.c (.int .i64 0)), none, false⟩])
                  (.cond (.t 41) (.exit 0)
                   (.skip)))
                 (.seq (.region [
                    ⟨(some 42), .mov (.t 9), none, false⟩,
                    ⟨(some 43), .mov (.t 10), none, false⟩,
                    ⟨(some 44), .mov (.t 0), none, false⟩,
                    ⟨(some 45), .mov (.t 11), none, false⟩,
                    ⟨(some 46), .mov (.t 2), none, false⟩,
                    ⟨(some 47), .bin .add (.t 45) (.t 46), none, false⟩,
                    ⟨(some 48), .slStr (.t 44) none (some (.t 47)), none, false⟩,
                    ⟨(some 49), .idxSl 1 (.t 42) (.t 43), none, false⟩,
                    ⟨none, .store 1 (.t 49) (.t 48), none, false⟩])
                  (.seq (.region [
                     ⟨(some 50), .mov (.t 0), none, false⟩,
                     ⟨(some 51), .mov (.t 11), none, false⟩,
                     ⟨(some 52), .mov (.t 1), none, false⟩,
                     ⟨(some 53), .lenStr (.t 52), none, false⟩,
                     ⟨(some 54), .bin .add (.t 51) (.t 53), none, false⟩,
                     ⟨(some 55), .slStr (.t 50) (some (.t 54)) none, none, false⟩,
                     ⟨(some 0), .mov (.t 55), none, false⟩])
                   (.region [
                     ⟨(some 56), .mov (.t 10), none, false⟩,
                     ⟨(some 57), .bin .add (.t 56) (.c (.int .i64 1)), none, false⟩,
                     ⟨(some 10), .mov (.t 57), none, false⟩])))))))))
           (.seq (.region [
              ⟨(some 58), .mov (.t 9), none, false⟩,
              ⟨(some 59), .mov (.t 10), none, false⟩,
              ⟨(some 60), .mov (.t 0), none, false⟩,
              ⟨(some 61), .idxSl 1 (.t 58) (.t 59), none, false⟩,
              ⟨none, .store 1 (.t 61) (.t 60), none, false⟩])
            (.seq (.region [
               ⟨(some 62), .mov (.t 9), none, false⟩,
               ⟨(some 63), .mov (.t 10), none, false⟩,
               ⟨(some 64), .bin .add (.t 63) (.c (.int .i64 1)), none, false⟩,
               ⟨(some 65), .slSl 1 (.t 62) none (some (.t 64)), none, false⟩,
               ⟨(some 8), .mov (.t 65), none, false⟩])
             (.ret))))))))))), [.t 8]⟩

/-- internal/stringslite.TrimSuffix -/
def F225 : AF :=
  ⟨.seq (.region [
     ⟨(some 4), .mov (.c (.str [])), none, false⟩])
   (.seq (.seq (.region [
       ⟨(some 5), .mov (.t 0), none, false⟩,
       ⟨(some 6), .mov (.t 1), none, false⟩,
       ⟨(some 7), .call 249 [(.t 5), (.t 6)], none, false⟩])
     (.cond (.t 7) (.seq (.region [
         ⟨(some 8), .mov (.t 0), none, false⟩,
         ⟨(some 9), .mov (.t 0), none, false⟩,
         ⟨(some 10), .lenStr (.t 9), none, false⟩,
         ⟨(some 11), .mov (.t 1), none, false⟩,
         ⟨(some 12), .lenStr (.t 11), none, false⟩,
         ⟨(some 13), .bin .sub (.t 10) (.t 12), none, false⟩,
         ⟨(some 14), .slStr (.t 8) none (some (.t 13)), none, false⟩,
         ⟨(some 4), .mov (.t 14), none, false⟩])
       (.ret))
      (.skip)))
    (.seq (.region [
       ⟨(some 15), .mov (.t 0), none, false⟩,
       ⟨(some 4), .mov (.t 15), none, false⟩])
     (.ret))), [.t 4]⟩

/-- strings.Contains -/
def F227 : AF :=
  ⟨.seq (.region [
     ⟨(some 4), .mov (.c (.bool false)), none, false⟩])
   (.seq (.region [
      ⟨(some 5), .mov (.t 0), none, false⟩,
      ⟨(some 6), .mov (.t 1), none, false⟩,
      ⟨(some 7), .call 248 [(.t 5), (.t 6)], none, false⟩,
      ⟨(some 8), .bin .geq (.t 7) (.c (.int .i64 0)), none, false⟩,
      ⟨(some 4), .mov (.t 8), none, false⟩])
    (.ret)), [.t 4]⟩

/-- strings.Cut -/
def F228 : AF :=
  ⟨.seq (.region [
     ⟨(some 4), .mov (.c (.str [])), none, false⟩,
     ⟨(some 5), .mov (.c (.str [])), none, false⟩,
     ⟨(some 6), .mov (.c (.bool false)), none, false⟩])
   (.seq (.region [
      ⟨(some 7), .mov (.t 0), none, false⟩,
      ⟨(some 8), .mov (.t 1), none, false⟩,
      ⟨(some 9), .call 251 [(.t 7), (.t 8)], none, false⟩,
      ⟨(some 10), .extract (.t 9) 0, none, false⟩,
      ⟨(some 11), .extract (.t 9) 1, none, false⟩,
      ⟨(some 12), .extract (.t 9) 2, none, false⟩,
      ⟨(some 4), .mov (.t 10), none, false⟩,
      ⟨(some 5), .mov (.t 11), none, false⟩,
      ⟨(some 6), .mov (.t 12), none, false⟩])
    (.ret)), [.t 4, .t 5, .t 6]⟩

/-- deemster/split.blank -/
def F229 : AF :=
  ⟨.seq (.region [
     ⟨(some 2), .mov (.c (.bool false)), none, false⟩])
   (.seq (.region [
      ⟨(some 3), .mov (.t 0), none, false⟩,
      ⟨(some 4), .bin .eql (.t 3) (.c (.int .i32 32)), none, false⟩,
      ⟨(some 5), .mov (.t 4), none, false⟩,
      ⟨(some 6), .mov (.t 0), (some (5, false)), false⟩,
      ⟨(some 7), .bin .eql (.t 6) (.c (.int .i32 9)), (some (5, false)), false⟩,
      ⟨(some 8), .pick (.t 5) (.c (.bool true)) (.t 7), none, false⟩,
      ⟨(some 9), .mov (.t 8), none, false⟩,
      ⟨(some 10), .mov (.t 0), (some (9, false)), false⟩,
      ⟨(some 11), .bin .eql (.t 10) (.c (.int .i32 13)), (some (9, false)), false⟩,
      ⟨(some 12), .pick (.t 9) (.c (.bool true)) (.t 11), none, false⟩,
      ⟨(some 2), .mov (.t 12), none, false⟩])
    (.ret)), [.t 2]⟩

/-- deemster/name.Reserved -/
def F230 : AF :=
  ⟨.seq (.region [
     ⟨(some 2), .mov (.c (.bool false)), none, false⟩])
   (.seq (.seq (.region [
       ⟨(some 3), .mov (.t 0), none, false⟩])
     (.block 0 (.seq (.seq (.region [
          ⟨(some 5), .bin .eql (.t 3) (.c (.str [98, 101, 103, 105, 110])), none, false⟩,
          ⟨(some 4), .mov (.t 5), none, false⟩])
        (.cond (.t 4) (.skip)
         (.seq (.region [
            ⟨(some 6), .bin .eql (.t 3) (.c (.str [114, 101, 97, 100])), none, false⟩,
            ⟨(some 4), .mov (.t 6), none, false⟩])
          (.cond (.t 4) (.skip)
           (.seq (.region [
              ⟨(some 7), .bin .eql (.t 3) (.c (.str [119, 114, 105, 116, 101])), none, false⟩,
              ⟨(some 4), .mov (.t 7), none, false⟩])
            (.cond (.t 4) (.skip)
             (.seq (.region [
                ⟨(some 8), .bin .eql (.t 3) (.c (.str [111, 107])), none, false⟩,
                ⟨(some 4), .mov (.t 8), none, false⟩])
              (.cond (.t 4) (.skip)
               (.seq (.region [
                  ⟨(some 9), .bin .eql (.t 3) (.c (.str [102, 97, 105, 108])), none, false⟩,
                  ⟨(some 4), .mov (.t 9), none, false⟩])
                (.cond (.t 4) (.skip)
                 (.seq (.region [
                    ⟨(some 10), .bin .eql (.t 3) (.c (.str [105, 110, 102, 111])), none, false⟩,
                    ⟨(some 4), .mov (.t 10), none, false⟩])
                  (.cond (.t 4) (.skip)
                   (.region [
                     ⟨(some 11), .bin .eql (.t 3) (.c (.str [110, 105, 108])), none, false⟩,
                     ⟨(some 4), .mov (.t 11), none, false⟩])))))))))))))
       (.cond (.t 4) (.seq (.region [
           ⟨(some 2), .mov (.c (.bool true)), none, false⟩])
         (.ret))
        (.skip)))))
    (.seq (.region [
       ⟨(some 2), .mov (.c (.bool false)), none, false⟩])
     (.ret))), [.t 2]⟩

/-- unicode/utf8.ValidString -/
def F231 : AF :=
  ⟨.seq (.region [
     ⟨(some 2), .mov (.c (.bool false)), none, false⟩])
   (.seq (.block 0 (.loop (.seq (.seq (.region [
          ⟨(some 7), .mov (.t 0), none, false⟩,
          ⟨(some 8), .lenStr (.t 7), none, false⟩,
          ⟨(some 9), .bin .gtr (.t 8) (.c (.int .i64 0)), none, false⟩])
        (.cond (.t 9) (.skip)
         (.exit 0)))
       (.block 1 (.seq (.region [
           ⟨(some 10), .mov (.t 0), none, false⟩,
           ⟨(some 11), .idxStr (.t 10) (.c (.int .i64 0)), none, false⟩,
           ⟨(some 3), .mov (.t 11), none, false⟩])
         (.seq (.seq (.region [
             ⟨(some 12), .mov (.t 3), none, false⟩,
             ⟨(some 13), .bin .lss (.t 12) (.c (.int .u8 128)), none, false⟩])
           (.cond (.t 13) (.seq (.region [
               ⟨(some 14), .mov (.t 0), none, false⟩,
               ⟨(some 15), .slStr (.t 14) (some (.c (.int .i64 1))) none, none, false⟩,
               ⟨(some 0), .mov (.t 15), none, false⟩])
             (.seq (.seq (.region [
                 ⟨(some 16), .mov (.t 0), none, false⟩,
                 ⟨(some 17), .lenStr (.t 16), none, false⟩,
                 ⟨(some 18), .bin .gtr (.t 17) (.c (.int .i64 8)), none, false⟩,
                 ⟨(some 19), .mov (.t 18), none, false⟩,
                 ⟨(some 20), .mov (.t 0), (some (19, true)), false⟩,
                 ⟨(some 21), .call 252 [(.t 20)], (some (19, true)), false⟩,
                 ⟨(some 22), .bin .and (.t 21) (.c (.int .u64 9259542123273814144)), (some (19, true)), false⟩,
                 ⟨(some 23), .bin .eql (.t 22) (.c (.int .u64 0)), (some (19, true)), false⟩,
                 ⟨(some 24), .pick (.t 19) (.t 23) (.c (.bool false)), none, false⟩])
               (.cond (.t 24) (.seq (.region [
                   ⟨(some 25), .mov (.t 0), none, false⟩,
                   ⟨(some 26), .slStr (.t 25) (some (.c (.int .i64 8))) none, none, false⟩,
                   ⟨(some 0), .mov (.t 26), none, false⟩])
                 (.seq (.draw [
                    ⟨(some 27), .mov (.t 0), none, false⟩,
                    ⟨(some 28), .lenStr (.t 27), none, false⟩,
                    ⟨(some 29), .bin .gtr (.t 28) (.c (.int .i64 16)), none, false⟩,
                    ⟨(some 30), .mov (.t 29), none, false⟩,
                    ⟨(some 31), .mov (.t 0), (some (30, true)), false⟩,
                    ⟨(some 32), .call 252 [(.t 31)], (some (30, true)), false⟩,
                    ⟨(some 33), .mov (.t 0), (some (30, true)), false⟩,
                    ⟨(some 34), .slStr (.t 33) (some (.c (.int .i64 8))) none, (some (30, true)), false⟩,
                    ⟨(some 35), .call 252 [(.t 34)], (some (30, true)), false⟩,
                    ⟨(some 36), .bin .or (.t 32) (.t 35), (some (30, true)), false⟩,
                    ⟨(some 37), .bin .and (.t 36) (.c (.int .u64 9259542123273814144)), (some (30, true)), false⟩,
                    ⟨(some 38), .bin .eql (.t 37) (.c (.int .u64 0)), (some (30, true)), false⟩,
                    ⟨(some 39), .pick (.t 30) (.t 38) (.c (.bool false)), none, false⟩] [])
                  (.cond (.t 39) (.seq (.region [
                      ⟨(some 40), .mov (.t 0), none, false⟩,
                      ⟨(some 41), .slStr (.t 40) (some (.c (.int .i64 16))) none, none, false⟩,
                      ⟨(some 0), .mov (.t 41), none, false⟩])
                    (.block 2 (.loop (.seq (.seq (.draw [
                          ⟨(some 42), .mov (.t 0), none, false⟩,
                          ⟨(some 43), .lenStr (.t 42), none, false⟩,
                          ⟨(some 44), .bin .gtr (.t 43) (.c (.int .i64 32)), none, false⟩,
                          ⟨(some 45), .mov (.t 44), none, false⟩,
                          ⟨(some 46), .mov (.t 0), (some (45, true)), false⟩,
                          ⟨(some 47), .call 252 [(.t 46)], (some (45, true)), false⟩,
                          ⟨(some 48), .mov (.t 0), (some (45, true)), false⟩,
                          ⟨(some 49), .slStr (.t 48) (some (.c (.int .i64 8))) none, (some (45, true)), false⟩,
                          ⟨(some 50), .call 252 [(.t 49)], (some (45, true)), false⟩,
                          ⟨(some 51), .bin .or (.t 47) (.t 50), (some (45, true)), false⟩,
                          ⟨(some 52), .mov (.t 0), (some (45, true)), false⟩,
                          ⟨(some 53), .slStr (.t 52) (some (.c (.int .i64 16))) none, (some (45, true)), false⟩,
                          ⟨(some 54), .call 252 [(.t 53)], (some (45, true)), false⟩,
                          ⟨(some 55), .mov (.t 0), (some (45, true)), false⟩,
                          ⟨(some 56), .slStr (.t 55) (some (.c (.int .i64 24))) none, (some (45, true)), false⟩,
                          ⟨(some 57), .call 252 [(.t 56)], (some (45, true)), false⟩,
                          ⟨(some 58), .bin .or (.t 54) (.t 57), (some (45, true)), false⟩,
                          ⟨(some 59), .bin .or (.t 51) (.t 58), (some (45, true)), false⟩,
                          ⟨(some 60), .bin .and (.t 59) (.c (.int .u64 9259542123273814144)), (some (45, true)), false⟩,
                          ⟨(some 61), .bin .eql (.t 60) (.c (.int .u64 0)), (some (45, true)), false⟩,
                          ⟨(some 62), .pick (.t 45) (.t 61) (.c (.bool false)), none, false⟩] [])
                        (.cond (.t 62) (.skip)
                         (.exit 2)))
                       (.block 3 (.region [
                          ⟨(some 63), .mov (.t 0), none, false⟩,
                          ⟨(some 64), .slStr (.t 63) (some (.c (.int .i64 32))) none, none, false⟩,
                          ⟨(some 0), .mov (.t 64), none, false⟩]))))))
                   (.skip))))
                (.skip)))
              (.exit 1)))
            (.skip)))
          (.seq (.region [
             ⟨(some 65), .mov (.t 3), none, false⟩,
             ⟨(some 66), .idxArr 256 1 (.g 1) (.t 65), none, false⟩,
             ⟨(some 67), .load none (.t 66), none, false⟩,
             ⟨(some 4), .mov (.t 67), none, false⟩])
           (.seq (.region [
              ⟨(some 68), .mov (.t 4), none, false⟩,
              ⟨(some 69), .bin .and (.t 68) (.c (.int .u8 7)), none, false⟩,
              ⟨(some 70), .conv .i64 (.t 69), none, false⟩,
              ⟨(some 5), .mov (.t 70), none, false⟩])
            (.seq (.region [
               ⟨(some 71), .mov (.t 4), none, false⟩,
               ⟨(some 72), .bin .shr (.t 71) (.c (.int .u64 4)), none, false⟩,
               ⟨(some 73), .idxArr 16 2 (.g 2) (.t 72), none, false⟩,
               ⟨(some 74), .load (some 2) (.t 73), none, false⟩,
               ⟨(some 6), .alloc [(.int .u8 0), (.int .u8 0)], none, false⟩,
               ⟨none, .store 2 (.t 6) (.t 74), none, false⟩])
             (.seq (.region [
                ⟨(some 75), .mov (.t 5), none, false⟩])
              (.block 4 (.seq (.region [
                  ⟨(some 77), .bin .eql (.t 75) (.c (.int .i64 2)), none, false⟩,
                  ⟨(some 76), .mov (.t 77), none, false⟩])
                (.cond (.t 76) (.seq (.seq (.draw [
                     ⟨(some 78), .mov (.t 0), none, false⟩,
                     ⟨(some 79), .lenStr (.t 78), none, false⟩,
                     ⟨(some 80), .bin .lss (.t 79) (.c (.int .i64 2)), none, false⟩,
                     ⟨(some 81), .mov (.t 80), none, false⟩,
                     ⟨(some 82), .mov (.t 0), (some (81, false)), false⟩,
                     ⟨(some 83), .idxStr (.t 82) (.c (.int .i64 1)), (some (81, false)), false⟩,
                     ⟨(some 84), .fieldAddr 0 (.t 6), (some (81, false)), false⟩,
                     ⟨(some 85), .load none (.t 84), (some (81, false)), false⟩,
                     ⟨(some 86), .bin .lss (.t 83) (.t 85), (some (81, false)), false⟩,
                     ⟨(some 87), .pick (.t 81) (.c (.bool true)) (.t 86), none, false⟩,
                     ⟨(some 88), .mov (.t 87), none, false⟩,
                     ⟨(some 89), .fieldAddr 1 (.t 6), (some (88, false)), false⟩,
                     ⟨(some 90), .load none (.t 89), (some (88, false)), false⟩,
                     ⟨(some 91), .mov (.t 0), (some (88, false)), false⟩,
                     ⟨(some 92), .idxStr (.t 91) (.c (.int .i64 1)), (some (88, false)), false⟩,
                     ⟨(some 93), .bin .lss (.t 90) (.t 92), (some (88, false)), false⟩,
                     ⟨(some 94), .pick (.t 88) (.c (.bool true)) (.t 93), none, false⟩] [])
                   (.cond (.t 94) (.seq (.region [
                       ⟨(some 2), .mov (.c (.bool false)), none, false⟩])
                     (.ret))
                    (.skip)))
                  (.region [
                    ⟨(some 95), .mov (.t 0), none, false⟩,
                    ⟨(some 96), .slStr (.t 95) (some (.c (.int .i64 2))) none, none, false⟩,
                    ⟨(some 0), .mov (.t 96), none, false⟩]))
                 (.seq (.region [
                    ⟨(some 98), .bin .eql (.t 75) (.c (.int .i64 3)), none, false⟩,
                    ⟨(some 97), .mov (.t 98), none, false⟩])
                  (.cond (.t 97) (.seq (.seq (.draw [
                       ⟨(some 99), .mov (.t 0), none, false⟩,
                       ⟨(some 100), .lenStr (.t 99), none, false⟩,
                       ⟨(some 101), .bin .lss (.t 100) (.c (.int .i64 3)), none, false⟩,
                       ⟨(some 102), .mov (.t 101), none, false⟩,
                       ⟨(some 103), .mov (.t 0), (some (102, false)), false⟩,
                       ⟨(some 104), .idxStr (.t 103) (.c (.int .i64 1)), (some (102, false)), false⟩,
                       ⟨(some 105), .fieldAddr 0 (.t 6), (some (102, false)), false⟩,
                       ⟨(some 106), .load none (.t 105), (some (102, false)), false⟩,
                       ⟨(some 107), .bin .lss (.t 104) (.t 106), (some (102, false)), false⟩,
                       ⟨(some 108), .pick (.t 102) (.c (.bool true)) (.t 107), none, false⟩,
                       ⟨(some 109), .mov (.t 108), none, false⟩,
                       ⟨(some 110), .fieldAddr 1 (.t 6), (some (109, false)), false⟩,
                       ⟨(some 111), .load none (.t 110), (some (109, false)), false⟩,
                       ⟨(some 112), .mov (.t 0), (some (109, false)), false⟩,
                       ⟨(some 113), .idxStr (.t 112) (.c (.int .i64 1)), (some (109, false)), false⟩,
                       ⟨(some 114), .bin .lss (.t 111) (.t 113), (some (109, false)), false⟩,
                       ⟨(some 115), .pick (.t 109) (.c (.bool true)) (.t 114), none, false⟩,
                       ⟨(some 116), .mov (.t 115), none, false⟩,
                       ⟨(some 117), .mov (.t 0), (some (116, false)), false⟩,
                       ⟨(some 118), .idxStr (.t 117) (.c (.int .i64 2)), (some (116, false)), false⟩,
                       ⟨(some 119), .bin .lss (.t 118) (.c (.int .u8 128)), (some (116, false)), false⟩,
                       ⟨(some 120), .pick (.t 116) (.c (.bool true)) (.t 119), none, false⟩,
                       ⟨(some 121), .mov (.t 120), none, false⟩,
                       ⟨(some 122), .mov (.t 0), (some (121, false)), false⟩,
                       ⟨(some 123), .idxStr (.t 122) (.c (.int .i64 2)), (some (121, false)), false⟩,
                       ⟨(some 124), .bin .lss (.c (.int .u8 191)) (.t 123), (some (121, false)), false⟩,
                       ⟨(some 125), .pick (.t 121) (.c (.bool true)) (.t 124), none, false⟩] [])
                     (.cond (.t 125) (.seq (.region [
                         ⟨(some 2), .mov (.c (.bool false)), none, false⟩])
                       (.ret))
                      (.skip)))
                    (.region [
                      ⟨(some 126), .mov (.t 0), none, false⟩,
                      ⟨(some 127), .slStr (.t 126) (some (.c (.int .i64 3))) none, none, false⟩,
                      ⟨(some 0), .mov (.t 127), none, false⟩]))
                   (.seq (.region [
                      ⟨(some 129), .bin .eql (.t 75) (.c (.int .i64 4)), none, false⟩,
                      ⟨(some 128), .mov (.t 129), none, false⟩])
                    (.cond (.t 128) (.seq (.seq (.draw [
                         ⟨(some 130), .mov (.t 0), none, false⟩,
                         ⟨(some 131), .lenStr (.t 130), none, false⟩,
                         ⟨(some 132), .bin .lss (.t 131) (.c (.int .i64 4)), none, false⟩,
                         ⟨(some 133), .mov (.t 132), none, false⟩,
                         ⟨(some 134), .mov (.t 0), (some (133, false)), false⟩,
                         ⟨(some 135), .idxStr (.t 134) (.c (.int .i64 1)), (some (133, false)), false⟩,
                         ⟨(some 136), .fieldAddr 0 (.t 6), (some (133, false)), false⟩,
                         ⟨(some 137), .load none (.t 136), (some (133, false)), false⟩,
                         ⟨(some 138), .bin .lss (.t 135) (.t 137), (some (133, false)), false⟩,
                         ⟨(some 139), .pick (.t 133) (.c (.bool true)) (.t 138), none, false⟩,
                         ⟨(some 140), .mov (.t 139), none, false⟩,
                         ⟨(some 141), .fieldAddr 1 (.t 6), (some (140, false)), false⟩,
                         ⟨(some 142), .load none (.t 141), (some (140, false)), false⟩,
                         ⟨(some 143), .mov (.t 0), (some (140, false)), false⟩,
                         ⟨(some 144), .idxStr (.t 143) (.c (.int .i64 1)), (some (140, false)), false⟩,
                         ⟨(some 145), .bin .lss (.t 142) (.t 144), (some (140, false)), false⟩,
                         ⟨(some 146), .pick (.t 140) (.c (.bool true)) (.t 145), none, false⟩,
                         ⟨(some 147), .mov (.t 146), none, false⟩,
                         ⟨(some 148), .mov (.t 0), (some (147, false)), false⟩,
                         ⟨(some 149), .idxStr (.t 148) (.c (.int .i64 2)), (some (147, false)), false⟩,
                         ⟨(some 150), .bin .lss (.t 149) (.c (.int .u8 128)), (some (147, false)), false⟩,
                         ⟨(some 151), .pick (.t 147) (.c (.bool true)) (.t 150), none, false⟩,
                         ⟨(some 152), .mov (.t 151), none, false⟩,
                         ⟨(some 153), .mov (.t 0), (some (152, false)), false⟩,
                         ⟨(some 154), .idxStr (.t 153) (.c (.int .i64 2)), (some (152, false)), false⟩,
                         ⟨(some 155), .bin .lss (.c (.int .u8 191)) (.t 154), (some (152, false)), false⟩,
                         ⟨(some 156), .pick (.t 152) (.c (.bool true)) (.t 155), none, false⟩,
                         ⟨(some 157), .mov (.t 156), none, false⟩,
                         ⟨(some 158), .mov (.t 0), (some (157, false)), false⟩,
                         ⟨(some 159), .idxStr (.t 158) (.c (.int .i64 3)), (some (157, false)), false⟩,
                         ⟨(some 160), .bin .lss (.t 159) (.c (.int .u8 128)), (some (157, false)), false⟩,
                         ⟨(some 161), .pick (.t 157) (.c (.bool true)) (.t 160), none, false⟩,
                         ⟨(some 162), .mov (.t 161), none, false⟩,
                         ⟨(some 163), .mov (.t 0), (some (162, false)), false⟩,
                         ⟨(some 164), .idxStr (.t 163) (.c (.int .i64 3)), (some (162, false)), false⟩,
                         ⟨(some 165), .bin .lss (.c (.int .u8 191)) (.t 164), (some (162, false)), false⟩,
                         ⟨(some 166), .pick (.t 162) (.c (.bool true)) (.t 165), none, false⟩] [])
                       (.cond (.t 166) (.seq (.region [
                           ⟨(some 2), .mov (.c (.bool false)), none, false⟩])
                         (.ret))
                        (.skip)))
                      (.region [
                        ⟨(some 167), .mov (.t 0), none, false⟩,
                        ⟨(some 168), .slStr (.t 167) (some (.c (.int .i64 4))) none, none, false⟩,
                        ⟨(some 0), .mov (.t 168), none, false⟩]))
                     (.seq (.region [
                        ⟨(some 2), .mov (.c (.bool false)), none, false⟩])
                      (.ret)))))))))))))))))))
    (.seq (.region [
       ⟨(some 2), .mov (.c (.bool true)), none, false⟩])
     (.ret))), [.t 2]⟩

/-- deemster/name.part -/
def F232 : AF :=
  ⟨.seq (.region [
     ⟨(some 2), .mov (.c (.bool false)), none, false⟩])
   (.seq (.region [
      ⟨(some 3), .mov (.t 0), none, false⟩,
      ⟨(some 4), .bin .gtr (.t 3) (.c (.int .i32 127)), none, false⟩,
      ⟨(some 5), .mov (.t 4), none, false⟩,
      ⟨(some 6), .mov (.t 0), (some (5, false)), false⟩,
      ⟨(some 7), .bin .eql (.t 6) (.c (.int .i32 95)), (some (5, false)), false⟩,
      ⟨(some 8), .pick (.t 5) (.c (.bool true)) (.t 7), none, false⟩,
      ⟨(some 9), .mov (.t 8), none, false⟩,
      ⟨(some 10), .mov (.t 0), (some (9, false)), false⟩,
      ⟨(some 11), .call 233 [(.t 10)], (some (9, false)), false⟩,
      ⟨(some 12), .pick (.t 9) (.c (.bool true)) (.t 11), none, false⟩,
      ⟨(some 13), .mov (.t 12), none, false⟩,
      ⟨(some 14), .mov (.t 0), (some (13, false)), false⟩,
      ⟨(some 15), .bin .geq (.t 14) (.c (.int .i32 97)), (some (13, false)), false⟩,
      ⟨(some 16), .mov (.t 15), (some (13, false)), false⟩,
      ⟨(some 17), .mov (.t 0), (some (16, true)), false⟩,
      ⟨(some 18), .bin .leq (.t 17) (.c (.int .i32 122)), (some (16, true)), false⟩,
      ⟨(some 19), .pick (.t 16) (.t 18) (.c (.bool false)), (some (13, false)), false⟩,
      ⟨(some 20), .pick (.t 13) (.c (.bool true)) (.t 19), none, false⟩,
      ⟨(some 21), .mov (.t 20), none, false⟩,
      ⟨(some 22), .mov (.t 0), (some (21, false)), false⟩,
      ⟨(some 23), .bin .geq (.t 22) (.c (.int .i32 65)), (some (21, false)), false⟩,
      ⟨(some 24), .mov (.t 23), (some (21, false)), false⟩,
      ⟨(some 25), .mov (.t 0), (some (24, true)), false⟩,
      ⟨(some 26), .bin .leq (.t 25) (.c (.int .i32 90)), (some (24, true)), false⟩,
      ⟨(some 27), .pick (.t 24) (.t 26) (.c (.bool false)), (some (21, false)), false⟩,
      ⟨(some 28), .pick (.t 21) (.c (.bool true)) (.t 27), none, false⟩,
      ⟨(some 2), .mov (.t 28), none, false⟩])
    (.ret)), [.t 2]⟩

/-- deemster/name.digit -/
def F233 : AF :=
  ⟨.seq (.region [
     ⟨(some 2), .mov (.c (.bool false)), none, false⟩])
   (.seq (.region [
      ⟨(some 3), .mov (.t 0), none, false⟩,
      ⟨(some 4), .bin .geq (.t 3) (.c (.int .i32 48)), none, false⟩,
      ⟨(some 5), .mov (.t 4), none, false⟩,
      ⟨(some 6), .mov (.t 0), (some (5, true)), false⟩,
      ⟨(some 7), .bin .leq (.t 6) (.c (.int .i32 57)), (some (5, true)), false⟩,
      ⟨(some 8), .pick (.t 5) (.t 7) (.c (.bool false)), none, false⟩,
      ⟨(some 2), .mov (.t 8), none, false⟩])
    (.ret)), [.t 2]⟩

/-- deemster/event.May -/
def F235 : AF :=
  ⟨.seq (.region [
     ⟨(some 1), .box 6 (.t 0), none, false⟩,
     ⟨(some 2), .mov (.c (.bool false)), none, false⟩])
   (.seq (.block 0 (.seq (.region [
        ⟨(some 4), .fieldAddr 0 (.t 1), none, false⟩,
        ⟨(some 5), .load none (.t 4), none, false⟩,
        ⟨(some 6), .bin .lss (.t 5) (.c (.int .i64 1)), none, false⟩,
        ⟨(some 7), .mov (.t 6), none, false⟩,
        ⟨(some 8), .fieldAddr 0 (.t 1), (some (7, false)), false⟩,
        ⟨(some 9), .load none (.t 8), (some (7, false)), false⟩,
        ⟨(some 10), .bin .gtr (.t 9) (.c (.int .i64 6)), (some (7, false)), false⟩,
        ⟨(some 11), .pick (.t 7) (.c (.bool true)) (.t 10), none, false⟩,
        ⟨(some 12), .mov (.t 11), none, false⟩,
        ⟨(some 13), .fieldAddr 1 (.t 1), (some (12, false)), false⟩,
        ⟨(some 14), .load none (.t 13), (some (12, false)), false⟩,
        ⟨(some 15), .call 194 [(.t 14)], (some (12, false)), false⟩,
        ⟨(some 16), .un .not (.t 15), (some (12, false)), false⟩,
        ⟨(some 17), .pick (.t 12) (.c (.bool true)) (.t 16), none, false⟩,
        ⟨(some 3), .mov (.t 17), none, false⟩])
      (.cond (.t 3) (.seq (.region [
          ⟨(some 2), .mov (.c (.bool false)), none, false⟩])
        (.ret))
       (.seq (.region [
          ⟨(some 19), .fieldAddr 0 (.t 1), none, false⟩,
          ⟨(some 20), .load none (.t 19), none, false⟩,
          ⟨(some 21), .call 193 [(.t 20)], none, false⟩,
          ⟨(some 22), .un .not (.t 21), none, false⟩,
          ⟨(some 18), .mov (.t 22), none, false⟩])
        (.cond (.t 18) (.seq (.region [
            ⟨(some 23), .fieldAddr 2 (.t 1), none, false⟩,
            ⟨(some 24), .load none (.t 23), none, false⟩,
            ⟨(some 25), .bin .eql (.t 24) (.c (.str [])), none, false⟩,
            ⟨(some 26), .mov (.t 25), none, false⟩,
            ⟨(some 27), .fieldAddr 3 (.t 1), (some (26, true)), false⟩,
            ⟨(some 28), .load (some 2) (.t 27), (some (26, true)), false⟩,
            ⟨(some 29), .build [(.int .i64 0), (.int .i64 0)] [], (some (26, true)), false⟩,
            ⟨(some 30), .eq false (.struct [.int, .int]) (.t 28) (.t 29), (some (26, true)), false⟩,
            ⟨(some 31), .pick (.t 26) (.t 30) (.c (.bool false)), none, false⟩,
            ⟨(some 2), .mov (.t 31), none, false⟩])
          (.ret))
         (.skip))))))
    (.seq (.region [
       ⟨(some 32), .fieldAddr 2 (.t 1), none, false⟩,
       ⟨(some 33), .load none (.t 32), none, false⟩,
       ⟨(some 34), .call 194 [(.t 33)], none, false⟩,
       ⟨(some 35), .mov (.t 34), none, false⟩,
       ⟨(some 36), .fieldAddr 3 (.t 1), (some (35, true)), false⟩,
       ⟨(some 37), .load (some 2) (.t 36), (some (35, true)), false⟩,
       ⟨(some 38), .call 119 [(.t 37)], (some (35, true)), false⟩,
       ⟨(some 39), .pick (.t 35) (.t 38) (.c (.bool false)), none, false⟩,
       ⟨(some 40), .mov (.t 39), none, false⟩,
       ⟨(some 41), .fieldAddr 0 (.t 1), (some (40, true)), false⟩,
       ⟨(some 42), .load none (.t 41), (some (40, true)), false⟩,
       ⟨(some 43), .bin .eql (.t 42) (.c (.int .i64 2)), (some (40, true)), false⟩,
       ⟨(some 44), .mov (.t 43), (some (40, true)), false⟩,
       ⟨(some 45), .fieldAddr 3 (.t 1), (some (44, false)), false⟩,
       ⟨(some 46), .fieldAddr 0 (.t 45), (some (44, false)), false⟩,
       ⟨(some 47), .load none (.t 46), (some (44, false)), false⟩,
       ⟨(some 48), .bin .eql (.t 47) (.c (.int .i64 1)), (some (44, false)), false⟩,
       ⟨(some 49), .pick (.t 44) (.c (.bool true)) (.t 48), (some (40, true)), false⟩,
       ⟨(some 50), .pick (.t 40) (.t 49) (.c (.bool false)), none, false⟩,
       ⟨(some 2), .mov (.t 50), none, false⟩])
     (.ret))), [.t 2]⟩

/-- deemster/name.Sorted -/
def F238 : AF :=
  ⟨.seq (.region [
     ⟨(some 2), .mov (.c (.sl none true 0 [])), none, true⟩])
   (.seq (.region [
      ⟨(some 3), .mov (.c (.sl none true 0 [])), none, true⟩])
    (.seq (.seq (.region [
        ⟨(some 6), .mov (.t 0), none, true⟩,
        ⟨(some 7), .lenSl (.t 6), none, true⟩,
        ⟨(some 8), .mov (.c (.int .i64 0)), none, true⟩])
      (.block 0 (.loop (.seq (.region [
           ⟨(some 9), .bin .lss (.t 8) (.t 7), none, true⟩])
         (.seq (.cond (.t 9) (.skip)
           (.exit 0))
          (.seq (.block 1 (.seq (.region [
               ⟨(some 10), .idxSl 1 (.t 6) (.t 8), none, true⟩,
               ⟨(some 11), .load none (.t 10), none, true⟩,
               ⟨(some 5), .mov (.t 11), none, true⟩])
             (.seq (.region [
                ⟨(some 12), .mov (.t 5), none, true⟩,
                ⟨(some 13), .call 194 [(.t 12)], none, true⟩])
              (.cond (.t 13) (.region [
                 ⟨(some 14), .mov (.t 3), none, true⟩,
                 ⟨(some 15), .mov (.t 5), none, true⟩,
                 ⟨(some 16), .buildSl true 1 [(.str [])] [(0, 1, (.t 15))] 1, none, true⟩,
                 ⟨(some 17), .append true 1 16 (.t 14) (.t 16), none, true⟩,
                 ⟨(some 3), .mov (.t 17), none, true⟩])
               (.skip)))))
           (.region [
             ⟨(some 18), .bin .add (.t 8) (.c (.int .i64 1)), none, true⟩,
             ⟨(some 8), .mov (.t 18), none, true⟩])))))))
     (.seq (.region [
        ⟨(some 19), .mov (.t 3), none, true⟩,
        ⟨(some 20), .call 254 [(.t 19), (.c (.fn (.func 239) [] []))], none, true⟩])
      (.seq (.region [
         ⟨(some 21), .mov (.t 3), none, true⟩,
         ⟨(some 22), .call 255 [(.t 21)], none, true⟩,
         ⟨(some 2), .mov (.t 22), none, true⟩])
       (.ret))))), [.t 2]⟩

/-- strings.Count -/
def F247 : AF :=
  ⟨.seq (.region [
     ⟨(some 4), .mov (.c (.int .i64 0)), none, false⟩])
   (.seq (.seq (.region [
       ⟨(some 7), .mov (.t 1), none, false⟩,
       ⟨(some 8), .lenStr (.t 7), none, false⟩,
       ⟨(some 9), .bin .eql (.t 8) (.c (.int .i64 0)), none, false⟩])
     (.cond (.t 9) (.seq (.region [
         ⟨(some 10), .mov (.t 0), none, false⟩,
         ⟨(some 11), .call 258 [(.t 10)], none, false⟩,
         ⟨(some 12), .bin .add (.t 11) (.c (.int .i64 1)), none, false⟩,
         ⟨(some 4), .mov (.t 12), none, false⟩])
       (.ret))
      (.skip)))
    (.seq (.seq (.region [
        ⟨(some 13), .mov (.t 1), none, false⟩,
        ⟨(some 14), .lenStr (.t 13), none, false⟩,
        ⟨(some 15), .bin .eql (.t 14) (.c (.int .i64 1)), none, false⟩])
      (.cond (.t 15) (.seq (.region [
          ⟨(some 16), .mov (.t 0), none, false⟩,
          ⟨(some 17), .mov (.t 1), none, false⟩,
          ⟨(some 18), .idxStr (.t 17) (.c (.int .i64 0)), none, false⟩,
          ⟨(some 19), .ext .count [(.t 16), (.t 18)], none, false⟩,
          ⟨(some 4), .mov (.t 19), none, false⟩])
        (.ret))
       (.skip)))
     (.seq (.region [
        ⟨(some 5), .mov (.c (.int .i64 0)), none, false⟩])
      (.block 0 (.loop (.block 1 (.seq (.region [
            ⟨(some 20), .mov (.t 0), none, false⟩,
            ⟨(some 21), .mov (.t 1), none, false⟩,
            ⟨(some 22), .call 248 [(.t 20), (.t 21)], none, false⟩,
            ⟨(some 6), .mov (.t 22), none, false⟩])
          (.seq (.seq (.region [
              ⟨(some 23), .mov (.t 6), none, false⟩,
              ⟨(some 24), .bin .eql (.t 23) (.c (.int .i64 (-1))), none, false⟩])
            (.cond (.t 24) (.seq (.region [
                ⟨(some 25), .mov (.t 5), none, false⟩,
                ⟨(some 4), .mov (.t 25), none, false⟩])
              (.ret))
             (.skip)))
           (.seq (.region [
              ⟨(some 26), .mov (.t 5), none, false⟩,
              ⟨(some 27), .bin .add (.t 26) (.c (.int .i64 1)), none, false⟩,
              ⟨(some 5), .mov (.t 27), none, false⟩])
            (.region [
              ⟨(some 28), .mov (.t 0), none, false⟩,
              ⟨(some 29), .mov (.t 6), none, false⟩,
              ⟨(some 30), .mov (.t 1), none, false⟩,
              ⟨(some 31), .lenStr (.t 30), none, false⟩,
              ⟨(some 32), .bin .add (.t 29) (.t 31), none, false⟩,
              ⟨(some 33), .slStr (.t 28) (some (.t 32)) none, none, false⟩,
              ⟨(some 0), .mov (.t 33), none, false⟩])))))))))), [.t 4]⟩

/-- strings.Index -/
def F248 : AF :=
  ⟨.seq (.region [
     ⟨(some 4), .mov (.c (.int .i64 0)), none, false⟩])
   (.seq (.region [
      ⟨(some 5), .mov (.t 0), none, false⟩,
      ⟨(some 6), .mov (.t 1), none, false⟩,
      ⟨(some 7), .call 261 [(.t 5), (.t 6)], none, false⟩,
      ⟨(some 4), .mov (.t 7), none, false⟩])
    (.ret)), [.t 4]⟩

/-- internal/stringslite.HasSuffix -/
def F249 : AF :=
  ⟨.seq (.region [
     ⟨(some 4), .mov (.c (.bool false)), none, false⟩])
   (.seq (.region [
      ⟨(some 5), .mov (.t 0), none, false⟩,
      ⟨(some 6), .lenStr (.t 5), none, false⟩,
      ⟨(some 7), .mov (.t 1), none, false⟩,
      ⟨(some 8), .lenStr (.t 7), none, false⟩,
      ⟨(some 9), .bin .geq (.t 6) (.t 8), none, false⟩,
      ⟨(some 10), .mov (.t 9), none, false⟩,
      ⟨(some 11), .mov (.t 0), (some (10, true)), false⟩,
      ⟨(some 12), .mov (.t 0), (some (10, true)), false⟩,
      ⟨(some 13), .lenStr (.t 12), (some (10, true)), false⟩,
      ⟨(some 14), .mov (.t 1), (some (10, true)), false⟩,
      ⟨(some 15), .lenStr (.t 14), (some (10, true)), false⟩,
      ⟨(some 16), .bin .sub (.t 13) (.t 15), (some (10, true)), false⟩,
      ⟨(some 17), .slStr (.t 11) (some (.t 16)) none, (some (10, true)), false⟩,
      ⟨(some 18), .mov (.t 1), (some (10, true)), false⟩,
      ⟨(some 19), .bin .eql (.t 17) (.t 18), (some (10, true)), false⟩,
      ⟨(some 20), .pick (.t 10) (.t 19) (.c (.bool false)), none, false⟩,
      ⟨(some 4), .mov (.t 20), none, false⟩])
    (.ret)), [.t 4]⟩

/-- internal/stringslite.Cut -/
def F251 : AF :=
  ⟨.seq (.region [
     ⟨(some 4), .mov (.c (.str [])), none, false⟩,
     ⟨(some 5), .mov (.c (.str [])), none, false⟩,
     ⟨(some 6), .mov (.c (.bool false)), none, false⟩])
   (.seq (.seq (.region [
       ⟨(some 8), .mov (.t 0), none, false⟩,
       ⟨(some 9), .mov (.t 1), none, false⟩,
       ⟨(some 10), .call 261 [(.t 8), (.t 9)], none, false⟩,
       ⟨(some 7), .mov (.t 10), none, false⟩])
     (.seq (.region [
        ⟨(some 11), .mov (.t 7), none, false⟩,
        ⟨(some 12), .bin .geq (.t 11) (.c (.int .i64 0)), none, false⟩])
      (.cond (.t 12) (.seq (.draw [
          ⟨(some 13), .mov (.t 0), none, false⟩,
          ⟨(some 14), .mov (.t 7), none, false⟩,
          ⟨(some 15), .slStr (.t 13) none (some (.t 14)), none, false⟩,
          ⟨(some 16), .mov (.t 0), none, false⟩,
          ⟨(some 17), .mov (.t 7), none, false⟩,
          ⟨(some 18), .mov (.t 1), none, false⟩,
          ⟨(some 19), .lenStr (.t 18), none, false⟩,
          ⟨(some 20), .bin .add (.t 17) (.t 19), none, false⟩,
          ⟨(some 21), .slStr (.t 16) (some (.t 20)) none, none, false⟩,
          ⟨(some 4), .mov (.t 15), none, false⟩,
          ⟨(some 5), .mov (.t 21), none, false⟩,
          ⟨(some 6), .mov (.c (.bool true)), none, false⟩] [])
        (.ret))
       (.skip))))
    (.seq (.region [
       ⟨(some 22), .mov (.t 0), none, false⟩,
       ⟨(some 4), .mov (.t 22), none, false⟩,
       ⟨(some 5), .mov (.c (.str [])), none, false⟩,
       ⟨(some 6), .mov (.c (.bool false)), none, false⟩])
     (.ret))), [.t 4, .t 5, .t 6]⟩

/-- internal/stringslite.Index -/
def F261 : AF :=
  ⟨.seq (.region [
     ⟨(some 4), .mov (.c (.int .i64 0)), none, false⟩])
   (.seq (.region [
      ⟨(some 14), .mov (.t 1), none, false⟩,
      ⟨(some 15), .lenStr (.t 14), none, false⟩,
      ⟨(some 5), .mov (.t 15), none, false⟩])
    (.seq (.block 0 (.seq (.region [
         ⟨(some 17), .mov (.t 5), none, false⟩,
         ⟨(some 18), .bin .eql (.t 17) (.c (.int .i64 0)), none, false⟩,
         ⟨(some 19), .mov (.t 18), none, false⟩,
         ⟨(some 20), .mov (.t 1), (some (19, false)), false⟩,
         ⟨(some 21), .mov (.t 0), (some (19, false)), false⟩,
         ⟨(some 22), .bin .eql (.t 20) (.t 21), (some (19, false)), false⟩,
         ⟨(some 23), .pick (.t 19) (.c (.bool true)) (.t 22), none, false⟩,
         ⟨(some 16), .mov (.t 23), none, false⟩])
       (.cond (.t 16) (.seq (.region [
           ⟨(some 4), .mov (.c (.int .i64 0)), none, false⟩])
         (.ret))
        (.seq (.region [
           ⟨(some 25), .mov (.t 5), none, false⟩,
           ⟨(some 26), .bin .eql (.t 25) (.c (.int .i64 1)), none, false⟩,
           ⟨(some 24), .mov (.t 26), none, false⟩])
         (.cond (.t 24) (.seq (.region [
             ⟨(some 27), .mov (.t 0), none, false⟩,
             ⟨(some 28), .mov (.t 1), none, false⟩,
             ⟨(some 29), .idxStr (.t 28) (.c (.int .i64 0)), none, false⟩,
             ⟨(some 30), .call 267 [(.t 27), (.t 29)], none, false⟩,
             ⟨(some 4), .mov (.t 30), none, false⟩])
           (.ret))
          (.seq (.region [
             ⟨(some 32), .mov (.t 5), none, false⟩,
             ⟨(some 33), .mov (.t 0), none, false⟩,
             ⟨(some 34), .lenStr (.t 33), none, false⟩,
             ⟨(some 35), .bin .geq (.t 32) (.t 34), none, false⟩,
             ⟨(some 31), .mov (.t 35), none, false⟩])
           (.cond (.t 31) (.seq (.region [
               ⟨(some 4), .mov (.c (.int .i64 (-1))), none, false⟩])
             (.ret))
            (.seq (.region [
               ⟨(some 37), .mov (.t 5), none, false⟩,
               ⟨(some 38), .load none (.g 3), none, false⟩,
               ⟨(some 39), .bin .leq (.t 37) (.t 38), none, false⟩,
               ⟨(some 40), .mov (.t 39), none, false⟩,
               ⟨(some 41), .mov (.t 0), (some (40, true)), false⟩,
               ⟨(some 42), .lenStr (.t 41), (some (40, true)), false⟩,
               ⟨(some 43), .bin .leq (.t 42) (.c (.int .i64 64)), (some (40, true)), false⟩,
               ⟨(some 44), .pick (.t 40) (.t 43) (.c (.bool false)), none, false⟩,
               ⟨(some 36), .mov (.t 44), none, false⟩])
             (.cond (.t 36) (.seq (.region [
                 ⟨(some 45), .mov (.t 0), none, false⟩,
                 ⟨(some 46), .mov (.t 1), none, false⟩,
                 ⟨(some 47), .call 268 [(.t 45), (.t 46)], none, false⟩,
                 ⟨(some 4), .mov (.t 47), none, false⟩])
               (.ret))
              (.skip))))))))))
     (.seq (.region [
        ⟨(some 48), .mov (.t 1), none, false⟩,
        ⟨(some 49), .idxStr (.t 48) (.c (.int .i64 0)), none, false⟩,
        ⟨(some 6), .mov (.t 49), none, false⟩])
      (.seq (.region [
         ⟨(some 50), .mov (.t 1), none, false⟩,
         ⟨(some 51), .idxStr (.t 50) (.c (.int .i64 1)), none, false⟩,
         ⟨(some 7), .mov (.t 51), none, false⟩])
       (.seq (.region [
          ⟨(some 8), .mov (.c (.int .i64 0)), none, false⟩])
        (.seq (.region [
           ⟨(some 52), .mov (.t 0), none, false⟩,
           ⟨(some 53), .lenStr (.t 52), none, false⟩,
           ⟨(some 54), .mov (.t 5), none, false⟩,
           ⟨(some 55), .bin .sub (.t 53) (.t 54), none, false⟩,
           ⟨(some 56), .bin .add (.t 55) (.c (.int .i64 1)), none, false⟩,
           ⟨(some 9), .mov (.t 56), none, false⟩])
         (.seq (.region [
            ⟨(some 10), .mov (.c (.int .i64 0)), none, false⟩])
          (.seq (.block 1 (.loop (.seq (.seq (.region [
                 ⟨(some 57), .mov (.t 8), none, false⟩,
                 ⟨(some 58), .mov (.t 9), none, false⟩,
                 ⟨(some 59), .bin .lss (.t 57) (.t 58), none, false⟩])
               (.cond (.t 59) (.skip)
                (.exit 1)))
              (.block 2 (.seq (.seq (.region [
                   ⟨(some 60), .mov (.t 0), none, false⟩,
                   ⟨(some 61), .mov (.t 8), none, false⟩,
                   ⟨(some 62), .idxStr (.t 60) (.t 61), none, false⟩,
                   ⟨(some 63), .mov (.t 6), none, false⟩,
                   ⟨(some 64), .bin .neq (.t 62) (.t 63), none, false⟩])
                 (.cond (.t 64) (.seq (.region [
                     ⟨(some 65), .mov (.t 0), none, false⟩,
                     ⟨(some 66), .mov (.t 8), none, false⟩,
                     ⟨(some 67), .bin .add (.t 66) (.c (.int .i64 1)), none, false⟩,
                     ⟨(some 68), .mov (.t 9), none, false⟩,
                     ⟨(some 69), .slStr (.t 65) (some (.t 67)) (some (.t 68)), none, false⟩,
                     ⟨(some 70), .mov (.t 6), none, false⟩,
                     ⟨(some 71), .call 267 [(.t 69), (.t 70)], none, false⟩,
                     ⟨(some 11), .mov (.t 71), none, false⟩])
                   (.seq (.seq (.region [
                       ⟨(some 72), .mov (.t 11), none, false⟩,
                       ⟨(some 73), .bin .lss (.t 72) (.c (.int .i64 0)), none, false⟩])
                     (.cond (.t 73) (.seq (.region [
                         ⟨(some 4), .mov (.c (.int .i64 (-1))), none, false⟩])
                       (.ret))
                      (.skip)))
                    (.region [
                      ⟨(some 74), .mov (.t 8), none, false⟩,
                      ⟨(some 75), .mov (.t 11), none, false⟩,
                      ⟨(some 76), .bin .add (.t 75) (.c (.int .i64 1)), none, false⟩,
                      ⟨(some 77), .bin .add (.t 74) (.t 76), none, false⟩,
                      ⟨(some 8), .mov (.t 77), none, false⟩])))
                  (.skip)))
                (.seq (.seq (.region [
                    ⟨(some 78), .mov (.t 0), none, false⟩,
                    ⟨(some 79), .mov (.t 8), none, false⟩,
                    ⟨(some 80), .bin .add (.t 79) (.c (.int .i64 1)), none, false⟩,
                    ⟨(some 81), .idxStr (.t 78) (.t 80), none, false⟩,
                    ⟨(some 82), .mov (.t 7), none, false⟩,
                    ⟨(some 83), .bin .eql (.t 81) (.t 82), none, false⟩,
                    ⟨(some 84), .mov (.t 83), none, false⟩,
                    ⟨(some 85), .mov (.t 0), (some (84, true)), false⟩,
                    ⟨(some 86), .mov (.t 8), (some (84, true)), false⟩,
                    ⟨(some 87), .mov (.t 8), (some (84, true)), false⟩,
                    ⟨(some 88), .mov (.t 5), (some (84, true)), false⟩,
                    ⟨(some 89), .bin .add (.t 87) (.t 88), (some (84, true)), false⟩,
                    ⟨(some 90), .slStr (.t 85) (some (.t 86)) (some (.t 89)), (some (84, true)), false⟩,
                    ⟨(some 91), .mov (.t 1), (some (84, true)), false⟩,
                    ⟨(some 92), .bin .eql (.t 90) (.t 91), (some (84, true)), false⟩,
                    ⟨(some 93), .pick (.t 84) (.t 92) (.c (.bool false)), none, false⟩])
                  (.cond (.t 93) (.seq (.region [
                      ⟨(some 94), .mov (.t 8), none, false⟩,
                      ⟨(some 4), .mov (.t 94), none, false⟩])
                    (.ret))
                   (.skip)))
                 (.seq (.region [
                    ⟨(some 95), .mov (.t 8), none, false⟩,
                    ⟨(some 96), .bin .add (.t 95) (.c (.int .i64 1)), none, false⟩,
                    ⟨(some 8), .mov (.t 96), none, false⟩])
                  (.seq (.region [
                     ⟨(some 97), .mov (.t 10), none, false⟩,
                     ⟨(some 98), .bin .add (.t 97) (.c (.int .i64 1)), none, false⟩,
                     ⟨(some 10), .mov (.t 98), none, false⟩])
                   (.seq (.region [
                      ⟨(some 99), .mov (.t 5), none, false⟩,
                      ⟨(some 100), .load none (.g 3), none, false⟩,
                      ⟨(some 101), .bin .leq (.t 99) (.t 100), none, false⟩,
                      ⟨(some 102), .mov (.t 101), none, false⟩,
                      ⟨(some 103), .mov (.t 10), (some (102, true)), false⟩,
                      ⟨(some 104), .mov (.t 8), (some (102, true)), false⟩,
                      ⟨(some 105), .call 269 [(.t 104)], (some (102, true)), false⟩,
                      ⟨(some 106), .bin .gtr (.t 103) (.t 105), (some (102, true)), false⟩,
                      ⟨(some 107), .pick (.t 102) (.t 106) (.c (.bool false)), none, false⟩])
                    (.cond (.t 107) (.seq (.region [
                        ⟨(some 108), .mov (.t 0), none, false⟩,
                        ⟨(some 109), .mov (.t 8), none, false⟩,
                        ⟨(some 110), .slStr (.t 108) (some (.t 109)) none, none, false⟩,
                        ⟨(some 111), .mov (.t 1), none, false⟩,
                        ⟨(some 112), .call 268 [(.t 110), (.t 111)], none, false⟩,
                        ⟨(some 12), .mov (.t 112), none, false⟩])
                      (.seq (.seq (.region [
                          ⟨(some 113), .mov (.t 12), none, false⟩,
                          ⟨(some 114), .bin .geq (.t 113) (.c (.int .i64 0)), none, false⟩])
                        (.cond (.t 114) (.seq (.region [
                            ⟨(some 115), .mov (.t 12), none, false⟩,
                            ⟨(some 116), .mov (.t 8), none, false⟩,
                            ⟨(some 117), .bin .add (.t 115) (.t 116), none, false⟩,
                            ⟨(some 4), .mov (.t 117), none, false⟩])
                          (.ret))
                         (.skip)))
                       (.seq (.region [
                          ⟨(some 4), .mov (.c (.int .i64 (-1))), none, false⟩])
                        (.ret))))
                     (.seq (.region [
                        ⟨(some 118), .mov (.t 5), none, false⟩,
                        ⟨(some 119), .load none (.g 3), none, false⟩,
                        ⟨(some 120), .bin .gtr (.t 118) (.t 119), none, false⟩,
                        ⟨(some 121), .mov (.t 120), none, false⟩,
                        ⟨(some 122), .mov (.t 10), (some (121, true)), false⟩,
                        ⟨(some 123), .mov (.t 8), (some (121, true)), false⟩,
                        ⟨(some 124), .bin .shr (.t 123) (.c (.int .u64 4)), (some (121, true)), false⟩,
                        ⟨(some 125), .bin .add (.c (.int .i64 4)) (.t 124), (some (121, true)), false⟩,
                        ⟨(some 126), .bin .geq (.t 122) (.t 125), (some (121, true)), false⟩,
                        ⟨(some 127), .pick (.t 121) (.t 126) (.c (.bool false)), none, false⟩,
                        ⟨(some 128), .mov (.t 127), none, false⟩,
                        ⟨(some 129), .mov (.t 8), (some (128, true)), false⟩,
                        ⟨(some 130), .mov (.t 9), (some (128, true)), false⟩,
                        ⟨(some 131), .bin .lss (.t 129) (.t 130), (some (128, true)), false⟩,
                        ⟨(some 132), .pick (.t 128) (.t 131) (.c (.bool false)), none, false⟩])
                      (.cond (.t 132) (.seq (.region [
                          ⟨(some 133), .mov (.t 0), none, false⟩,
                          ⟨(some 134), .mov (.t 8), none, false⟩,
                          ⟨(some 135), .slStr (.t 133) (some (.t 134)) none, none, false⟩,
                          ⟨(some 136), .mov (.t 1), none, false⟩,
                          ⟨(some 137), .call 270 [(.t 135), (.t 136)], none, false⟩,
                          ⟨(some 13), .mov (.t 137), none, false⟩])
                        (.seq (.seq (.region [
                            ⟨(some 138), .mov (.t 13), none, false⟩,
                            ⟨(some 139), .bin .lss (.t 138) (.c (.int .i64 0)), none, false⟩])
                          (.cond (.t 139) (.seq (.region [
                              ⟨(some 4), .mov (.c (.int .i64 (-1))), none, false⟩])
                            (.ret))
                           (.skip)))
                         (.seq (.region [
                            ⟨(some 140), .mov (.t 8), none, false⟩,
                            ⟨(some 141), .mov (.t 13), none, false⟩,
                            ⟨(some 142), .bin .add (.t 140) (.t 141), none, false⟩,
                            ⟨(some 4), .mov (.t 142), none, false⟩])
                          (.ret))))
                       (.skip)))))))))))))
           (.seq (.region [
              ⟨(some 4), .mov (.c (.int .i64 (-1))), none, false⟩])
            (.ret)))))))))), [.t 4]⟩

/-- internal/stringslite.IndexByte -/
def F267 : AF :=
  ⟨.seq (.region [
     ⟨(some 4), .mov (.c (.int .i64 0)), none, false⟩])
   (.seq (.region [
      ⟨(some 5), .mov (.t 0), none, false⟩,
      ⟨(some 6), .mov (.t 1), none, false⟩,
      ⟨(some 7), .ext .indexByte [(.t 5), (.t 6)], none, false⟩,
      ⟨(some 4), .mov (.t 7), none, false⟩])
    (.ret)), [.t 4]⟩


/-- deemster/hist.ops -/
def S102 : AF :=
  ⟨.seq (.region [
     ⟨(some 1), .box 3 (.t 0), none, true⟩,
     ⟨(some 2), .mov (.c .nilfn), none, true⟩])
   (.seq (.region [
      ⟨(some 3), .mkFn (.func 146) [] [(.t 1)], none, true⟩,
      ⟨(some 2), .mov (.t 3), none, true⟩])
    (.ret)), [.t 2]⟩

/-- slices.ContainsFunc[[]deemster/api.Txn,deemster/api.Txn] -/
def S108 : AF :=
  ⟨.seq (.region [
     ⟨(some 4), .mov (.c (.bool false)), none, true⟩])
   (.seq (.region [
      ⟨(some 5), .mov (.t 0), none, true⟩,
      ⟨(some 6), .mov (.t 1), none, true⟩,
      ⟨(some 7), .call 154 [(.t 5), (.t 6)], none, true⟩,
      ⟨(some 8), .bin .geq (.t 7) (.c (.int .i64 0)), none, true⟩,
      ⟨(some 4), .mov (.t 8), none, true⟩])
    (.ret)), [.t 4]⟩

/-- deemster/hist.May$1 -/
def S109 : AF :=
  ⟨.seq (.region [
     ⟨(some 2), .box 3 (.t 0), none, true⟩,
     ⟨(some 3), .mov (.c (.bool false)), none, true⟩])
   (.seq (.region [
      ⟨(some 4), .load (some 3) (.t 1), none, true⟩,
      ⟨(some 5), .load (some 3) (.t 2), none, true⟩,
      ⟨(some 6), .call 110 [(.t 4), (.t 5)], none, true⟩,
      ⟨(some 7), .un .not (.t 6), none, true⟩,
      ⟨(some 3), .mov (.t 7), none, true⟩])
    (.ret)), [.t 3]⟩

/-- deemster/hist.ops$1 -/
def S146 : AF :=
  ⟨.seq (.region [
     ⟨(some 7), .fieldAddr 2 (.t 1), none, true⟩,
     ⟨(some 8), .load none (.t 7), none, true⟩,
     ⟨(some 9), .lenSl (.t 8), none, true⟩,
     ⟨(some 10), .mov (.c (.int .i64 0)), none, true⟩])
   (.block 0 (.loop (.seq (.region [
        ⟨(some 11), .bin .lss (.t 10) (.t 9), none, true⟩])
      (.seq (.cond (.t 11) (.skip)
        (.exit 0))
       (.seq (.block 1 (.seq (.region [
            ⟨(some 12), .mov (.t 10), none, true⟩,
            ⟨(some 13), .idxSl 3 (.t 8) (.t 10), none, true⟩,
            ⟨(some 14), .load (some 3) (.t 13), none, true⟩,
            ⟨(some 4), .alloc [(.int .i64 0), (.int .i64 0), (.sl none true 0 [])], none, true⟩,
            ⟨(some 3), .mov (.t 12), none, true⟩,
            ⟨none, .store 3 (.t 4) (.t 14), none, true⟩])
          (.seq (.region [
             ⟨(some 15), .fieldAddr 2 (.t 4), none, true⟩,
             ⟨(some 16), .load none (.t 15), none, true⟩,
             ⟨(some 17), .lenSl (.t 16), none, true⟩,
             ⟨(some 18), .mov (.c (.int .i64 0)), none, true⟩])
           (.block 2 (.loop (.seq (.region [
                ⟨(some 19), .bin .lss (.t 18) (.t 17), none, true⟩])
              (.seq (.cond (.t 19) (.skip)
                (.exit 2))
               (.seq (.block 3 (.seq (.region [
                    ⟨(some 20), .mov (.t 18), none, true⟩,
                    ⟨(some 21), .idxSl 4 (.t 16) (.t 18), none, true⟩,
                    ⟨(some 22), .load (some 4) (.t 21), none, true⟩,
                    ⟨(some 6), .alloc [(.bool false), (.int .i64 0), (.int .i64 0), (.int .i64 0)], none, true⟩,
                    ⟨(some 5), .mov (.t 20), none, true⟩,
                    ⟨none, .store 4 (.t 6) (.t 22), none, true⟩])
                  (.seq (.region [
                     ⟨(some 23), .mov (.t 0), none, true⟩,
                     ⟨(some 24), .mov (.t 3), none, true⟩,
                     ⟨(some 25), .mov (.t 5), none, true⟩,
                     ⟨(some 26), .build [(.int .i64 0), (.int .i64 0)] [(0, 1, (.t 24)), (1, 1, (.t 25))], none, true⟩,
                     ⟨(some 27), .load (some 4) (.t 6), none, true⟩,
                     ⟨(some 28), .callV (.t 23) [(.t 26), (.t 27)], none, true⟩,
                     ⟨(some 29), .un .not (.t 28), none, true⟩])
                   (.cond (.t 29) (.ret)
                    (.skip)))))
                (.region [
                  ⟨(some 30), .bin .add (.t 18) (.c (.int .i64 1)), none, true⟩,
                  ⟨(some 18), .mov (.t 30), none, true⟩])))))))))
        (.region [
          ⟨(some 31), .bin .add (.t 10) (.c (.int .i64 1)), none, true⟩,
          ⟨(some 10), .mov (.t 31), none, true⟩])))))), []⟩

/-- deemster/pair.made -/
def S149 : AF :=
  ⟨.seq (.region [
     ⟨(some 2), .mov (.c .nilptr), none, true⟩,
     ⟨(some 3), .mov (.c (.int .i64 0)), none, true⟩,
     ⟨(some 4), .mov (.c (.int .i64 0)), none, true⟩])
   (.seq (.region [
      ⟨(some 9), .mkMap, none, true⟩,
      ⟨(some 10), .mkMap, none, true⟩,
      ⟨(some 11), .mkMap, none, true⟩,
      ⟨(some 12), .build [(.sl none true 0 []), .nilmap, .nilmap, .nilmap] [(1, 1, (.t 9)), (2, 1, (.t 10)), (3, 1, (.t 11))], none, true⟩,
      ⟨(some 13), .box 4 (.t 12), none, true⟩,
      ⟨(some 5), .mov (.t 13), none, true⟩])
    (.seq (.seq (.region [
        ⟨(some 14), .mov (.t 0), none, true⟩,
        ⟨(some 15), .lenSl (.t 14), none, true⟩,
        ⟨(some 16), .mov (.c (.int .i64 0)), none, true⟩])
      (.block 0 (.loop (.seq (.region [
           ⟨(some 17), .bin .lss (.t 16) (.t 15), none, true⟩])
         (.seq (.cond (.t 17) (.skip)
           (.exit 0))
          (.seq (.block 1 (.seq (.region [
               ⟨(some 18), .idxSl 6 (.t 14) (.t 16), none, true⟩,
               ⟨(some 19), .load (some 6) (.t 18), none, true⟩,
               ⟨(some 7), .alloc [(.int .i64 0), (.str []), (.str []), (.int .i64 0), (.int .i64 0), (.int .i64 0)], none, true⟩,
               ⟨none, .store 6 (.t 7) (.t 19), none, true⟩])
             (.seq (.region [
                ⟨(some 20), .mov (.t 5), none, true⟩,
                ⟨(some 21), .load (some 6) (.t 7), none, true⟩,
                ⟨(some 22), .call 196 [(.t 20), (.t 21)], none, true⟩,
                ⟨(some 8), .mov (.t 22), none, true⟩])
              (.seq (.region [
                 ⟨(some 23), .mov (.t 8), none, true⟩,
                 ⟨(some 24), .bin .neq (.t 23) (.c (.int .i64 0)), none, true⟩])
               (.cond (.t 24) (.seq (.draw [
                   ⟨(some 25), .mov (.t 5), none, true⟩,
                   ⟨(some 26), .fieldAddr 5 (.t 7), none, true⟩,
                   ⟨(some 27), .load none (.t 26), none, true⟩,
                   ⟨(some 28), .mov (.t 8), none, true⟩,
                   ⟨(some 2), .mov (.t 25), none, true⟩,
                   ⟨(some 3), .mov (.t 27), none, true⟩,
                   ⟨(some 4), .mov (.t 28), none, true⟩] [])
                 (.ret))
                (.skip))))))
           (.region [
             ⟨(some 29), .bin .add (.t 16) (.c (.int .i64 1)), none, true⟩,
             ⟨(some 16), .mov (.t 29), none, true⟩])))))))
     (.seq (.region [
        ⟨(some 30), .mov (.t 5), none, true⟩,
        ⟨(some 2), .mov (.t 30), none, true⟩,
        ⟨(some 3), .mov (.c (.int .i64 0)), none, true⟩,
        ⟨(some 4), .mov (.c (.int .i64 0)), none, true⟩])
      (.ret)))), [.t 2, .t 3, .t 4]⟩

/-- deemster/pair.names -/
def S150 : AF :=
  ⟨.seq (.region [
     ⟨(some 2), .mov (.c (.sl none true 0 [])), none, true⟩])
   (.seq (.region [
      ⟨(some 3), .mov (.c (.sl none true 0 [])), none, true⟩])
    (.seq (.seq (.region [
        ⟨(some 5), .mov (.t 0), none, true⟩,
        ⟨(some 6), .range false (.t 5), none, true⟩])
      (.block 0 (.loop (.seq (.region [
           ⟨(some 7), .nextMap (.t 6), none, true⟩,
           ⟨(some 8), .extract (.t 7) 0, none, true⟩])
         (.seq (.cond (.t 8) (.skip)
           (.exit 0))
          (.block 1 (.seq (.region [
              ⟨(some 9), .entry (.t 6), none, true⟩,
              ⟨(some 10), .extract (.t 9) 0, none, true⟩,
              ⟨(some 4), .mov (.t 10), none, true⟩])
            (.region [
              ⟨(some 11), .mov (.t 3), none, true⟩,
              ⟨(some 12), .mov (.t 4), none, true⟩,
              ⟨(some 13), .buildSl true 1 [(.str [])] [(0, 1, (.t 12))] 1, none, true⟩,
              ⟨(some 14), .append true 1 16 (.t 11) (.t 13), none, true⟩,
              ⟨(some 3), .mov (.t 14), none, true⟩]))))))))
     (.seq (.region [
        ⟨(some 15), .mov (.t 3), none, true⟩,
        ⟨(some 16), .call 197 [(.t 15)], none, true⟩,
        ⟨(some 2), .mov (.t 16), none, true⟩])
      (.ret)))), [.t 2]⟩

/-- slices.IndexFunc[[]deemster/api.Txn,deemster/api.Txn] -/
def S154 : AF :=
  ⟨.seq (.region [
     ⟨(some 4), .mov (.c (.int .i64 0)), none, true⟩])
   (.seq (.seq (.region [
       ⟨(some 6), .mov (.t 0), none, true⟩,
       ⟨(some 7), .lenSl (.t 6), none, true⟩,
       ⟨(some 8), .mov (.c (.int .i64 0)), none, true⟩])
     (.block 0 (.loop (.seq (.region [
          ⟨(some 9), .bin .lss (.t 8) (.t 7), none, true⟩])
        (.seq (.cond (.t 9) (.skip)
          (.exit 0))
         (.seq (.block 1 (.seq (.region [
              ⟨(some 10), .mov (.t 8), none, true⟩,
              ⟨(some 5), .mov (.t 10), none, true⟩])
            (.seq (.region [
               ⟨(some 11), .mov (.t 1), none, true⟩,
               ⟨(some 12), .mov (.t 0), none, true⟩,
               ⟨(some 13), .mov (.t 5), none, true⟩,
               ⟨(some 14), .idxSl 3 (.t 12) (.t 13), none, true⟩,
               ⟨(some 15), .load (some 3) (.t 14), none, true⟩,
               ⟨(some 16), .callV (.t 11) [(.t 15)], none, true⟩])
             (.cond (.t 16) (.seq (.region [
                 ⟨(some 17), .mov (.t 5), none, true⟩,
                 ⟨(some 4), .mov (.t 17), none, true⟩])
               (.ret))
              (.skip)))))
          (.region [
            ⟨(some 18), .bin .add (.t 8) (.c (.int .i64 1)), none, true⟩,
            ⟨(some 8), .mov (.t 18), none, true⟩])))))))
    (.seq (.region [
       ⟨(some 4), .mov (.c (.int .i64 (-1))), none, true⟩])
     (.ret))), [.t 4]⟩

/-- (*deemster/pair.maker).put -/
def S196 : AF :=
  ⟨.seq (.region [
     ⟨(some 3), .box 6 (.t 1), none, true⟩,
     ⟨(some 4), .mov (.c (.int .i64 0)), none, true⟩])
   (.seq (.seq (.region [
       ⟨(some 6), .load (some 6) (.t 3), none, true⟩,
       ⟨(some 7), .call 235 [(.t 6)], none, true⟩,
       ⟨(some 8), .un .not (.t 7), none, true⟩])
     (.cond (.t 8) (.seq (.region [
         ⟨(some 4), .mov (.c (.int .i64 4)), none, true⟩])
       (.ret))
      (.skip)))
    (.seq (.seq (.region [
        ⟨(some 9), .fieldAddr 0 (.t 3), none, true⟩,
        ⟨(some 10), .load none (.t 9), none, true⟩,
        ⟨(some 11), .bin .eql (.t 10) (.c (.int .i64 1)), none, true⟩])
      (.cond (.t 11) (.seq (.region [
          ⟨(some 12), .mov (.t 0), none, true⟩,
          ⟨(some 13), .load (some 6) (.t 3), none, true⟩,
          ⟨(some 14), .call 236 [(.t 12), (.t 13)], none, true⟩,
          ⟨(some 4), .mov (.t 14), none, true⟩])
        (.ret))
       (.skip)))
     (.seq (.draw [
        ⟨(some 15), .mov (.t 0), none, true⟩,
        ⟨(some 16), .nilCheck (.t 15), none, true⟩,
        ⟨(some 17), .fieldAddr 1 (.t 16), none, true⟩,
        ⟨(some 18), .load none (.t 17), none, true⟩,
        ⟨(some 19), .fieldAddr 1 (.t 3), none, true⟩,
        ⟨(some 20), .load none (.t 19), none, true⟩,
        ⟨(some 21), .lookup .str .nilptr false (.t 18) (.t 20), none, true⟩,
        ⟨(some 5), .mov (.t 21), none, true⟩] [])
      (.seq (.block 0 (.seq (.region [
           ⟨(some 27), .mov (.t 5), none, true⟩,
           ⟨(some 28), .eq false .ptr (.t 27) (.c .nilptr), none, true⟩,
           ⟨(some 26), .mov (.t 28), none, true⟩])
         (.cond (.t 26) (.seq (.region [
             ⟨(some 4), .mov (.c (.int .i64 10)), none, true⟩])
           (.ret))
          (.seq (.region [
             ⟨(some 30), .fieldAddr 0 (.t 3), none, true⟩,
             ⟨(some 31), .load none (.t 30), none, true⟩,
             ⟨(some 32), .bin .eql (.t 31) (.c (.int .i64 2)), none, true⟩,
             ⟨(some 33), .mov (.t 32), none, true⟩,
             ⟨(some 34), .fieldAddr 0 (.t 3), (some (33, false)), true⟩,
             ⟨(some 35), .load none (.t 34), (some (33, false)), true⟩,
             ⟨(some 36), .bin .eql (.t 35) (.c (.int .i64 3)), (some (33, false)), true⟩,
             ⟨(some 37), .pick (.t 33) (.c (.bool true)) (.t 36), none, true⟩,
             ⟨(some 29), .mov (.t 37), none, true⟩])
           (.cond (.t 29) (.seq (.region [
               ⟨(some 38), .mov (.t 0), none, true⟩,
               ⟨(some 39), .mov (.t 5), none, true⟩,
               ⟨(some 40), .load (some 6) (.t 3), none, true⟩,
               ⟨(some 41), .call 237 [(.t 38), (.t 39), (.t 40)], none, true⟩,
               ⟨(some 4), .mov (.t 41), none, true⟩])
             (.ret))
            (.seq (.region [
               ⟨(some 43), .fieldAddr 0 (.t 3), none, true⟩,
               ⟨(some 44), .load none (.t 43), none, true⟩,
               ⟨(some 45), .bin .eql (.t 44) (.c (.int .i64 4)), none, true⟩,
               ⟨(some 42), .mov (.t 45), none, true⟩])
             (.cond (.t 42) (.region [
                ⟨(some 46), .mov (.t 5), none, true⟩,
                ⟨(some 47), .nilCheck (.t 46), none, true⟩,
                ⟨(some 48), .fieldAddr 3 (.t 47), none, true⟩,
                ⟨(some 49), .fieldAddr 1 (.t 48), none, true⟩,
                ⟨none, .store 1 (.t 49) (.c (.int .i64 1)), none, true⟩])
              (.seq (.region [
                 ⟨(some 51), .fieldAddr 0 (.t 3), none, true⟩,
                 ⟨(some 52), .load none (.t 51), none, true⟩,
                 ⟨(some 53), .bin .eql (.t 52) (.c (.int .i64 5)), none, true⟩,
                 ⟨(some 50), .mov (.t 53), none, true⟩])
               (.cond (.t 50) (.region [
                  ⟨(some 54), .mov (.t 5), none, true⟩,
                  ⟨(some 55), .nilCheck (.t 54), none, true⟩,
                  ⟨(some 56), .fieldAddr 3 (.t 55), none, true⟩,
                  ⟨(some 57), .fieldAddr 1 (.t 56), none, true⟩,
                  ⟨none, .store 1 (.t 57) (.c (.int .i64 2)), none, true⟩])
                (.region [
                  ⟨(some 22), .mov (.t 5), none, true⟩,
                  ⟨(some 23), .nilCheck (.t 22), none, true⟩,
                  ⟨(some 24), .fieldAddr 3 (.t 23), none, true⟩,
                  ⟨(some 25), .fieldAddr 1 (.t 24), none, true⟩,
                  ⟨none, .store 1 (.t 25) (.c (.int .i64 3)), none, true⟩]))))))))))
       (.seq (.draw [
          ⟨(some 58), .mov (.t 0), none, true⟩,
          ⟨(some 59), .nilCheck (.t 58), none, true⟩,
          ⟨(some 60), .fieldAddr 1 (.t 59), none, true⟩,
          ⟨(some 61), .load none (.t 60), none, true⟩,
          ⟨(some 62), .fieldAddr 1 (.t 3), none, true⟩,
          ⟨(some 63), .load none (.t 62), none, true⟩,
          ⟨none, .mapDel .str (.t 61) (.t 63), none, true⟩] [])
        (.seq (.region [
           ⟨(some 4), .mov (.c (.int .i64 0)), none, true⟩])
         (.ret))))))), [.t 4]⟩

/-- deemster/table.Make -/
def S197 : AF :=
  ⟨.seq (.region [
     ⟨(some 2), .mov (.c (.sl none true 0 [])), none, true⟩])
   (.seq (.region [
      ⟨(some 3), .mov (.t 0), none, true⟩,
      ⟨(some 4), .call 238 [(.t 3)], none, true⟩,
      ⟨(some 2), .mov (.t 4), none, true⟩])
    (.ret)), [.t 2]⟩

/-- (*deemster/pair.maker).begin -/
def S236 : AF :=
  ⟨.seq (.region [
     ⟨(some 3), .box 6 (.t 1), none, true⟩,
     ⟨(some 4), .mov (.c (.int .i64 0)), none, true⟩])
   (.seq (.block 0 (.seq (.draw [
        ⟨(some 7), .mov (.t 0), none, true⟩,
        ⟨(some 8), .nilCheck (.t 7), none, true⟩,
        ⟨(some 9), .fieldAddr 1 (.t 8), none, true⟩,
        ⟨(some 10), .load none (.t 9), none, true⟩,
        ⟨(some 11), .fieldAddr 1 (.t 3), none, true⟩,
        ⟨(some 12), .load none (.t 11), none, true⟩,
        ⟨(some 13), .lookup .str .nilptr false (.t 10) (.t 12), none, true⟩,
        ⟨(some 14), .eq true .ptr (.t 13) (.c .nilptr), none, true⟩,
        ⟨(some 6), .mov (.t 14), none, true⟩] [])
      (.cond (.t 6) (.seq (.region [
          ⟨(some 4), .mov (.c (.int .i64 9)), none, true⟩])
        (.ret))
       (.seq (.draw [
          ⟨(some 16), .mov (.t 0), none, true⟩,
          ⟨(some 17), .nilCheck (.t 16), none, true⟩,
          ⟨(some 18), .fieldAddr 2 (.t 17), none, true⟩,
          ⟨(some 19), .load none (.t 18), none, true⟩,
          ⟨(some 20), .fieldAddr 1 (.t 3), none, true⟩,
          ⟨(some 21), .load none (.t 20), none, true⟩,
          ⟨(some 22), .lookup .str (.int .i64 0) false (.t 19) (.t 21), none, true⟩,
          ⟨(some 23), .bin .eql (.t 22) (.c (.int .i64 0)), none, true⟩,
          ⟨(some 24), .mov (.t 23), none, true⟩,
          ⟨(some 25), .mov (.t 0), (some (24, true)), true⟩,
          ⟨(some 26), .nilCheck (.t 25), (some (24, true)), true⟩,
          ⟨(some 27), .fieldAddr 2 (.t 26), (some (24, true)), true⟩,
          ⟨(some 28), .load none (.t 27), (some (24, true)), true⟩,
          ⟨(some 29), .lenMap (.t 28), (some (24, true)), true⟩,
          ⟨(some 30), .bin .eql (.t 29) (.c (.int .i64 20)), (some (24, true)), true⟩,
          ⟨(some 31), .pick (.t 24) (.t 30) (.c (.bool false)), none, true⟩,
          ⟨(some 32), .mov (.t 31), none, true⟩,
          ⟨(some 33), .mov (.t 0), (some (32, false)), true⟩,
          ⟨(some 34), .nilCheck (.t 33), (some (32, false)), true⟩,
          ⟨(some 35), .fieldAddr 0 (.t 34), (some (32, false)), true⟩,
          ⟨(some 36), .load none (.t 35), (some (32, false)), true⟩,
          ⟨(some 37), .lenSl (.t 36), (some (32, false)), true⟩,
          ⟨(some 38), .bin .eql (.t 37) (.c (.int .i64 40)), (some (32, false)), true⟩,
          ⟨(some 39), .pick (.t 32) (.c (.bool true)) (.t 38), none, true⟩,
          ⟨(some 15), .mov (.t 39), none, true⟩] [])
        (.cond (.t 15) (.seq (.region [
            ⟨(some 4), .mov (.c (.int .i64 7)), none, true⟩])
          (.ret))
         (.skip))))))
    (.seq (.region [
       ⟨(some 40), .fieldAddr 1 (.t 3), none, true⟩,
       ⟨(some 41), .load none (.t 40), none, true⟩,
       ⟨(some 42), .fieldAddr 5 (.t 3), none, true⟩,
       ⟨(some 43), .load none (.t 42), none, true⟩,
       ⟨(some 44), .build [(.str []), (.sl none true 0 []), (.int .i64 0), (.int .i64 0), (.int .i64 0), (.sl none true 0 [])] [(0, 1, (.t 41)), (2, 1, (.t 43))], none, true⟩,
       ⟨(some 45), .box 6 (.t 44), none, true⟩,
       ⟨(some 5), .mov (.t 45), none, true⟩])
     (.seq (.region [
        ⟨(some 46), .mov (.t 0), none, true⟩,
        ⟨(some 47), .mov (.t 0), none, true⟩,
        ⟨(some 48), .nilCheck (.t 47), none, true⟩,
        ⟨(some 49), .fieldAddr 0 (.t 48), none, true⟩,
        ⟨(some 50), .load none (.t 49), none, true⟩,
        ⟨(some 51), .mov (.t 5), none, true⟩,
        ⟨(some 52), .buildSl true 1 [.nilptr] [(0, 1, (.t 51))] 1, none, true⟩,
        ⟨(some 53), .append true 1 8 (.t 50) (.t 52), none, true⟩,
        ⟨(some 54), .nilCheck (.t 46), none, true⟩,
        ⟨(some 55), .fieldAddr 0 (.t 54), none, true⟩,
        ⟨none, .store 1 (.t 55) (.t 53), none, true⟩])
      (.seq (.draw [
         ⟨(some 56), .mov (.t 0), none, true⟩,
         ⟨(some 57), .nilCheck (.t 56), none, true⟩,
         ⟨(some 58), .fieldAddr 1 (.t 57), none, true⟩,
         ⟨(some 59), .load none (.t 58), none, true⟩,
         ⟨(some 60), .fieldAddr 1 (.t 3), none, true⟩,
         ⟨(some 61), .load none (.t 60), none, true⟩,
         ⟨(some 62), .mov (.t 5), none, true⟩,
         ⟨none, .mapSet .str (.t 59) (.t 61) (.t 62), none, true⟩] [])
       (.seq (.draw [
          ⟨(some 63), .mov (.t 0), none, true⟩,
          ⟨(some 64), .nilCheck (.t 63), none, true⟩,
          ⟨(some 65), .fieldAddr 2 (.t 64), none, true⟩,
          ⟨(some 66), .load none (.t 65), none, true⟩,
          ⟨(some 67), .fieldAddr 1 (.t 3), none, true⟩,
          ⟨(some 68), .load none (.t 67), none, true⟩,
          ⟨(some 69), .lookup .str (.int .i64 0) false (.t 66) (.t 68), none, true⟩,
          ⟨(some 70), .bin .add (.t 69) (.c (.int .i64 1)), none, true⟩,
          ⟨none, .mapSet .str (.t 66) (.t 68) (.t 70), none, true⟩] [])
        (.seq (.region [
           ⟨(some 4), .mov (.c (.int .i64 0)), none, true⟩])
         (.ret))))))), [.t 4]⟩

/-- deemster/name.Sorted -/
def S238 : AF :=
  ⟨.seq (.region [
     ⟨(some 2), .mov (.c (.sl none true 0 [])), none, true⟩])
   (.seq (.region [
      ⟨(some 3), .mov (.c (.sl none true 0 [])), none, true⟩])
    (.seq (.seq (.region [
        ⟨(some 6), .mov (.t 0), none, true⟩,
        ⟨(some 7), .lenSl (.t 6), none, true⟩,
        ⟨(some 8), .mov (.c (.int .i64 0)), none, true⟩])
      (.block 0 (.loop (.seq (.region [
           ⟨(some 9), .bin .lss (.t 8) (.t 7), none, true⟩])
         (.seq (.cond (.t 9) (.skip)
           (.exit 0))
          (.seq (.block 1 (.seq (.region [
               ⟨(some 10), .idxSl 1 (.t 6) (.t 8), none, true⟩,
               ⟨(some 11), .load none (.t 10), none, true⟩,
               ⟨(some 5), .mov (.t 11), none, true⟩])
             (.seq (.region [
                ⟨(some 12), .mov (.t 5), none, true⟩,
                ⟨(some 13), .call 194 [(.t 12)], none, true⟩])
              (.cond (.t 13) (.region [
                 ⟨(some 14), .mov (.t 3), none, true⟩,
                 ⟨(some 15), .mov (.t 5), none, true⟩,
                 ⟨(some 16), .buildSl true 1 [(.str [])] [(0, 1, (.t 15))] 1, none, true⟩,
                 ⟨(some 17), .append true 1 16 (.t 14) (.t 16), none, true⟩,
                 ⟨(some 3), .mov (.t 17), none, true⟩])
               (.skip)))))
           (.region [
             ⟨(some 18), .bin .add (.t 8) (.c (.int .i64 1)), none, true⟩,
             ⟨(some 8), .mov (.t 18), none, true⟩])))))))
     (.seq (.region [
        ⟨(some 19), .mov (.t 3), none, true⟩,
        ⟨(some 20), .call 254 [(.t 19), (.c (.fn (.func 239) [] []))], none, true⟩])
      (.seq (.region [
         ⟨(some 21), .mov (.t 3), none, true⟩,
         ⟨(some 22), .call 255 [(.t 21)], none, true⟩,
         ⟨(some 2), .mov (.t 22), none, true⟩])
       (.ret))))), [.t 2]⟩

/-- slices.SortFunc[[]string,string] -/
def S254 : AF :=
  ⟨.seq (.region [
     ⟨(some 5), .mov (.t 0), none, true⟩,
     ⟨(some 6), .lenSl (.t 5), none, true⟩,
     ⟨(some 4), .mov (.t 6), none, true⟩])
   (.region [
     ⟨(some 7), .mov (.t 0), none, true⟩,
     ⟨(some 8), .mov (.t 4), none, true⟩,
     ⟨(some 9), .mov (.t 4), none, true⟩,
     ⟨(some 10), .conv .u64 (.t 9), none, true⟩,
     ⟨(some 11), .call 118 [(.t 10)], none, true⟩,
     ⟨(some 12), .mov (.t 1), none, true⟩,
     ⟨(some 13), .call 264 [(.t 7), (.c (.int .i64 0)), (.t 8), (.t 11), (.t 12)], none, true⟩]), []⟩

/-- slices.Compact[[]string,string] -/
def S255 : AF :=
  ⟨.seq (.region [
     ⟨(some 2), .mov (.c (.sl none true 0 [])), none, true⟩])
   (.seq (.seq (.region [
       ⟨(some 6), .mov (.t 0), none, true⟩,
       ⟨(some 7), .lenSl (.t 6), none, true⟩,
       ⟨(some 8), .bin .lss (.t 7) (.c (.int .i64 2)), none, true⟩])
     (.cond (.t 8) (.seq (.region [
         ⟨(some 9), .mov (.t 0), none, true⟩,
         ⟨(some 2), .mov (.t 9), none, true⟩])
       (.ret))
      (.skip)))
    (.seq (.seq (.region [
        ⟨(some 3), .mov (.c (.int .i64 1)), none, true⟩])
      (.block 0 (.loop (.seq (.seq (.region [
            ⟨(some 10), .mov (.t 3), none, true⟩,
            ⟨(some 11), .mov (.t 0), none, true⟩,
            ⟨(some 12), .lenSl (.t 11), none, true⟩,
            ⟨(some 13), .bin .lss (.t 10) (.t 12), none, true⟩])
          (.cond (.t 13) (.skip)
           (.exit 0)))
         (.seq (.block 1 (.seq (.draw [
              ⟨(some 16), .mov (.t 0), none, true⟩,
              ⟨(some 17), .mov (.t 3), none, true⟩,
              ⟨(some 18), .idxSl 1 (.t 16) (.t 17), none, true⟩,
              ⟨(some 19), .load none (.t 18), none, true⟩,
              ⟨(some 20), .mov (.t 0), none, true⟩,
              ⟨(some 21), .mov (.t 3), none, true⟩,
              ⟨(some 22), .bin .sub (.t 21) (.c (.int .i64 1)), none, true⟩,
              ⟨(some 23), .idxSl 1 (.t 20) (.t 22), none, true⟩,
              ⟨(some 24), .load none (.t 23), none, true⟩,
              ⟨(some 25), .bin .eql (.t 19) (.t 24), none, true⟩] [])
            (.cond (.t 25) (.seq (.region [
                ⟨(some 26), .mov (.t 0), none, true⟩,
                ⟨(some 27), .mov (.t 3), none, true⟩,
                ⟨(some 28), .slSl 1 (.t 26) (some (.t 27)) none, none, true⟩,
                ⟨(some 4), .mov (.t 28), none, true⟩])
              (.seq (.seq (.region [
                  ⟨(some 5), .mov (.c (.int .i64 1)), none, true⟩])
                (.block 2 (.loop (.seq (.seq (.region [
                      ⟨(some 29), .mov (.t 5), none, true⟩,
                      ⟨(some 30), .mov (.t 4), none, true⟩,
                      ⟨(some 31), .lenSl (.t 30), none, true⟩,
                      ⟨(some 32), .bin .lss (.t 29) (.t 31), none, true⟩])
                    (.cond (.t 32) (.skip)
                     (.exit 2)))
                   (.seq (.block 3 (.seq (.draw [
                        ⟨(some 35), .mov (.t 4), none, true⟩,
                        ⟨(some 36), .mov (.t 5), none, true⟩,
                        ⟨(some 37), .idxSl 1 (.t 35) (.t 36), none, true⟩,
                        ⟨(some 38), .load none (.t 37), none, true⟩,
                        ⟨(some 39), .mov (.t 4), none, true⟩,
                        ⟨(some 40), .mov (.t 5), none, true⟩,
                        ⟨(some 41), .bin .sub (.t 40) (.c (.int .i64 1)), none, true⟩,
                        ⟨(some 42), .idxSl 1 (.t 39) (.t 41), none, true⟩,
                        ⟨(some 43), .load none (.t 42), none, true⟩,
                        ⟨(some 44), .bin .neq (.t 38) (.t 43), none, true⟩] [])
                      (.cond (.t 44) (.seq (.region [
                          ⟨(some 45), .mov (.t 0), none, true⟩,
                          ⟨(some 46), .mov (.t 3), none, true⟩,
                          ⟨(some 47), .mov (.t 4), none, true⟩,
                          ⟨(some 48), .mov (.t 5), none, true⟩,
                          ⟨(some 49), .idxSl 1 (.t 47) (.t 48), none, true⟩,
                          ⟨(some 50), .load none (.t 49), none, true⟩,
                          ⟨(some 51), .idxSl 1 (.t 45) (.t 46), none, true⟩,
                          ⟨none, .store 1 (.t 51) (.t 50), none, true⟩])
                        (.region [
                          ⟨(some 52), .mov (.t 3), none, true⟩,
                          ⟨(some 53), .bin .add (.t 52) (.c (.int .i64 1)), none, true⟩,
                          ⟨(some 3), .mov (.t 53), none, true⟩]))
                       (.skip))))
                    (.region [
                      ⟨(some 33), .mov (.t 5), none, true⟩,
                      ⟨(some 34), .bin .add (.t 33) (.c (.int .i64 1)), none, true⟩,
                      ⟨(some 5), .mov (.t 34), none, true⟩]))))))
               (.seq (.region [
                  ⟨(some 54), .mov (.t 0), none, true⟩,
                  ⟨(some 55), .mov (.t 3), none, true⟩,
                  ⟨(some 56), .slSl 1 (.t 54) (some (.t 55)) none, none, true⟩,
                  ⟨none, .clear 1 [(.str [])] (.t 56), none, true⟩])
                (.seq (.region [
                   ⟨(some 57), .mov (.t 0), none, true⟩,
                   ⟨(some 58), .mov (.t 3), none, true⟩,
                   ⟨(some 59), .slSl 1 (.t 57) none (some (.t 58)), none, true⟩,
                   ⟨(some 2), .mov (.t 59), none, true⟩])
                 (.ret)))))
             (.skip))))
          (.region [
            ⟨(some 14), .mov (.t 3), none, true⟩,
            ⟨(some 15), .bin .add (.t 14) (.c (.int .i64 1)), none, true⟩,
            ⟨(some 3), .mov (.t 15), none, true⟩]))))))
     (.seq (.region [
        ⟨(some 60), .mov (.t 0), none, true⟩,
        ⟨(some 2), .mov (.t 60), none, true⟩])
      (.ret)))), [.t 2]⟩

/-- slices.pdqsortCmpFunc[string] -/
def S264 : AF :=
  ⟨.seq (.region [
     ⟨(some 10), .mov (.c (.bool true)), none, true⟩])
   (.seq (.region [
      ⟨(some 11), .mov (.c (.bool true)), none, true⟩])
    (.block 0 (.loop (.block 1 (.seq (.region [
          ⟨(some 21), .mov (.t 2), none, true⟩,
          ⟨(some 22), .mov (.t 1), none, true⟩,
          ⟨(some 23), .bin .sub (.t 21) (.t 22), none, true⟩,
          ⟨(some 12), .mov (.t 23), none, true⟩])
        (.seq (.seq (.region [
            ⟨(some 24), .mov (.t 12), none, true⟩,
            ⟨(some 25), .bin .leq (.t 24) (.c (.int .i64 12)), none, true⟩])
          (.cond (.t 25) (.seq (.region [
              ⟨(some 26), .mov (.t 0), none, true⟩,
              ⟨(some 27), .mov (.t 1), none, true⟩,
              ⟨(some 28), .mov (.t 2), none, true⟩,
              ⟨(some 29), .mov (.t 4), none, true⟩,
              ⟨(some 30), .call 272 [(.t 26), (.t 27), (.t 28), (.t 29)], none, true⟩])
            (.ret))
           (.skip)))
         (.seq (.seq (.region [
             ⟨(some 31), .mov (.t 3), none, true⟩,
             ⟨(some 32), .bin .eql (.t 31) (.c (.int .i64 0)), none, true⟩])
           (.cond (.t 32) (.seq (.region [
               ⟨(some 33), .mov (.t 0), none, true⟩,
               ⟨(some 34), .mov (.t 1), none, true⟩,
               ⟨(some 35), .mov (.t 2), none, true⟩,
               ⟨(some 36), .mov (.t 4), none, true⟩,
               ⟨(some 37), .call 273 [(.t 33), (.t 34), (.t 35), (.t 36)], none, true⟩])
             (.ret))
            (.skip)))
          (.seq (.seq (.region [
              ⟨(some 38), .mov (.t 10), none, true⟩,
              ⟨(some 39), .un .not (.t 38), none, true⟩])
            (.cond (.t 39) (.seq (.region [
                ⟨(some 40), .mov (.t 0), none, true⟩,
                ⟨(some 41), .mov (.t 1), none, true⟩,
                ⟨(some 42), .mov (.t 2), none, true⟩,
                ⟨(some 43), .mov (.t 4), none, true⟩,
                ⟨(some 44), .call 274 [(.t 40), (.t 41), (.t 42), (.t 43)], none, true⟩])
              (.region [
                ⟨(some 45), .mov (.t 3), none, true⟩,
                ⟨(some 46), .bin .sub (.t 45) (.c (.int .i64 1)), none, true⟩,
                ⟨(some 3), .mov (.t 46), none, true⟩]))
             (.skip)))
           (.seq (.region [
              ⟨(some 48), .mov (.t 0), none, true⟩,
              ⟨(some 49), .mov (.t 1), none, true⟩,
              ⟨(some 50), .mov (.t 2), none, true⟩,
              ⟨(some 51), .mov (.t 4), none, true⟩,
              ⟨(some 52), .call 275 [(.t 48), (.t 49), (.t 50), (.t 51)], none, true⟩,
              ⟨(some 47), .mov (.t 52), none, true⟩,
              ⟨(some 53), .extract (.t 47) 0, none, true⟩,
              ⟨(some 54), .extract (.t 47) 1, none, true⟩,
              ⟨(some 13), .mov (.t 53), none, true⟩,
              ⟨(some 14), .mov (.t 54), none, true⟩])
            (.seq (.seq (.region [
                ⟨(some 55), .mov (.t 14), none, true⟩,
                ⟨(some 56), .bin .eql (.t 55) (.c (.int .i64 2)), none, true⟩])
              (.cond (.t 56) (.seq (.region [
                  ⟨(some 57), .mov (.t 0), none, true⟩,
                  ⟨(some 58), .mov (.t 1), none, true⟩,
                  ⟨(some 59), .mov (.t 2), none, true⟩,
                  ⟨(some 60), .mov (.t 4), none, true⟩,
                  ⟨(some 61), .call 276 [(.t 57), (.t 58), (.t 59), (.t 60)], none, true⟩])
                (.seq (.region [
                   ⟨(some 62), .mov (.t 2), none, true⟩,
                   ⟨(some 63), .bin .sub (.t 62) (.c (.int .i64 1)), none, true⟩,
                   ⟨(some 64), .mov (.t 13), none, true⟩,
                   ⟨(some 65), .mov (.t 1), none, true⟩,
                   ⟨(some 66), .bin .sub (.t 64) (.t 65), none, true⟩,
                   ⟨(some 67), .bin .sub (.t 63) (.t 66), none, true⟩,
                   ⟨(some 13), .mov (.t 67), none, true⟩])
                 (.region [
                   ⟨(some 14), .mov (.c (.int .i64 1)), none, true⟩])))
               (.skip)))
             (.seq (.seq (.region [
                 ⟨(some 68), .mov (.t 10), none, true⟩,
                 ⟨(some 69), .mov (.t 68), none, true⟩,
                 ⟨(some 70), .mov (.t 11), (some (69, true)), true⟩,
                 ⟨(some 71), .pick (.t 69) (.t 70) (.c (.bool false)), none, true⟩,
                 ⟨(some 72), .mov (.t 71), none, true⟩,
                 ⟨(some 73), .mov (.t 14), (some (72, true)), true⟩,
                 ⟨(some 74), .bin .eql (.t 73) (.c (.int .i64 1)), (some (72, true)), true⟩,
                 ⟨(some 75), .pick (.t 72) (.t 74) (.c (.bool false)), none, true⟩])
               (.cond (.t 75) (.seq (.region [
                   ⟨(some 76), .mov (.t 0), none, true⟩,
                   ⟨(some 77), .mov (.t 1), none, true⟩,
                   ⟨(some 78), .mov (.t 2), none, true⟩,
                   ⟨(some 79), .mov (.t 4), none, true⟩,
                   ⟨(some 80), .call 277 [(.t 76), (.t 77), (.t 78), (.t 79)], none, true⟩])
                 (.cond (.t 80) (.ret)
                  (.skip)))
                (.skip)))
              (.seq (.seq (.draw [
                  ⟨(some 81), .mov (.t 1), none, true⟩,
                  ⟨(some 82), .bin .gtr (.t 81) (.c (.int .i64 0)), none, true⟩,
                  ⟨(some 83), .mov (.t 82), none, true⟩,
                  ⟨(some 84), .mov (.t 4), (some (83, true)), true⟩,
                  ⟨(some 85), .mov (.t 0), (some (83, true)), true⟩,
                  ⟨(some 86), .mov (.t 1), (some (83, true)), true⟩,
                  ⟨(some 87), .bin .sub (.t 86) (.c (.int .i64 1)), (some (83, true)), true⟩,
                  ⟨(some 88), .idxSl 1 (.t 85) (.t 87), (some (83, true)), true⟩,
                  ⟨(some 89), .load none (.t 88), (some (83, true)), true⟩,
                  ⟨(some 90), .mov (.t 0), (some (83, true)), true⟩,
                  ⟨(some 91), .mov (.t 13), (some (83, true)), true⟩,
                  ⟨(some 92), .idxSl 1 (.t 90) (.t 91), (some (83, true)), true⟩,
                  ⟨(some 93), .load none (.t 92), (some (83, true)), true⟩,
                  ⟨(some 94), .callV (.t 84) [(.t 89), (.t 93)], (some (83, true)), true⟩,
                  ⟨(some 95), .bin .lss (.t 94) (.c (.int .i64 0)), (some (83, true)), true⟩,
                  ⟨(some 96), .un .not (.t 95), (some (83, true)), true⟩,
                  ⟨(some 97), .pick (.t 83) (.t 96) (.c (.bool false)), none, true⟩] [])
                (.cond (.t 97) (.seq (.region [
                    ⟨(some 98), .mov (.t 0), none, true⟩,
                    ⟨(some 99), .mov (.t 1), none, true⟩,
                    ⟨(some 100), .mov (.t 2), none, true⟩,
                    ⟨(some 101), .mov (.t 13), none, true⟩,
                    ⟨(some 102), .mov (.t 4), none, true⟩,
                    ⟨(some 103), .call 278 [(.t 98), (.t 99), (.t 100), (.t 101), (.t 102)], none, true⟩,
                    ⟨(some 15), .mov (.t 103), none, true⟩])
                  (.seq (.region [
                     ⟨(some 104), .mov (.t 15), none, true⟩,
                     ⟨(some 1), .mov (.t 104), none, true⟩])
                   (.exit 1)))
                 (.skip)))
               (.seq (.region [
                  ⟨(some 106), .mov (.t 0), none, true⟩,
                  ⟨(some 107), .mov (.t 1), none, true⟩,
                  ⟨(some 108), .mov (.t 2), none, true⟩,
                  ⟨(some 109), .mov (.t 13), none, true⟩,
                  ⟨(some 110), .mov (.t 4), none, true⟩,
                  ⟨(some 111), .call 279 [(.t 106), (.t 107), (.t 108), (.t 109), (.t 110)], none, true⟩,
                  ⟨(some 105), .mov (.t 111), none, true⟩,
                  ⟨(some 112), .extract (.t 105) 0, none, true⟩,
                  ⟨(some 113), .extract (.t 105) 1, none, true⟩,
                  ⟨(some 16), .mov (.t 112), none, true⟩,
                  ⟨(some 17), .mov (.t 113), none, true⟩])
                (.seq (.region [
                   ⟨(some 114), .mov (.t 17), none, true⟩,
                   ⟨(some 11), .mov (.t 114), none, true⟩])
                 (.seq (.region [
                    ⟨(some 115), .mov (.t 16), none, true⟩,
                    ⟨(some 116), .mov (.t 1), none, true⟩,
                    ⟨(some 117), .bin .sub (.t 115) (.t 116), none, true⟩,
                    ⟨(some 118), .mov (.t 2), none, true⟩,
                    ⟨(some 119), .mov (.t 16), none, true⟩,
                    ⟨(some 120), .bin .sub (.t 118) (.t 119), none, true⟩,
                    ⟨(some 18), .mov (.t 117), none, true⟩,
                    ⟨(some 19), .mov (.t 120), none, true⟩])
                  (.seq (.region [
                     ⟨(some 121), .mov (.t 12), none, true⟩,
                     ⟨(some 122), .bin .quo (.t 121) (.c (.int .i64 8)), none, true⟩,
                     ⟨(some 20), .mov (.t 122), none, true⟩])
                   (.seq (.region [
                      ⟨(some 123), .mov (.t 18), none, true⟩,
                      ⟨(some 124), .mov (.t 19), none, true⟩,
                      ⟨(some 125), .bin .lss (.t 123) (.t 124), none, true⟩])
                    (.cond (.t 125) (.seq (.region [
                        ⟨(some 126), .mov (.t 18), none, true⟩,
                        ⟨(some 127), .mov (.t 20), none, true⟩,
                        ⟨(some 128), .bin .geq (.t 126) (.t 127), none, true⟩,
                        ⟨(some 10), .mov (.t 128), none, true⟩])
                      (.seq (.region [
                         ⟨(some 129), .mov (.t 0), none, true⟩,
                         ⟨(some 130), .mov (.t 1), none, true⟩,
                         ⟨(some 131), .mov (.t 16), none, true⟩,
                         ⟨(some 132), .mov (.t 3), none, true⟩,
                         ⟨(some 133), .mov (.t 4), none, true⟩,
                         ⟨(some 134), .call 264 [(.t 129), (.t 130), (.t 131), (.t 132), (.t 133)], none, true⟩])
                       (.region [
                         ⟨(some 135), .mov (.t 16), none, true⟩,
                         ⟨(some 136), .bin .add (.t 135) (.c (.int .i64 1)), none, true⟩,
                         ⟨(some 1), .mov (.t 136), none, true⟩])))
                     (.seq (.region [
                        ⟨(some 137), .mov (.t 19), none, true⟩,
                        ⟨(some 138), .mov (.t 20), none, true⟩,
                        ⟨(some 139), .bin .geq (.t 137) (.t 138), none, true⟩,
                        ⟨(some 10), .mov (.t 139), none, true⟩])
                      (.seq (.region [
                         ⟨(some 140), .mov (.t 0), none, true⟩,
                         ⟨(some 141), .mov (.t 16), none, true⟩,
                         ⟨(some 142), .bin .add (.t 141) (.c (.int .i64 1)), none, true⟩,
                         ⟨(some 143), .mov (.t 2), none, true⟩,
                         ⟨(some 144), .mov (.t 3), none, true⟩,
                         ⟨(some 145), .mov (.t 4), none, true⟩,
                         ⟨(some 146), .call 264 [(.t 140), (.t 142), (.t 143), (.t 144), (.t 145)], none, true⟩])
                       (.region [
                         ⟨(some 147), .mov (.t 16), none, true⟩,
                         ⟨(some 2), .mov (.t 147), none, true⟩]))))))))))))))))))))), []⟩

/-- slices.insertionSortCmpFunc[string] -/
def S272 : AF :=
  ⟨.seq (.region [
     ⟨(some 10), .mov (.t 1), none, true⟩,
     ⟨(some 11), .bin .add (.t 10) (.c (.int .i64 1)), none, true⟩,
     ⟨(some 8), .mov (.t 11), none, true⟩])
   (.block 0 (.loop (.seq (.seq (.region [
         ⟨(some 12), .mov (.t 8), none, true⟩,
         ⟨(some 13), .mov (.t 2), none, true⟩,
         ⟨(some 14), .bin .lss (.t 12) (.t 13), none, true⟩])
       (.cond (.t 14) (.skip)
        (.exit 0)))
      (.seq (.block 1 (.seq (.region [
           ⟨(some 17), .mov (.t 8), none, true⟩,
           ⟨(some 9), .mov (.t 17), none, true⟩])
         (.block 2 (.loop (.seq (.seq (.draw [
               ⟨(some 18), .mov (.t 9), none, true⟩,
               ⟨(some 19), .mov (.t 1), none, true⟩,
               ⟨(some 20), .bin .gtr (.t 18) (.t 19), none, true⟩,
               ⟨(some 21), .mov (.t 20), none, true⟩,
               ⟨(some 22), .mov (.t 3), (some (21, true)), true⟩,
               ⟨(some 23), .mov (.t 0), (some (21, true)), true⟩,
               ⟨(some 24), .mov (.t 9), (some (21, true)), true⟩,
               ⟨(some 25), .idxSl 1 (.t 23) (.t 24), (some (21, true)), true⟩,
               ⟨(some 26), .load none (.t 25), (some (21, true)), true⟩,
               ⟨(some 27), .mov (.t 0), (some (21, true)), true⟩,
               ⟨(some 28), .mov (.t 9), (some (21, true)), true⟩,
               ⟨(some 29), .bin .sub (.t 28) (.c (.int .i64 1)), (some (21, true)), true⟩,
               ⟨(some 30), .idxSl 1 (.t 27) (.t 29), (some (21, true)), true⟩,
               ⟨(some 31), .load none (.t 30), (some (21, true)), true⟩,
               ⟨(some 32), .callV (.t 22) [(.t 26), (.t 31)], (some (21, true)), true⟩,
               ⟨(some 33), .bin .lss (.t 32) (.c (.int .i64 0)), (some (21, true)), true⟩,
               ⟨(some 34), .pick (.t 21) (.t 33) (.c (.bool false)), none, true⟩] [])
             (.cond (.t 34) (.skip)
              (.exit 2)))
            (.seq (.block 3 (.draw [
                ⟨(some 37), .mov (.t 0), none, true⟩,
                ⟨(some 38), .mov (.t 9), none, true⟩,
                ⟨(some 39), .mov (.t 0), none, true⟩,
                ⟨(some 40), .mov (.t 9), none, true⟩,
                ⟨(some 41), .bin .sub (.t 40) (.c (.int .i64 1)), none, true⟩,
                ⟨(some 42), .mov (.t 0), none, true⟩,
                ⟨(some 43), .mov (.t 9), none, true⟩,
                ⟨(some 44), .bin .sub (.t 43) (.c (.int .i64 1)), none, true⟩,
                ⟨(some 45), .idxSl 1 (.t 42) (.t 44), none, true⟩,
                ⟨(some 46), .load none (.t 45), none, true⟩,
                ⟨(some 47), .mov (.t 0), none, true⟩,
                ⟨(some 48), .mov (.t 9), none, true⟩,
                ⟨(some 49), .idxSl 1 (.t 47) (.t 48), none, true⟩,
                ⟨(some 50), .load none (.t 49), none, true⟩,
                ⟨(some 51), .idxSl 1 (.t 37) (.t 38), none, true⟩,
                ⟨none, .store 1 (.t 51) (.t 46), none, true⟩,
                ⟨(some 52), .idxSl 1 (.t 39) (.t 41), none, true⟩,
                ⟨none, .store 1 (.t 52) (.t 50), none, true⟩] []))
             (.region [
               ⟨(some 35), .mov (.t 9), none, true⟩,
               ⟨(some 36), .bin .sub (.t 35) (.c (.int .i64 1)), none, true⟩,
               ⟨(some 9), .mov (.t 36), none, true⟩])))))))
       (.region [
         ⟨(some 15), .mov (.t 8), none, true⟩,
         ⟨(some 16), .bin .add (.t 15) (.c (.int .i64 1)), none, true⟩,
         ⟨(some 8), .mov (.t 16), none, true⟩]))))), []⟩


def utf8first : List V := (List.range 256).map fun i => V.int .u8 (if i < 128 then 240 else if i < 194 then 241 else if i < 224 then 2 else if i = 224 then 19 else if i < 237 then 3 else if i = 237 then 35 else if i < 240 then 3 else if i = 240 then 52 else if i < 244 then 4 else if i = 244 then 68 else 241 : Nat)
def words : List V := [.str [], .str [98, 101, 103, 105, 110], .str [114, 101, 97, 100], .str [119, 114, 105, 116, 101], .str [111, 107], .str [102, 97, 105, 108], .str [105, 110, 102, 111]]
def fc : FuncId → Option AF
  | 4 => some F4
  | 15 => some F15
  | 17 => some F17
  | 18 => some F18
  | 19 => some F19
  | 20 => some F20
  | 23 => some F23
  | 59 => some F59
  | 60 => some F60
  | 61 => some F61
  | 62 => some F62
  | 63 => some F63
  | 67 => some F67
  | 68 => some F68
  | 69 => some F69
  | 70 => some F70
  | 99 => some F99
  | 100 => some F100
  | 101 => some F101
  | 104 => some F104
  | 105 => some F105
  | 106 => some F106
  | 107 => some F107
  | 110 => some F110
  | 112 => some F112
  | 118 => some F118
  | 145 => some F145
  | 147 => some F147
  | 148 => some F148
  | 151 => some F151
  | 152 => some F152
  | 153 => some F153
  | 155 => some F155
  | 167 => some F167
  | 188 => some F188
  | 189 => some F189
  | 190 => some F190
  | 191 => some F191
  | 192 => some F192
  | 193 => some F193
  | 194 => some F194
  | 197 => some F197
  | 198 => some F198
  | 224 => some F224
  | 225 => some F225
  | 227 => some F227
  | 228 => some F228
  | 229 => some F229
  | 230 => some F230
  | 231 => some F231
  | 232 => some F232
  | 233 => some F233
  | 235 => some F235
  | 238 => some F238
  | 247 => some F247
  | 248 => some F248
  | 249 => some F249
  | 251 => some F251
  | 261 => some F261
  | 267 => some F267
  | _ => none
def fs : FuncId → Option AF
  | 102 => some S102
  | 108 => some S108
  | 109 => some S109
  | 146 => some S146
  | 149 => some S149
  | 150 => some S150
  | 154 => some S154
  | 196 => some S196
  | 197 => some S197
  | 236 => some S236
  | 238 => some S238
  | 254 => some S254
  | 255 => some S255
  | 264 => some S264
  | 272 => some S272
  | _ => none
def shl : List Nat := [75, 76, 102, 117, 120, 123, 134, 142, 149, 157, 158, 159, 160, 161, 162, 164, 165, 170, 175, 196, 200, 203, 204, 206, 207, 208, 209, 210, 211, 212, 213, 217, 236, 237, 241, 242, 243, 254, 255, 264, 272, 273, 274, 275, 276, 277, 278, 279, 283, 284, 285]
def E : Env := { sh := fun f => shl.any (Nat.beq f), fc := fc, fs := fs, gl := fun g => match g with | 0 => some words | 1 => some utf8first | _ => none }
theorem t17 : (callers E 100 noY).d 17 [] = some (.bool true) := by kernel_rfl
end Go.Pv.T

/- What BoundProducts computes. -/
namespace Go.Pv.T
open Go Go.Pv

theorem ev69 (n : Int) : Ev E 69 [.int .i64 n] (.bool (decide (n < 0))) := by
  refine Ev_wp (af := F69) rfl ?_
  simp [F69]
  exact endV_1 rfl (by simp) rfl
/-- A slice of ints. -/
def ints (l : List Int) : List V := l.map (.int .i64)
def slI (b : Bool) (l : List Int) : V := .sl none b l.length (ints l)
@[simp] theorem ints_length (l : List Int) : (ints l).length = l.length := by simp [ints]
theorem ints_get (l : List Int) (i : Nat) : (ints l)[i]? = (l[i]?).map (.int .i64) := by simp [ints]
/-- Where the first negative one stands. -/
def firstNeg (l : List Int) : Int := match l.findIdx? (fun n => decide (n < 0)) with
  | some i => i
  | none => -1
theorem wrap64 {n : Int} (h : -9223372036854775808 ≤ n) (h' : n ≤ 9223372036854775807) : IntKind.i64.wrap n = n := by
  rw [IntKind.wrap_i64]; omega

theorem firstNeg_found {l : List Int} {i : Nat} {n : Int} (h : l[i]? = some n) (hn : n < 0) (hb : ∀ j m, j < i → l[j]? = some m → ¬ m < 0) : firstNeg l = i := by
  unfold firstNeg
  have : l.findIdx? (fun n => decide (n < 0)) = some i := by
    rw [List.findIdx?_eq_some_iff_getElem]
    obtain ⟨hi, e⟩ := List.getElem?_eq_some_iff.1 h
    refine ⟨hi, by rw [e]; simpa using hn, fun j hj => ?_⟩
    have := hb j l[j] hj (List.getElem?_eq_getElem _)
    simpa using this
  rw [this]
theorem firstNeg_none {l : List Int} (hb : ∀ j m, j < l.length → l[j]? = some m → ¬ m < 0) : firstNeg l = -1 := by
  unfold firstNeg
  have : l.findIdx? (fun n => decide (n < 0)) = none := by
    rw [List.findIdx?_eq_none_iff]
    intro x hx
    obtain ⟨j, hj, e⟩ := List.getElem_of_mem hx
    have := hb j x hj (by rw [List.getElem?_eq_getElem hj, e])
    simpa using this
  rw [this]

theorem ev106 (b : Bool) (l : List Int) (hl : l.length ≤ 140737488355328) : Ev E 106 [slI b l, .fn (.func 69) [] []] (.int .i64 (firstNeg l)) := by
  refine Ev_wp (af := F106) rfl ?_
  simp [F106, slI]
  refine wp_loop (n := l.length) (fun k s => ∃ i, k = l.length - i ∧ i ≤ l.length ∧ s.df = [] ∧ s.tm 0 = slI b l ∧ s.tm 1 = .fn (.func 69) [] [] ∧ s.tm 7 = .int .i64 l.length ∧ s.tm 8 = .int .i64 i ∧ ∀ j m, j < i → l[j]? = some m → ¬ m < 0)
    ⟨0, by simp [slI]⟩ ?_
  rintro k s ⟨i, rfl, hi, hd, h0, h1, h7, h8, hb⟩
  simp [h0, h1, h7, h8, slI]
  refine ⟨fun hlt => ?_, fun hge => ?_⟩
  · have hlt' : i < l.length := by omega
    refine ⟨hlt', ?_⟩
    rw [ints_get, List.getElem?_eq_getElem hlt']
    simp
    refine wpS_callV (f := 69) (first := []) (captured := []) (by simp) ?_
    refine ⟨⟨rfl, by simp [V.strip, V.pureTop, V.pureLeaf]⟩, .bool (decide (l[i] < 0)), ?_, ?_⟩
    · simpa [V.strip] using ev69 l[i]
    · simp [h0, h1, h7, h8, hd]
      refine ⟨fun hneg => ?_, fun hneg => ?_⟩
      · refine endV_1 hd ?_ rfl
        simp
        rw [firstNeg_found (List.getElem?_eq_getElem hlt') hneg hb]
      · refine ⟨l.length - (i + 1), by omega, i + 1, rfl, by omega, rfl, by rw [wrap64 (by omega) (by omega)]; simp, ?_⟩
        intro j m hj hm
        rcases Nat.lt_succ_iff_lt_or_eq.1 hj with h | rfl
        · exact Int.not_lt.1 (hb j m h hm)
        · rw [List.getElem?_eq_getElem hlt'] at hm; cases hm; omega
  · have : i = l.length := by omega
    subst this
    refine endV_1 (by simp [hd]) ?_ rfl
    simp [firstNeg_none hb]
theorem ev68 (b : Bool) (l : List Int) (hl : l.length ≤ 140737488355328) : Ev E 68 [slI b l, .fn (.func 69) [] []] (.bool (decide (0 ≤ firstNeg l))) := by
  refine Ev_wp (af := F68) rfl ?_
  simp [F68, slI]
  refine wpS_callE (vs := [slI b l, .fn (.func 69) [] []]) (by simp [slI]) rfl rfl (ev106 b l hl) ?_
  simp
  exact endV_1 rfl (by simp) rfl

/-- What both come to. -/
def prodL : Int → List Int → Int × Int
  | p, [] => (p, 0)
  | p, n :: l => if 0 < n ∧ Int.tdiv 4611686018427387904 n < p then (0, 6) else prodL (p * n) l
def prodI (l : List Int) : Int × Int := if 0 ≤ firstNeg l then (0, 2) else prodL 1 l
def pairI (x : Int × Int) : V := .tup [.int .i64 x.1, .int .i64 x.2]
theorem neg_mem {l : List Int} (h : ¬ 0 ≤ firstNeg l) : ∀ n ∈ l, 0 ≤ n := by
  intro n hn
  unfold firstNeg at h
  cases hf : l.findIdx? (fun n => decide (n < 0)) with
  | some i => rw [hf] at h; exact absurd (Int.natCast_nonneg i) h
  | none => rw [List.findIdx?_eq_none_iff] at hf; simpa using hf n hn
theorem firstNeg_ge {l : List Int} {i : Nat} (h : i < l.length) (hn : l[i] < 0) (hb : ∀ j m, j < i → l[j]? = some m → ¬ m < 0) : 0 ≤ firstNeg l := by
  rw [firstNeg_found (List.getElem?_eq_getElem h) hn hb]; exact Int.natCast_nonneg i
theorem prod_step {p n : Int} (h0 : 0 ≤ p) (hn : 0 ≤ n) (h : ¬ (0 < n ∧ Int.tdiv 4611686018427387904 n < p)) : 0 ≤ p * n ∧ p * n ≤ 4611686018427387904 := by
  refine ⟨Int.mul_nonneg h0 hn, ?_⟩
  rcases Int.lt_or_eq_of_le hn with h1 | rfl
  · have h2 : p ≤ Int.tdiv 4611686018427387904 n := by
      rcases Int.lt_or_le (Int.tdiv 4611686018427387904 n) p with h3 | h3
      · exact absurd ⟨h1, h3⟩ h
      · exact h3
    rw [Int.tdiv_eq_ediv_of_nonneg (by decide)] at h2
    exact Int.mul_le_of_le_ediv h1 h2
  · simp
theorem drop_step {l : List Int} {i : Nat} (h : i < l.length) (p : Int) : prodL p (l.drop i) = if 0 < l[i] ∧ Int.tdiv 4611686018427387904 l[i] < p then (0, 6) else prodL (p * l[i]) (l.drop (i + 1)) := by
  rw [List.drop_eq_getElem_cons h]; rfl

theorem ev19 (b : Bool) (l : List Int) (hl : l.length ≤ 140737488355328) : Ev E 19 [slI b l] (pairI (prodI l)) := by
  refine Ev_wp (af := F19) rfl ?_
  simp [F19, slI]
  refine wpS_callE (vs := [slI b l, .fn (.func 69) [] []]) (by simp [slI]) rfl rfl (ev68 b l hl) ?_
  simp
  refine ⟨fun h => ?_, fun h => ?_⟩
  · refine endV_2 rfl (v := .int .i64 0) (u := .int .i64 2) (by simp) (by simp) rfl rfl |>.trans ?_
    simp [prodI, h, pairI]
  · have hm := neg_mem (Int.not_le.2 h)
    refine wp_loop (n := l.length) (fun k s => ∃ i p, k = l.length - i ∧ i ≤ l.length ∧ s.df = [] ∧ s.tm 9 = slI b l ∧ s.tm 10 = .int .i64 l.length ∧ s.tm 11 = .int .i64 i ∧ s.tm 4 = .int .i64 p ∧ 0 ≤ p ∧ p ≤ 4611686018427387904 ∧ prodL p (l.drop i) = prodI l)
      ⟨0, 1, by simp [slI, prodI]; intro h'; omega⟩ ?_
    rintro k s ⟨i, p, rfl, hi, hd, h9, h10, h11, h4, hp0, hp1, hp⟩
    simp [h9, h10, h11, h4, slI]
    refine ⟨fun hlt => ?_, fun hge => ?_⟩
    · have hlt' : i < l.length := by omega
      refine ⟨hlt', ?_⟩
      rw [ints_get, List.getElem?_eq_getElem hlt']
      have hn0 := hm _ (List.getElem_mem hlt')
      rw [drop_step hlt'] at hp
      by_cases hpos : 0 < l[i]
      · have hw : IntKind.i64.wrap (Int.tdiv 4611686018427387904 l[i]) = Int.tdiv 4611686018427387904 l[i] := Go.wrap_i64_tdiv _ _ (by decide) (by decide) (by omega)
        simp [hpos, Int.ne_of_gt hpos, hw]
        refine ⟨fun hbig => ?_, fun hok => ?_⟩
        · refine endV_2 (by simpa using hd) (v := .int .i64 0) (u := .int .i64 6) (by simp) (by simp) rfl rfl |>.trans ?_
          rw [if_pos ⟨hpos, hbig⟩] at hp
          simp [← hp, pairI]
        · have hno : ¬ (0 < l[i] ∧ Int.tdiv 4611686018427387904 l[i] < p) := fun h => by omega
          rw [if_neg hno] at hp
          have hs := prod_step hp0 hn0 hno
          refine ⟨l.length - (i + 1), by omega, i + 1, rfl, by omega, hd, by rw [wrap64 (by omega) (by omega)]; simp, ?_⟩
          rw [wrap64 (by omega) (by omega)]
          exact ⟨hs.1, hs.2, hp⟩
      · have hz : l[i] = 0 := by omega
        have hno : ¬ (0 < l[i] ∧ Int.tdiv 4611686018427387904 l[i] < p) := fun h => hpos h.1
        rw [if_neg hno] at hp
        simp [hz]
        refine ⟨l.length - (i + 1), by omega, i + 1, rfl, by omega, hd, by rw [wrap64 (by omega) (by omega)]; simp, ?_⟩
        rw [hz] at hp
        simpa [wrap64] using hp
    · have : i = l.length := by omega
      subst this
      refine endV_2 (by simpa using hd) (v := .int .i64 p) (u := .int .i64 0) (by simp) (by simp) rfl rfl |>.trans ?_
      simp [prodL] at hp
      simp [← hp, pairI]
end Go.Pv.T

/- What BoundProducts computes: the reference and the whole. -/
namespace Go.Pv.T
open Go Go.Pv

theorem ev20 (b : Bool) (l : List Int) (hl : l.length ≤ 140737488355328) : Ev E 20 [slI b l] (pairI (prodI l)) := by
  refine Ev_wp (af := F20) rfl ?_
  simp [F20, slI]
  refine wp_loop (n := l.length) (fun k s => ∃ i, k = l.length - i ∧ i ≤ l.length ∧ s.df = [] ∧ s.tm 0 = slI b l ∧ s.tm 4 = .int .i64 1 ∧ s.tm 5 = .int .i64 i ∧ ∀ j m, j < i → l[j]? = some m → ¬ m < 0)
    ⟨0, by simp [slI]⟩ ?_
  rintro k s ⟨i, rfl, hi, hd, h0, h4, h5, hb⟩
  simp [h0, h5, slI]
  refine ⟨fun hlt => ?_, fun hge => ?_⟩
  · have hlt' : i < l.length := by omega
    refine ⟨hlt', ?_⟩
    rw [ints_get, List.getElem?_eq_getElem hlt']
    simp
    refine ⟨fun hneg => ?_, fun hneg => ?_⟩
    · refine endV_2 (by simpa using hd) (v := .int .i64 0) (u := .int .i64 2) (by simp) (by simp) rfl rfl |>.trans ?_
      simp [prodI, firstNeg_ge hlt' hneg hb, pairI]
    · refine ⟨l.length - (i + 1), by omega, i + 1, rfl, by omega, hd, h4, by rw [wrap64 (by omega) (by omega)]; simp, ?_⟩
      intro j m hj hm
      rcases Nat.lt_succ_iff_lt_or_eq.1 hj with h | rfl
      · exact Int.not_lt.1 (hb j m h hm)
      · rw [List.getElem?_eq_getElem hlt'] at hm; cases hm; omega
  · have : i = l.length := by omega
    subst this
    have hf : ¬ 0 ≤ firstNeg l := by rw [firstNeg_none hb]; decide
    have hm := neg_mem hf
    refine wp_loop (n := l.length) (fun k s => ∃ i p, k = l.length - i ∧ i ≤ l.length ∧ s.df = [] ∧ s.tm 0 = slI b l ∧ s.tm 6 = .int .i64 i ∧ s.tm 4 = .int .i64 p ∧ 0 ≤ p ∧ p ≤ 4611686018427387904 ∧ prodL p (l.drop i) = prodI l)
      ⟨0, 1, by simp [slI, prodI, h0, h4, hd]; intro h'; omega⟩ ?_
    rintro k s ⟨i, p, rfl, hi, hd, h0, h6, h4, hp0, hp1, hp⟩
    simp [h0, h6, h4, slI]
    refine ⟨fun hlt => ?_, fun hge => ?_⟩
    · have hlt' : i < l.length := by omega
      refine ⟨hlt', ?_⟩
      rw [ints_get, List.getElem?_eq_getElem hlt']
      have hn0 := hm _ (List.getElem_mem hlt')
      rw [drop_step hlt'] at hp
      by_cases hpos : 0 < l[i]
      · have hw : IntKind.i64.wrap (Int.tdiv 4611686018427387904 l[i]) = Int.tdiv 4611686018427387904 l[i] := Go.wrap_i64_tdiv _ _ (by decide) (by decide) (by omega)
        simp [hpos, hw, hlt', Int.ne_of_gt hpos]
        refine ⟨fun hbig => ?_, fun hok => ?_⟩
        · refine endV_2 (by simpa using hd) (v := .int .i64 0) (u := .int .i64 6) (by simp) (by simp) rfl rfl |>.trans ?_
          rw [if_pos ⟨hpos, hbig⟩] at hp
          simp [← hp, pairI]
        · have hno : ¬ (0 < l[i] ∧ Int.tdiv 4611686018427387904 l[i] < p) := fun h => by omega
          rw [if_neg hno] at hp
          have hs := prod_step hp0 hn0 hno
          refine ⟨l.length - (i + 1), by omega, i + 1, rfl, by omega, hd, by rw [wrap64 (by omega) (by omega)]; simp, ?_⟩
          rw [wrap64 (by omega) (by omega)]
          exact ⟨hs.1, hs.2, hp⟩
      · have hz : l[i] = 0 := by omega
        have hno : ¬ (0 < l[i] ∧ Int.tdiv 4611686018427387904 l[i] < p) := fun h => hpos h.1
        rw [if_neg hno] at hp
        simp [hz, hlt']
        refine ⟨l.length - (i + 1), by omega, i + 1, rfl, by omega, hd, by rw [wrap64 (by omega) (by omega)]; simp, ?_⟩
        rw [hz] at hp
        simpa [wrap64] using hp
    · have : i = l.length := by omega
      subst this
      refine endV_2 (by simpa using hd) (v := .int .i64 p) (u := .int .i64 0) (by simp) (by simp) rfl rfl |>.trans ?_
      simp [prodL] at hp
      simp [← hp, pairI]
end Go.Pv.T

/- What BoundProducts computes: the copy, the whole. -/
namespace Go.Pv.T
open Go Go.Pv

theorem ints_pure (l : List Int) : (ints l).all V.pureLeaf = true := by simp [ints, V.pureLeaf]
theorem ints_nil {l : List Int} : ints l = [] ↔ l = [] := by simp [ints]
theorem endV_tok {n u m : Nat} {st : St} {cs : List V} (hd : st.df = []) (h : st.tm n = .sl (some (u, 1)) false m cs) (ht : st.tk u = true) : endV [.t n] (.ret, st) = some (.sl (some (0, 1)) false m cs) := by
  simp only [endV, dfOk_of hd, noDf_of hd, if_true, List.mapM_cons, List.mapM_nil, resOf, h]
  simp [outRes, outTops, outTop, outLeaf, V.toks, V.tok, nodup, ht]
theorem ev18 (b : Bool) (l : List Int) (hl : l.length ≤ 17592186044416) : Ev E 18 [slI b l] (.sl (some (0, 1)) false l.length (ints l)) := by
  refine Ev_wp (af := F18) rfl ?_
  simp [F18, slI]
  rw [wpStep_of _ rfl rfl]
  simp [aop, fill, evalParts]
  rw [wpStep_of _ rfl rfl]
  by_cases hn : l = []
  · subst hn
    simp [aop, slCells, app_tm, ints, wpD_one]
    exact endV_tok (u := 64) rfl (by simp) (by simp [app_tk])
  · have hp := ints_pure l
    simp only [List.all_eq_true] at hp
    have hn' : ints l ≠ [] := fun h => hn (ints_nil.1 h)
    simp [aop, slCells, app_tm, hn', app_tk]
    refine ⟨⟨hp, by omega, by omega⟩, ?_⟩
    exact endV_tok (u := 192) rfl (by simp) (by simp [app_tk])
theorem retA_tok (ub n : Nat) (cs : List V) : retA ub (.sl (some (0, 1)) false n cs) = some { v := .sl (some (ub, 1)) false n cs, add := [ub] } := rfl
@[simp] theorem take_ints (n : Nat) (l : List Int) : (ints l).take n = ints (l.take n) := by simp [ints, List.map_take]

theorem ev4 (b : Bool) (l : List Int) (hl : l.length ≤ 17592186044415) : Ev E 4 [slI b l] (.bool true) := by
  refine Ev_wp (af := F4) rfl ?_
  obtain ⟨l', hl'⟩ : ∃ l', l' = l.take 200 := ⟨_, rfl⟩
  have hlen : l'.length = min 200 l.length := by rw [hl', List.length_take]
  have ht : l'.length ≤ 17592186044416 := by omega
  have h2 := ev19 false l' (by omega)
  have h3 := ev20 false l' (by omega)
  have h1 := ev18 false l' ht
  have h17 : Ev E 17 [] (.bool true) := ⟨100, t17⟩
  generalize hq : prodI l' = q at h2 h3
  obtain ⟨q1, q2⟩ := q
  have hm : minmaxV false [V.int .i64 l.length, V.int .i64 200] = some (.int .i64 l'.length) := by
    simp only [minmaxV, minmaxL, minmax2, if_true, Option.bind_some]
    simp
    split <;> omega
  have hs : slSlV 1 none (some (.int .i64 l'.length)) (.sl none b l.length (ints l)) = some (.sl none b l'.length (ints l')) := by
    have hb : bounds l.length l.length none (some (.int .i64 l'.length)) = some (0, l'.length) := by
      simp only [bounds]
      rw [if_pos ⟨by omega, by omega⟩]
      simp
    simp only [slSlV, ints_length, Nat.mul_one, if_true, hb, Option.map_some, List.drop_zero, Nat.sub_zero, take_ints]
    rw [hlen, hl', List.take_eq_take_iff.2 (by omega : min (min 200 l.length) l.length = min 200 l.length)]
  simp [F4, slI, hm, hs]
  refine wpS_callE (vs := [slI b l']) (by simp [slI]) rfl (by simp [slI, V.strip, V.pureTop, V.pureLeaf]) (ev18 b l' ht) ?_
  simp [retA_tok]
  refine wpS_callE (vs := [.sl (some (384, 1)) false l'.length (ints l')]) (by simp [app_tm]) rfl (by simp [V.strip, V.pureTop, V.pureLeaf]) h1 ?_
  simp [retA_tok, app_tm]
  refine wpS_callE (vs := [.sl (some (576, 1)) false l'.length (ints l')]) (by simp [app_tm]) rfl (by simp [V.strip, V.pureTop, V.pureLeaf]) h2 ?_
  simp [pairI, app_tm]
  refine wpS_callE (vs := [.sl (some (384, 1)) false l'.length (ints l')]) (by simp) rfl (by simp [V.strip, V.pureTop, V.pureLeaf]) h3 ?_
  simp [pairI, app_tm]
  refine wpS_callE (vs := []) rfl rfl rfl h17 ?_
  simp
  exact endV_1 (by simp [app_df]) (by simp) rfl
end Go.Pv.T

/- The environment is what the program's code says. -/
namespace Go.Pv.T
open Go Go.Pv Go.Proofs

theorem afOk_of {P : Program} {m r : Bool} {f : FuncId} {fn : Func} {af : AF} (h1 : P.funcs[f]? = some fn) (h2 : compF P m r fn = some af) (h3 : (fn.name == "runtime.NumGoroutine") = false) (h4 : af.body.dstOk fn.ntmps = true) : AfOk P r f af := by
  unfold compF at h2
  cases hb : fn.body with
  | none => rw [hb] at h2; cases h2
  | some c =>
    rw [hb, Option.bind_some] at h2
    cases hc : comp P m r c with
    | none => rw [hc] at h2; cases h2
    | some b =>
      rw [hc, Option.bind_some] at h2
      cases hr : fn.results.toList.mapM (compRes P) with
      | none => rw [hr] at h2; cases h2
      | some res =>
        rw [hr] at h2
        cases h2
        exact ⟨m, fn, c, h1, hb, hc, hr, h3, h4⟩

theorem okc4 : AfOk Tryz.prog false 4 F4 := afOk_of (m := false) Tryz.func4 (by kernel_rfl) (by kernel_rfl) (by kernel_rfl)
theorem okc15 : AfOk Tryz.prog false 15 F15 := afOk_of (m := false) Tryz.func15 (by kernel_rfl) (by kernel_rfl) (by kernel_rfl)
theorem okc17 : AfOk Tryz.prog false 17 F17 := afOk_of (m := false) Tryz.func17 (by kernel_rfl) (by kernel_rfl) (by kernel_rfl)
theorem okc18 : AfOk Tryz.prog false 18 F18 := afOk_of (m := false) Tryz.func18 (by kernel_rfl) (by kernel_rfl) (by kernel_rfl)
theorem okc19 : AfOk Tryz.prog false 19 F19 := afOk_of (m := false) Tryz.func19 (by kernel_rfl) (by kernel_rfl) (by kernel_rfl)
theorem okc20 : AfOk Tryz.prog false 20 F20 := afOk_of (m := false) Tryz.func20 (by kernel_rfl) (by kernel_rfl) (by kernel_rfl)
theorem okc23 : AfOk Tryz.prog false 23 F23 := afOk_of (m := false) Tryz.func23 (by kernel_rfl) (by kernel_rfl) (by kernel_rfl)
theorem okc59 : AfOk Tryz.prog false 59 F59 := afOk_of (m := false) Tryz.func59 (by kernel_rfl) (by kernel_rfl) (by kernel_rfl)
theorem okc60 : AfOk Tryz.prog false 60 F60 := afOk_of (m := false) Tryz.func60 (by kernel_rfl) (by kernel_rfl) (by kernel_rfl)
theorem okc61 : AfOk Tryz.prog false 61 F61 := afOk_of (m := false) Tryz.func61 (by kernel_rfl) (by kernel_rfl) (by kernel_rfl)
theorem okc62 : AfOk Tryz.prog false 62 F62 := afOk_of (m := false) Tryz.func62 (by kernel_rfl) (by kernel_rfl) (by kernel_rfl)
theorem okc63 : AfOk Tryz.prog false 63 F63 := afOk_of (m := false) Tryz.func63 (by kernel_rfl) (by kernel_rfl) (by kernel_rfl)
theorem okc67 : AfOk Tryz.prog false 67 F67 := afOk_of (m := false) Tryz.func67 (by kernel_rfl) (by kernel_rfl) (by kernel_rfl)
theorem okc68 : AfOk Tryz.prog false 68 F68 := afOk_of (m := false) Tryz.func68 (by kernel_rfl) (by kernel_rfl) (by kernel_rfl)
theorem okc69 : AfOk Tryz.prog false 69 F69 := afOk_of (m := false) Tryz.func69 (by kernel_rfl) (by kernel_rfl) (by kernel_rfl)
theorem okc70 : AfOk Tryz.prog false 70 F70 := afOk_of (m := false) Tryz.func70 (by kernel_rfl) (by kernel_rfl) (by kernel_rfl)
theorem okc99 : AfOk Tryz.prog false 99 F99 := afOk_of (m := false) Tryz.func99 (by kernel_rfl) (by kernel_rfl) (by kernel_rfl)
theorem okc100 : AfOk Tryz.prog false 100 F100 := afOk_of (m := false) Tryz.func100 (by kernel_rfl) (by kernel_rfl) (by kernel_rfl)
theorem okc101 : AfOk Tryz.prog false 101 F101 := afOk_of (m := false) Tryz.func101 (by kernel_rfl) (by kernel_rfl) (by kernel_rfl)
theorem okc104 : AfOk Tryz.prog false 104 F104 := afOk_of (m := false) Tryz.func104 (by kernel_rfl) (by kernel_rfl) (by kernel_rfl)
theorem okc105 : AfOk Tryz.prog false 105 F105 := afOk_of (m := true) Tryz.func105 (by kernel_rfl) (by kernel_rfl) (by kernel_rfl)
theorem okc106 : AfOk Tryz.prog false 106 F106 := afOk_of (m := false) Tryz.func106 (by kernel_rfl) (by kernel_rfl) (by kernel_rfl)
theorem okc107 : AfOk Tryz.prog false 107 F107 := afOk_of (m := false) Tryz.func107 (by kernel_rfl) (by kernel_rfl) (by kernel_rfl)
theorem okc110 : AfOk Tryz.prog false 110 F110 := afOk_of (m := false) Tryz.func110 (by kernel_rfl) (by kernel_rfl) (by kernel_rfl)
theorem okc112 : AfOk Tryz.prog false 112 F112 := afOk_of (m := false) Tryz.func112 (by kernel_rfl) (by kernel_rfl) (by kernel_rfl)
theorem okc118 : AfOk Tryz.prog false 118 F118 := afOk_of (m := false) Tryz.func118 (by kernel_rfl) (by kernel_rfl) (by kernel_rfl)
theorem okc145 : AfOk Tryz.prog false 145 F145 := afOk_of (m := false) Tryz.func145 (by kernel_rfl) (by kernel_rfl) (by kernel_rfl)
theorem okc147 : AfOk Tryz.prog false 147 F147 := afOk_of (m := false) Tryz.func147 (by kernel_rfl) (by kernel_rfl) (by kernel_rfl)
theorem okc148 : AfOk Tryz.prog false 148 F148 := afOk_of (m := false) Tryz.func148 (by kernel_rfl) (by kernel_rfl) (by kernel_rfl)
theorem okc151 : AfOk Tryz.prog false 151 F151 := afOk_of (m := false) Tryz.func151 (by kernel_rfl) (by kernel_rfl) (by kernel_rfl)
theorem okc152 : AfOk Tryz.prog false 152 F152 := afOk_of (m := false) Tryz.func152 (by kernel_rfl) (by kernel_rfl) (by kernel_rfl)
theorem okc153 : AfOk Tryz.prog false 153 F153 := afOk_of (m := false) Tryz.func153 (by kernel_rfl) (by kernel_rfl) (by kernel_rfl)
theorem okc155 : AfOk Tryz.prog false 155 F155 := afOk_of (m := false) Tryz.func155 (by kernel_rfl) (by kernel_rfl) (by kernel_rfl)
theorem okc167 : AfOk Tryz.prog false 167 F167 := afOk_of (m := false) Tryz.func167 (by kernel_rfl) (by kernel_rfl) (by kernel_rfl)
theorem okc188 : AfOk Tryz.prog false 188 F188 := afOk_of (m := false) Tryz.func188 (by kernel_rfl) (by kernel_rfl) (by kernel_rfl)
theorem okc189 : AfOk Tryz.prog false 189 F189 := afOk_of (m := false) Tryz.func189 (by kernel_rfl) (by kernel_rfl) (by kernel_rfl)
theorem okc190 : AfOk Tryz.prog false 190 F190 := afOk_of (m := false) Tryz.func190 (by kernel_rfl) (by kernel_rfl) (by kernel_rfl)
theorem okc191 : AfOk Tryz.prog false 191 F191 := afOk_of (m := false) Tryz.func191 (by kernel_rfl) (by kernel_rfl) (by kernel_rfl)
theorem okc192 : AfOk Tryz.prog false 192 F192 := afOk_of (m := false) Tryz.func192 (by kernel_rfl) (by kernel_rfl) (by kernel_rfl)
theorem okc193 : AfOk Tryz.prog false 193 F193 := afOk_of (m := false) Tryz.func193 (by kernel_rfl) (by kernel_rfl) (by kernel_rfl)
theorem okc194 : AfOk Tryz.prog false 194 F194 := afOk_of (m := false) Tryz.func194 (by kernel_rfl) (by kernel_rfl) (by kernel_rfl)
theorem okc197 : AfOk Tryz.prog false 197 F197 := afOk_of (m := true) Tryz.func197 (by kernel_rfl) (by kernel_rfl) (by kernel_rfl)
theorem okc198 : AfOk Tryz.prog false 198 F198 := afOk_of (m := false) Tryz.func198 (by kernel_rfl) (by kernel_rfl) (by kernel_rfl)
theorem okc224 : AfOk Tryz.prog false 224 F224 := afOk_of (m := false) Tryz.func224 (by kernel_rfl) (by kernel_rfl) (by kernel_rfl)
theorem okc225 : AfOk Tryz.prog false 225 F225 := afOk_of (m := false) Tryz.func225 (by kernel_rfl) (by kernel_rfl) (by kernel_rfl)
theorem okc227 : AfOk Tryz.prog false 227 F227 := afOk_of (m := false) Tryz.func227 (by kernel_rfl) (by kernel_rfl) (by kernel_rfl)
theorem okc228 : AfOk Tryz.prog false 228 F228 := afOk_of (m := false) Tryz.func228 (by kernel_rfl) (by kernel_rfl) (by kernel_rfl)
theorem okc229 : AfOk Tryz.prog false 229 F229 := afOk_of (m := false) Tryz.func229 (by kernel_rfl) (by kernel_rfl) (by kernel_rfl)
theorem okc230 : AfOk Tryz.prog false 230 F230 := afOk_of (m := false) Tryz.func230 (by kernel_rfl) (by kernel_rfl) (by kernel_rfl)
theorem okc231 : AfOk Tryz.prog false 231 F231 := afOk_of (m := false) Tryz.func231 (by kernel_rfl) (by kernel_rfl) (by kernel_rfl)
theorem okc232 : AfOk Tryz.prog false 232 F232 := afOk_of (m := false) Tryz.func232 (by kernel_rfl) (by kernel_rfl) (by kernel_rfl)
theorem okc233 : AfOk Tryz.prog false 233 F233 := afOk_of (m := false) Tryz.func233 (by kernel_rfl) (by kernel_rfl) (by kernel_rfl)
theorem okc235 : AfOk Tryz.prog false 235 F235 := afOk_of (m := false) Tryz.func235 (by kernel_rfl) (by kernel_rfl) (by kernel_rfl)
theorem okc238 : AfOk Tryz.prog false 238 F238 := afOk_of (m := true) Tryz.func238 (by kernel_rfl) (by kernel_rfl) (by kernel_rfl)
theorem okc247 : AfOk Tryz.prog false 247 F247 := afOk_of (m := false) Tryz.func247 (by kernel_rfl) (by kernel_rfl) (by kernel_rfl)
theorem okc248 : AfOk Tryz.prog false 248 F248 := afOk_of (m := false) Tryz.func248 (by kernel_rfl) (by kernel_rfl) (by kernel_rfl)
theorem okc249 : AfOk Tryz.prog false 249 F249 := afOk_of (m := false) Tryz.func249 (by kernel_rfl) (by kernel_rfl) (by kernel_rfl)
theorem okc251 : AfOk Tryz.prog false 251 F251 := afOk_of (m := false) Tryz.func251 (by kernel_rfl) (by kernel_rfl) (by kernel_rfl)
theorem okc261 : AfOk Tryz.prog false 261 F261 := afOk_of (m := false) Tryz.func261 (by kernel_rfl) (by kernel_rfl) (by kernel_rfl)
theorem okc267 : AfOk Tryz.prog false 267 F267 := afOk_of (m := false) Tryz.func267 (by kernel_rfl) (by kernel_rfl) (by kernel_rfl)
theorem oks102 : AfOk Tryz.prog true 102 S102 := afOk_of (m := true) Tryz.func102 (by kernel_rfl) (by kernel_rfl) (by kernel_rfl)
theorem oks108 : AfOk Tryz.prog true 108 S108 := afOk_of (m := true) Tryz.func108 (by kernel_rfl) (by kernel_rfl) (by kernel_rfl)
theorem oks109 : AfOk Tryz.prog true 109 S109 := afOk_of (m := true) Tryz.func109 (by kernel_rfl) (by kernel_rfl) (by kernel_rfl)
theorem oks146 : AfOk Tryz.prog true 146 S146 := afOk_of (m := true) Tryz.func146 (by kernel_rfl) (by kernel_rfl) (by kernel_rfl)
theorem oks149 : AfOk Tryz.prog true 149 S149 := afOk_of (m := true) Tryz.func149 (by kernel_rfl) (by kernel_rfl) (by kernel_rfl)
theorem oks150 : AfOk Tryz.prog true 150 S150 := afOk_of (m := true) Tryz.func150 (by kernel_rfl) (by kernel_rfl) (by kernel_rfl)
theorem oks154 : AfOk Tryz.prog true 154 S154 := afOk_of (m := true) Tryz.func154 (by kernel_rfl) (by kernel_rfl) (by kernel_rfl)
theorem oks196 : AfOk Tryz.prog true 196 S196 := afOk_of (m := true) Tryz.func196 (by kernel_rfl) (by kernel_rfl) (by kernel_rfl)
theorem oks197 : AfOk Tryz.prog true 197 S197 := afOk_of (m := true) Tryz.func197 (by kernel_rfl) (by kernel_rfl) (by kernel_rfl)
theorem oks236 : AfOk Tryz.prog true 236 S236 := afOk_of (m := true) Tryz.func236 (by kernel_rfl) (by kernel_rfl) (by kernel_rfl)
theorem oks238 : AfOk Tryz.prog true 238 S238 := afOk_of (m := true) Tryz.func238 (by kernel_rfl) (by kernel_rfl) (by kernel_rfl)
theorem oks254 : AfOk Tryz.prog true 254 S254 := afOk_of (m := true) Tryz.func254 (by kernel_rfl) (by kernel_rfl) (by kernel_rfl)
theorem oks255 : AfOk Tryz.prog true 255 S255 := afOk_of (m := true) Tryz.func255 (by kernel_rfl) (by kernel_rfl) (by kernel_rfl)
theorem oks264 : AfOk Tryz.prog true 264 S264 := afOk_of (m := true) Tryz.func264 (by kernel_rfl) (by kernel_rfl) (by kernel_rfl)
theorem oks272 : AfOk Tryz.prog true 272 S272 := afOk_of (m := true) Tryz.func272 (by kernel_rfl) (by kernel_rfl) (by kernel_rfl)

theorem envOk : EnvOk Tryz.prog E := by
  refine ⟨fun f af h => ?_, fun f af h => ?_⟩
  · simp only [E] at h
    unfold fc at h
    split at h
    · cases h; exact okc4
    · cases h; exact okc15
    · cases h; exact okc17
    · cases h; exact okc18
    · cases h; exact okc19
    · cases h; exact okc20
    · cases h; exact okc23
    · cases h; exact okc59
    · cases h; exact okc60
    · cases h; exact okc61
    · cases h; exact okc62
    · cases h; exact okc63
    · cases h; exact okc67
    · cases h; exact okc68
    · cases h; exact okc69
    · cases h; exact okc70
    · cases h; exact okc99
    · cases h; exact okc100
    · cases h; exact okc101
    · cases h; exact okc104
    · cases h; exact okc105
    · cases h; exact okc106
    · cases h; exact okc107
    · cases h; exact okc110
    · cases h; exact okc112
    · cases h; exact okc118
    · cases h; exact okc145
    · cases h; exact okc147
    · cases h; exact okc148
    · cases h; exact okc151
    · cases h; exact okc152
    · cases h; exact okc153
    · cases h; exact okc155
    · cases h; exact okc167
    · cases h; exact okc188
    · cases h; exact okc189
    · cases h; exact okc190
    · cases h; exact okc191
    · cases h; exact okc192
    · cases h; exact okc193
    · cases h; exact okc194
    · cases h; exact okc197
    · cases h; exact okc198
    · cases h; exact okc224
    · cases h; exact okc225
    · cases h; exact okc227
    · cases h; exact okc228
    · cases h; exact okc229
    · cases h; exact okc230
    · cases h; exact okc231
    · cases h; exact okc232
    · cases h; exact okc233
    · cases h; exact okc235
    · cases h; exact okc238
    · cases h; exact okc247
    · cases h; exact okc248
    · cases h; exact okc249
    · cases h; exact okc251
    · cases h; exact okc261
    · cases h; exact okc267
    · cases h
  · simp only [E] at h
    unfold fs at h
    split at h
    · cases h; exact oks102
    · cases h; exact oks108
    · cases h; exact oks109
    · cases h; exact oks146
    · cases h; exact oks149
    · cases h; exact oks150
    · cases h; exact oks154
    · cases h; exact oks196
    · cases h; exact oks197
    · cases h; exact oks236
    · cases h; exact oks238
    · cases h; exact oks254
    · cases h; exact oks255
    · cases h; exact oks264
    · cases h; exact oks272
    · cases h
end Go.Pv.T

/- The row's side, the same for every law of the seat. -/
namespace Go.Pv.T
open Go Go.Pv Go.Proofs Go.ChangeShapes Go.WideShapes Go.ChangeAt Go.RowKit Go.Proofs.YtopjfnbonjmnjaaGreatDoor

theorem own : ownKnob Tryz.prog.godebug = none := by kernel_rfl
theorem laidOut : laidOutB Tryz.prog = true := by kernel_rfl
theorem mixed : Tryz.prog.follows .mixedOrders = true := by kernel_rfl

/-- What is laid ahead of the call. -/
def laidL : List (String × DataW Unit) := [("unicode/utf8.acceptRanges", Rows.laid_unicode_utf8_acceptRanges), ("deemster/event.words", Rows.laid_deemster_event_words), ("unicode/utf8.first", Rows.laid_unicode_utf8_first)]

def litVal : V → Value
  | .int k n => .int k n
  | .str s => .string ⟨s.toArray⟩
  | _ => .nilFunc
def putCells (h : Array Obj) (g : Nat) (cs : Array Value) : Array Obj := h.modify g fun
    | .cells _ t frozen => .cells cs t frozen
    | o => o
def acceptCells : Array Value := #[.int .u8 128, .int .u8 191, .int .u8 160, .int .u8 191, .int .u8 128, .int .u8 159, .int .u8 144, .int .u8 191, .int .u8 128, .int .u8 143, .int .u8 0, .int .u8 0, .int .u8 0, .int .u8 0, .int .u8 0, .int .u8 0, .int .u8 0, .int .u8 0, .int .u8 0, .int .u8 0, .int .u8 0, .int .u8 0, .int .u8 0, .int .u8 0, .int .u8 0, .int .u8 0, .int .u8 0, .int .u8 0, .int .u8 0, .int .u8 0, .int .u8 0, .int .u8 0]
/-- A start that meets the condition: the settled world, three variables laid. -/
noncomputable def laidWorld (os : Os) : World :=
  let w0 := World.holding Tryz.prog os ⟨#[], #[], []⟩
  { w0 with heap := putCells (putCells (putCells w0.heap 0 (words.map litVal).toArray) 1 (utf8first.map litVal).toArray) 2 acceptCells }
set_option maxRecDepth 100000 in
theorem door_met (os : Os) (args : Array Value) : laidMetH Tryz.prog laidL ((laidWorld os).forCall (fun _ _ => 0) ⟨#[], args, []⟩).memory := by
  rw [MakeChecks.laidMetH_plain _ _ _ (by kernel_rfl)]
  exact laidMet_of_run' 8 (by kernel_rfl) (by kernel_rfl)

theorem gWords : Tryz.prog.globalNamed "deemster/event.words" = some 0 := by kernel_rfl
theorem gFirst : Tryz.prog.globalNamed "unicode/utf8.first" = some 1 := by kernel_rfl
theorem tWords : (Tryz.prog.globals[0]?).map (·.type) = some 274 := by kernel_rfl
theorem tFirst : (Tryz.prog.globals[1]?).map (·.type) = some 286 := by kernel_rfl

/-- What a world's cells say. -/
def cellsI (W : World) : IMap := fun b o => W.cell? ⟨b, o, none⟩
theorem cellsI_ok (W : World) : ImmOk (cellsI W) W := fun _ _ _ h => h

def litV : DataW Unit → V
  | .lit (.int k n) => .int k n
  | .lit (.string s) => .str s
  | _ => .undef
theorem litV_pure : ∀ d : DataW Unit, litV d ≠ .undef → (litV d).pureLeaf = true
  | .lit (.int _ _), _ => rfl
  | .lit (.string _), _ => rfl
  | .lit (.bool _), h => absurd rfl h
  | .lit (.float ..), h => absurd rfl h
  | .nil, h => absurd rfl h

/-- An array of plain cells that reads as listed. -/
theorem arr_rep {W : World} {t e : TypeId} {n fuel : Nat} {cs : List Value} {ds : List (DataW Unit)} {p : List MemPlace} (ht : Tryz.prog.underlying t = some (.array n e)) (hc : Tryz.prog.cellsOf e = 1)
    (he : Tryz.prog.underlying e = some .string ∨ ∃ k, Tryz.prog.underlying e = some (.int k)) (h : DataW.trod (fun _ => ()) Tryz.prog W 0 (fun _ => true) false fuel t cs = some (.agg ds, p)) (I : IMap) :
    ∀ (j : Nat) (d : DataW Unit), ds[j]? = some d → ∃ x, cs[j]? = some x ∧ RepP I x (litV d) := by
  obtain ⟨xs, m, rfl, hx, hlen, hn, hel⟩ := DataW.trod_array ht h
  intro j d hd
  simp only [Prod.mk.injEq, DataW.agg.injEq] at hx
  rw [hx.1, List.getElem?_map] at hd
  cases hy : xs[j]? with
  | none => simp [hy] at hd
  | some y =>
    rw [hy] at hd
    simp only [Option.map_some, Option.some.injEq] at hd
    have hj : j < n := by rw [← hn]; exact (List.getElem?_eq_some_iff.1 hy).1
    have := hel j hj
    rw [hc, Nat.mul_one, hy] at this
    have one : ∀ c, (cs.drop j).take 1 = [c] → cs[j]? = some c := by
      intro c hcc
      have := congrArg List.head? hcc
      simpa [List.head?_take, List.head?_drop] using this
    rcases he with he | ⟨k, he⟩
    · obtain ⟨s, e1, e2, _⟩ := DataW.trod_string he this
      refine ⟨_, one _ e1, ?_⟩
      rw [← hd, e2]
      exact RepP.str s
    · obtain ⟨s, e1, e2, _⟩ := DataW.trod_int he this
      refine ⟨_, one _ e1, ?_⟩
      rw [← hd, e2]
      exact RepP.int k s

theorem gl_rep {W : World} {nm : String} {g : Nat} {cs : Array Value} {ds : List (DataW Unit)} (hg : Tryz.prog.globalNamed nm = some g) (hv : W.var? Tryz.prog nm = some cs) (hp : (ds.map litV).all V.pureLeaf = true)
    (h : ∀ (j : Nat) (d : DataW Unit), ds[j]? = some d → ∃ x, cs.toList[j]? = some x ∧ RepP (cellsI W) x (litV d)) : RepP (cellsI W) (.pointer (some ⟨g, 0, none⟩)) (.eptr (ds.map litV) 0) := by
  have hc := World.var?_cell hg hv
  refine RepP.eptr g 0 0 (ds.map litV) (fun j => (cs[j]?).getD .nilFunc) (fun j hj => ?_) (fun j v hj => ?_) (fun j v hj => ?_)
  · rw [List.length_map] at hj
    obtain ⟨x, hx, _⟩ := h j ds[j] (List.getElem?_eq_getElem hj)
    have hx' : cs[j]? = some x := by simpa using hx
    show W.cell? ⟨g, 0 + j, none⟩ = _
    rw [Nat.zero_add, hc j, hx']
    rfl
  · exact List.all_eq_true.1 hp v (List.mem_of_getElem? hj)
  · rw [List.getElem?_map] at hj
    cases hd : ds[j]? with
    | none => rw [hd] at hj; cases hj
    | some d =>
      rw [hd] at hj
      cases hj
      obtain ⟨x, hx, hr⟩ := h j d hd
      have hx' : cs[j]? = some x := by simpa using hx
      rw [hx']
      exact hr

def aggOf : DataW Unit → List (DataW Unit)
  | .agg l => l
  | _ => []
theorem words_eq : (aggOf Rows.laid_deemster_event_words).map litV = words := by kernel_rfl
theorem first_eq : (aggOf Rows.laid_unicode_utf8_first).map litV = utf8first := by kernel_rfl
theorem first_agg : Rows.laid_unicode_utf8_first = .agg (aggOf Rows.laid_unicode_utf8_first) := by kernel_rfl
theorem words_pure : ((aggOf Rows.laid_deemster_event_words).map litV).all V.pureLeaf = true := by kernel_rfl
theorem first_pure : ((aggOf Rows.laid_unicode_utf8_first).map litV).all V.pureLeaf = true := by kernel_rfl

theorem glOk {W : World} (h : laidMetH Tryz.prog laidL W) : GlOk E (cellsI W) := by
  rw [MakeChecks.laidMetH_plain _ _ _ (by kernel_rfl)] at h
  obtain ⟨ps, ⟨g2, t2, cs2, f2, p2, q2, hg2, ht2, hv2, hd2, ⟨g0, t0, cs0, f0, p0, q0, hg0, ht0, hv0, hd0, ⟨g1, t1, cs1, f1, p1, q1, hg1, ht1, hv1, hd1, _, _⟩, _⟩, _⟩, _, _⟩ := h
  obtain rfl := Option.some.inj (gWords.symm.trans hg0)
  obtain rfl := Option.some.inj (gFirst.symm.trans hg1)
  obtain rfl := Option.some.inj (tWords.symm.trans ht0)
  obtain rfl := Option.some.inj (tFirst.symm.trans ht1)
  intro g cs hcs
  simp only [E] at hcs
  split at hcs
  · cases hcs
    rw [← words_eq]
    exact gl_rep gWords hv0 words_pure (arr_rep Tryz.underlying274 (by kernel_rfl) (Or.inl (by kernel_rfl)) hd0 _)
  · cases hcs
    rw [← first_eq]
    rw [first_agg] at hd1
    exact gl_rep gFirst hv1 first_pure (arr_rep Tryz.underlying286 (by kernel_rfl) (Or.inr ⟨.u8, by kernel_rfl⟩) hd1 _)
  · cases hcs

/-- Behind a call that leaves what was there as it was, each argument reads as it did. -/
theorem all_below {H : Type} {enc : TypeId × Value → H} {W W' : World} (hb : Below W.heap.size W W') : ∀ {ts : List TypeId} {vs : List Value} {ds : List (DataW H)} {ps : List MemPlace},
    (∀ t ∈ ts, Tryz.prog.readableRec t = true ∧ t < Tryz.prog.types.size) → (∀ x ∈ ps, x.block < W.heap.size) →
    DataW.TrodAll enc Tryz.prog W 0 (fun _ => true) true ts vs ds ps → DataW.TrodAll enc Tryz.prog W' 0 (fun b => decide (b < W.heap.size)) true ts vs ds ps
  | [], [], [], _, _, _, h => h
  | t :: ts, v :: vs, d :: ds, _, ht, hlt, ⟨p, q, h1, h2, e⟩ => by
    subst e
    exact ⟨p, q, Below.trod laidOut (ht t (List.mem_cons_self ..)).1 (ht t (List.mem_cons_self ..)).2 h1 hb (fun x hx => hlt x (List.mem_append_left _ hx)),
      all_below hb (fun t' h' => ht t' (List.mem_cons_of_mem _ h')) (fun x hx => hlt x (List.mem_append_right _ hx)) h2, rfl⟩
  | [], _ :: _, _, _, _, _, h => h.elim
  | [], [], _ :: _, _, _, _, h => h.elim
  | _ :: _, [], _, _, _, _, h => h.elim
  | _ :: _, _ :: _, [], _, _, _, h => h.elim

/-- The row's word behind a call that answers true and turns nothing. -/
theorem post_true {H : Type} {enc : TypeId × Value → H} {fn : Func} {s : ChangeSpec} {W W' : World} {args : Array Value} {ds gs : List (DataW H)} {before : List MemPlace} (hW : DataW.Whole enc Tryz.prog fn.params.toList s.vars false W args.toList ds gs before)
    (hv : s.vars = []) (hr : fn.resultTypes = #[4]) (hs : (s.fn H ds).results = [.lit (.bool true)]) (ha : (s.fn H ds).args = ds) (hvs : (s.fn H ds).vars = [])
    (ht : ∀ t ∈ fn.params.toList, Tryz.prog.readableRec t = true ∧ t < Tryz.prog.types.size) (hg : W.grownBy W' none) : s.post enc Tryz.prog fn false true false false W args (.bool true) W' := by
  have hb : Below W.heap.size W W' := (Below.refl _ W).grown hg (Nat.le_refl _) (fun _ h => by cases h)
  have hW' := hW
  obtain ⟨p, q, hA, hV, rfl, _, _⟩ := hW
  rw [hv] at hV
  obtain ⟨rfl, rfl⟩ := trodVars_none hV
  have hlt : ∀ x ∈ p, x.block < W.heap.size := fun x hx => by simpa using hW'.lt x (List.mem_append_left _ hx)
  refine ⟨ds, [], _, [], p, [], hW', ?_, ?_, ?_, hb.frame _, fun h => by cases h⟩
  · rw [List.append_nil, hs, hr]
    exact trodAll_mk1 (shut_bool Tryz.underlying4 _)
  · rw [List.append_nil, ha]
    exact all_below hb ht hlt hA
  · rw [List.append_nil, hvs, hv]
    rfl
end Go.Pv.T
