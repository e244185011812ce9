import Derived.Test.YtbfbaofhnnnohaaGreatDoorAmD
import Derived.Test.YtbfbaofhnnnohaaGreatDoorAmA
import Derived.Test.YtbfbaofhnnnohaaGreatDoorAmE
namespace Go.Proofs.YtbfbaofhnnnohaaGreatDoor
namespace Am
def sumT : T (List Value → H → Option (Value × H)) := (.node (.node (.node .leaf none (.node .leaf none (.node .leaf none (.node .leaf none (.node .leaf none (.node (.node .leaf (some sumJoin) .leaf) none .leaf)))))) none .leaf) none (.node (.node (.node (.node .leaf none (.node (.node .leaf none (.node .leaf (some (sumAppU [131])) .leaf)) none .leaf)) none (.node (.node .leaf none (.node (.node (.node .leaf (some sumReplace) .leaf) none .leaf) none .leaf)) none .leaf)) none .leaf) none (.node (.node .leaf none (.node (.node .leaf none (.node (.node (.node .leaf (some (sumSortS [347, 390])) .leaf) none .leaf) none .leaf)) none .leaf)) none .leaf)))
def sums : Sums := fun f => sumT.get f
end Am
end Go.Proofs.YtbfbaofhnnnohaaGreatDoor
